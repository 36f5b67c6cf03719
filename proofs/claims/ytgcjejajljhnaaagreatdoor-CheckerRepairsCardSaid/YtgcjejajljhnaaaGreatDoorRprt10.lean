/- Own text, part Rprt 10: walks of the package acl and of its reference, and the plain laws that they lean on; no statement of the seat is here. -/
import Derived.Test.YtgcjejajljhnaaaGreatDoorRprt1
import Derived.Test.YtgcjejajljhnaaaGreatDoorRprt9
import Derived.Test.YtgcjejajljhnaaaGreatDoorRprt6
import Derived.Test.YtgcjejajljhnaaaGreatDoorRprt8
import Derived.Test.YtgcjejajljhnaaaGreatDoorRprt7
set_option linter.all false
namespace Ck
def Ne (p:Rp) (j:Nat) (m:Nm):Prop:=(right p.v m.d&&(p.rc m.d.r).k==0)=true/\∃e∈(p.rc m.d.r).es,e.f=p.ref j/\e.n=m.n
theorem zkg {p:Rp} {d:Int} {n:List UInt8} {r:Nat} (hd:d.toNat<p.v.rs.length) (i:Nat):(at_ Rc.o (enter p d n r).v.rs i).es=if d.toNat=i then(at_ Rc.o p.v.rs i).es++[⟨n,p.ref r,sizeOf (p.rc r)⟩] else(at_ Rc.o p.v.rs i).es:=by
 unfold enter;show(at_ Rc.o (p.v.rs.set d.toNat _) i).es=_;rw[zb0];by_cases h:d.toNat=i
 ·subst h;rw[ygX ⟨rfl,hd⟩,ygX rfl];rfl
 ·rw[yfX (λc=>h c.1),yfX h]
theorem zjE {p:Rp} {d:Int} {n:List UInt8} {r:Nat} (i:Nat):(at_ Rc.o (enter p d n r).v.rs i).ns=(at_ Rc.o p.v.rs i).ns:=by
 unfold enter;show(at_ Rc.o (p.v.rs.set d.toNat _) i).ns=_;rw[zb0];split
 ·rename_i h;obtain⟨rfl,_⟩:=h;rfl
 ·rfl
theorem zmw {p:Rp} {r:Nat} {n:Nm} (i:Nat):(at_ Rc.o (drop p r n).v.rs i).ns=(at_ Rc.o p.v.rs i).ns:=by
 unfold drop;split
 ·show(at_ Rc.o (p.v.rs.set n.d.r.toNat _) i).ns=_;rw[zb0];split
  ·rename_i h;obtain⟨rfl,_⟩:=h;rfl
  ·rfl
 ·rfl
theorem zhW {p:Rp} {r:Nat} {n:Nm} (i:Nat):(at_ Rc.o (drop p r n).v.rs i).es=if(right p.v n.d&&(p.rc n.d.r).k==0)=true/\n.d.r.toNat=i then(at_ Rc.o p.v.rs i).es.filter (λx=> !(decide (x.f=p.ref r)&&decide (x.n=n.n))) else(at_ Rc.o p.v.rs i).es:=by
 unfold drop;by_cases hc:(right p.v n.d&&(p.rc n.d.r).k==0)=true
 ·rw[ygX hc];show(at_ Rc.o (p.v.rs.set n.d.r.toNat _) i).es=_;rw[zb0];by_cases h:n.d.r.toNat=i
  ·subst h;rw[ygX ⟨rfl,(zce hc).2.1⟩,ygX ⟨hc,rfl⟩];rfl
  ·rw[yfX (λc=>h c.1),yfX (λc=>h c.2)]
 ·rw[yfX hc,yfX (λc=>hc c.1)]
theorem zjq {p q:Rp} (h:Kp p q) (d:Ref):(right q.v d&&(q.rc d.r).k==0)=(right p.v d&&(p.rc d.r).k==0):=by
 rw[h.2.1.right h.2.2.2];have:(q.rc d.r).k=(p.rc d.r).k:=(h.2.1 d.r.toNat).2.1;rw[this]
theorem znU {n:List UInt8}:∀{l:List En},ixE n l=none->l.any (λy=>same n y.n)=false
 |[],_=>rfl
 |x::l,h=>by
  unfold ixE at h;split at h
  ·cases h
  ·rename_i hc
   have h2:ixE n l=none:=by
    cases hx:ixE n l with
    |none=>rfl
    |some k=>rw[hx] at h;cases h
   rw[List.any_cons,znU h2,y3Y,zfa];simpa using hc
theorem znT {n:List UInt8}:∀{l:List En} {k:Nat},ixE n l=some k->k<l.length
 |[],_,h=>by cases h
 |x::l,k,h=>by
  unfold ixE at h;split at h
  ·cases h;simp
  ·cases hx:ixE n l with
   |none=>rw[hx] at h;cases h
   |some j=>
    rw[hx] at h;have:=znT hx;cases h;simp;omega
structure Nj (p:Rp) (i:Nat) (all:List Nm) (k:Nat) (s:Rp×List Nm):Prop where
 kp:Kp p s.1
 kn:Kn p s.1
 en:∀d,∀e∈(at_ Rc.o s.1.v.rs d).es,right p.v e.f=true/\16<=e.f.r/\if e.f.r.toNat=i then(⟨p.ref d,e.n⟩:Nm)∈s.2++all.drop k else(⟨p.ref d,e.n⟩:Nm)∈(p.rc e.f.r).ns
 pw:Pw s.1
 ne:∀m∈s.2,Ne s.1 i m
 oth:∀j,j≠i->∀m,Ne p j m->Ne s.1 j m
 one:(p.rc i).k≠1->s.2.length<=1
 es0:∀d,dir (at_ Rc.o p.v.rs d)=false->(at_ Rc.o s.1.v.rs d).es=[]
theorem zvc {p:Rp} {i j:Nat} (h:p.ref i=p.ref j):i=j:=by
 have:((i:Nat):Int)=((j:Nat):Int):=yqX Ref.r h;omega
theorem Ne.of_v {p q:Rp} {j:Nat} {m:Nm} (h:Ne p j m) (hv:q.v=p.v):Ne q j m:=by
 unfold Ne Rp.ref Rp.rc at h⊢;rw[hv];exact h
theorem Ne.enter {p:Rp} {j:Nat} {m:Nm} (h:Ne p j m) {d:Int} {n:List UInt8} {r:Nat} (hd:d.toNat<p.v.rs.length):Ne (Ck.enter p d n r) j m:=by
 have hk:Kp p (Ck.enter p d n r):=(ybY p).enter d n r;obtain⟨h1,e,h2,h3,h4⟩:=h;refine⟨by rw[zjq hk];exact h1,e,?_,by rw[hk.2.1.ref];exact h3,h4⟩;show e∈(at_ Rc.o (Ck.enter p d n r).v.rs m.d.r.toNat).es;rw[zkg hd];split
 ·exact yUX _ h2
 ·exact h2
theorem Ne.drop {p:Rp} {j:Nat} {m:Nm} (h:Ne p j m) {r:Nat} {n:Nm} (hne:j≠r∨m≠n):Ne (Ck.drop p r n) j m:=by
 have hk:Kp p (Ck.drop p r n):=(ybY p).drop r n;obtain⟨h1,e,h2,h3,h4⟩:=h;refine⟨by rw[zjq hk];exact h1,e,?_,by rw[hk.2.1.ref];exact h3,h4⟩;show e∈(at_ Rc.o (Ck.drop p r n).v.rs m.d.r.toNat).es;rw[zhW];split
 ·rename_i hc;rw[yVY];refine⟨h2,?_⟩
  rcases hne with hne|hne
  ·have:e.f≠p.ref r:=λc=>hne (zvc (h3.symm.trans c));simp[this]
  ·have a1:=(zce h1)
   have a2:=(zce hc.1)
   have hr:m.d.r=n.d.r:=by have:=hc.2;omega
   have hd:m.d=n.d:=by rw[←a1.2.2.2,←a2.2.2.2,hr]
   have:e.n≠n.n:=λc=>hne (by
    cases m;cases n
    simp only[Nm.mk.injEq] at*
    exact⟨hd,by rw[←h4,c]⟩)
   simp[this]
 ·exact h2
theorem zdW {p:Rp} {i:Nat} (hi:i<p.v.rs.length) (ho:own (p.rc i)=true):right p.v (p.ref i)=true:=by
 unfold right
 have h1:wi (p.ref i).r 0 ((p.v.rs.length:Int)-1)=true:=by
  unfold wi Rp.ref;simp only[ykX,yDX];omega
 have h2:own (rc p.v (p.ref i).r)=true:=ho
 have h3:((rc p.v (p.ref i).r).q==(p.ref i).q)=true:=by rw[yiY];rfl
 rw[h1,h2,h3];rfl
theorem Nj.step {p:Rp} {i:Nat} {all:List Nm} {k:Nat} {s:Rp×List Nm} (h:Nj p i all k s) (hk:k<all.length) (hi:16<=i/\i<p.v.rs.length) (ho:own (p.rc i)=true):Nj p i all (k+1) (nameStep i all s k):=by
 obtain⟨n,hn⟩:∃n,at_ Nm.o all k=n:=⟨_,rfl⟩
 have hdr:all.drop k=n::all.drop (k+1):=by rw[drop_at Nm.o all k hk,hn]
 have hnk:at_ Nm.o all k=n:=hn;unfold nameStep;dsimp only;rw[hnk];split
 ·rename_i c1;obtain⟨b1,b2,b3⟩:=zfy c1
  have hone:(p.rc i).k≠1->(s.2++[n]).length<=1:=λhk1=>by
   by_cases e:s.2=[]
   ·rw[e];simp
   ·have e2:(s.1.rc i).k=(p.rc i).k:=(h.kp.2.1 ((i:Nat):Int).toNat).2.1;exact absurd (b2 e) (by rw[e2];exact hk1)
  split
  ·rename_i c2;obtain⟨j,g1,g2,g3⟩:=ziK c1 c2;have hj:=znT g1;refine⟨h.kp,h.kn,λd e he=> ?_,h.pw,λm hm=> ?_,h.oth,hone,h.es0⟩
   ·obtain⟨q1,q2,q3⟩:=h.en d e he;refine⟨q1,q2,?_⟩;rw[hdr] at q3;simpa[yVX] using q3
   ·rcases yRX.1 hm with hm|hm
    ·exact h.ne m hm
    ·rcases yiX.1 hm with rfl
     exact⟨b1,_,at_mem En.o _ j hj,g2,g3⟩
  ·rename_i c2;obtain⟨g1,g4⟩:=zeu c1 (by simpa using c2);obtain⟨r1,r2,r3,r4⟩:=zce b1;have hkp:Kp s.1 (Ck.enter (s.1.note 5 i s.2.length) n.d.r n.n i):=((ybY s.1).of_v (r:=s.1.note 5 i s.2.length) rfl).enter _ _ _;have r2':n.d.r.toNat<(s.1.note 5 i s.2.length).v.rs.length:=r2
   have hes:∀d,(at_ Rc.o (Ck.enter (s.1.note 5 i s.2.length) n.d.r n.n i).v.rs d).es=if n.d.r.toNat=d then(at_ Rc.o s.1.v.rs d).es++[⟨n.n,s.1.ref i,sizeOf (s.1.rc i)⟩] else(at_ Rc.o s.1.v.rs d).es:=λd=>zkg r2' d
   refine⟨h.kp.trans hkp,λj=>(zjE j).trans (h.kn j),λd e he=> ?_,λd=> ?_,λm hm=> ?_,λj hj m hm=> ?_,hone,λd hd=> ?_⟩
   ·have he:e∈(at_ Rc.o (Ck.enter (s.1.note 5 i s.2.length) n.d.r n.n i).v.rs d).es:=he;rw[hes] at he
    have hold:e∈(at_ Rc.o s.1.v.rs d).es->right p.v e.f=true/\16<=e.f.r/\if e.f.r.toNat=i then(⟨p.ref d,e.n⟩:Nm)∈(s.2++[n])++all.drop (k+1) else(⟨p.ref d,e.n⟩:Nm)∈(p.rc e.f.r).ns:=λhe=>by
     obtain⟨q1,q2,q3⟩:=h.en d e he;refine⟨q1,q2,?_⟩;rw[hdr] at q3;simpa[yVX] using q3
    split at he
    ·rename_i hdd
     rcases yRX.1 he with he|he
     ·exact hold he
     ·rcases yiX.1 he with rfl
      have hre:s.1.ref i=p.ref i:=h.kp.2.1.ref _;refine⟨by show right p.v (s.1.ref i)=true;rw[hre];exact zdW hi.2 ho,by show(16:Int)<=(i:Nat);omega,?_⟩
      have hti:(s.1.ref i).r.toNat=i:=by show(((i:Nat):Int)).toNat=i;exact yrX i
      rw[ygX hti]
      have hdn:p.ref d=n.d:=by
       rw[←h.kp.2.1.ref,←hdd,yWY r1,r4]
      show(⟨p.ref d,n.n⟩:Nm)∈_;rw[hdn];simp
    ·exact hold he
   ·show Pws (at_ Rc.o (Ck.enter (s.1.note 5 i s.2.length) n.d.r n.n i).v.rs d).es;rw[hes];split
    ·rename_i hdd;refine(h.pw d).snoc ?_;subst hdd;exact znU g1
    ·exact h.pw d
   ·rcases yRX.1 hm with hm|hm
    ·exact((h.ne m hm).of_v (q:=s.1.note 5 i s.2.length) rfl).enter r2'
    ·rcases yiX.1 hm with rfl
     refine⟨by rw[zjq hkp];exact b1,⟨m.n,s.1.ref i,sizeOf (s.1.rc i)⟩,?_,(hkp.2.1.ref _).symm,rfl⟩;show _∈(at_ Rc.o (Ck.enter (s.1.note 5 i s.2.length) m.d.r m.n i).v.rs m.d.r.toNat).es;rw[hes,ygX rfl];exact y6X _ (yiX.2 rfl)
   ·exact((h.oth j hj m hm).of_v (q:=s.1.note 5 i s.2.length) rfl).enter r2'
   ·show(at_ Rc.o (Ck.enter (s.1.note 5 i s.2.length) n.d.r n.n i).v.rs d).es=[]
    rw[hes,yfX]
    ·exact h.es0 d hd
    ·rintro rfl;have:dir (at_ Rc.o s.1.v.rs n.d.r.toNat)=true:=r3;rw[h.kp.2.1.dir,hd] at this;cases this
 ·rename_i c1;have hp4:Kp s.1 (s.1.note 4 i s.2.length):=(ybY s.1).of_v rfl
  have hsub:∀d e,e∈(at_ Rc.o s.1.v.rs d).es->(e.f.r.toNat=i->(⟨p.ref d,e.n⟩:Nm)=n->n∈s.2++all.drop (k+1))->right p.v e.f=true/\16<=e.f.r/\if e.f.r.toNat=i then(⟨p.ref d,e.n⟩:Nm)∈s.2++all.drop (k+1) else(⟨p.ref d,e.n⟩:Nm)∈(p.rc e.f.r).ns:=λd e he hn2=>by
   obtain⟨q1,q2,q3⟩:=h.en d e he;refine⟨q1,q2,?_⟩;by_cases hfi:e.f.r.toNat=i
   ·rw[ygX hfi] at q3⊢;rw[hdr] at q3
    rcases yRX.1 q3 with q3|q3
    ·exact yUX _ q3
    ·rcases yAX.1 q3 with q3|q3
     ·rw[q3];exact hn2 hfi q3
     ·exact y6X _ q3
   ·rw[yfX hfi] at q3⊢;exact q3
  split
  ·rename_i c2;simp only[ykX,y1X,List.contains_eq_mem,yPY] at c2;have hkp:Kp s.1 (Ck.drop (s.1.note 4 i s.2.length) i n):=hp4.drop i n
   have hes:∀d,(at_ Rc.o (Ck.drop (s.1.note 4 i s.2.length) i n).v.rs d).es=if(right s.1.v n.d&&(s.1.rc n.d.r).k==0)=true/\n.d.r.toNat=d then(at_ Rc.o s.1.v.rs d).es.filter (λx=> !(decide (x.f=s.1.ref i)&&decide (x.n=n.n))) else(at_ Rc.o s.1.v.rs d).es:=λd=>zhW d
   refine⟨h.kp.trans hkp,λj=>(zmw j).trans (h.kn j),λd e he=> ?_,λd=> ?_,λm hm=> ?_,λj hj m hm=> ?_,h.one,λd hd=> ?_⟩
   ·have he:e∈(at_ Rc.o (Ck.drop (s.1.note 4 i s.2.length) i n).v.rs d).es:=he;rw[hes] at he
    have hin:e∈(at_ Rc.o s.1.v.rs d).es:=by
     split at he
     ·exact(yVY.1 he).1
     ·exact he
    refine hsub d e hin λhfi hnn=> ?_;exfalso;obtain⟨q1,q2,_⟩:=h.en d e hin
    have hef:e.f=s.1.ref i:=by
     rw[h.kp.2.1.ref];unfold right at q1;simp only[ykX,yiY] at q1;have q4:=q1.2;have hr:e.f.r=(i:Nat):=zo;unfold Rp.ref Rp.rc;rw[hr] at q4
     cases hf:e.f with
     |mk a b=>
      rw[hf] at hr q4;simp only at hr q4;rw[hr,←q4]
    have hdir:dir (at_ Rc.o p.v.rs d)=true:=by
     cases hd:dir (at_ Rc.o p.v.rs d)
     ·rw[h.es0 d hd] at hin;cases hin
     ·rfl
    have hdl:d<p.v.rs.length:=by
     by_cases hd:d<p.v.rs.length
     ·exact hd
     ·unfold at_ at hdir;rw[yyX zo] at hdir;cases hdir
    have hnd:n.d=p.ref d:=by rw[←hnn]
    have hen:e.n=n.n:=by rw[←hnn]
    have hrd:(right s.1.v n.d&&(s.1.rc n.d.r).k==0)=true:=by
     rw[zjq h.kp,hnd]
     have hown:own (p.rc d)=true:=by
      rw[zae];unfold dir at hdir;simp only[ykX,yiY] at hdir;unfold own;rw[hdir.1,hdir.2];rfl
     rw[zdW hdl hown]
     have:(p.rc (p.ref d).r).k=0:=by
      show(p.rc (d:Nat)).k=0;rw[zae];unfold dir at hdir;simp only[ykX,yiY] at hdir;exact hdir.2
     rw[this];rfl
    have hdd:n.d.r.toNat=d:=by rw[hnd];show(((d:Nat):Int)).toNat=d;exact yrX d
    rw[ygX ⟨hrd,hdd⟩,yVY] at he;have:=he.2;rw[hef,hen] at this;simp at this
   ·show Pws (at_ Rc.o (Ck.drop (s.1.note 4 i s.2.length) i n).v.rs d).es;rw[hes];split
    ·exact List.Pairwise.filter _ (h.pw d)
    ·exact h.pw d
   ·exact((h.ne m hm).of_v (q:=s.1.note 4 i s.2.length) rfl).drop (.inr λe=>c2.1 (e▸hm))
   ·exact((h.oth j hj m hm).of_v (q:=s.1.note 4 i s.2.length) rfl).drop (.inl hj)
   ·show(at_ Rc.o (Ck.drop (s.1.note 4 i s.2.length) i n).v.rs d).es=[]
    rw[hes,h.es0 d hd];split<;>rfl
  ·rename_i c2;refine⟨h.kp.of_v rfl,h.kn,λd e he=>hsub d e he λ_ _=> ?_,h.pw,λm hm=>(h.ne m hm).of_v rfl,λj hj m hm=>(h.oth j hj m hm).of_v rfl,h.one,h.es0⟩;simp only[ykX,y1X,List.contains_eq_mem,yPY,not_and,yFZ] at c2;by_cases hb:n∈s.2
   ·exact yUX _ hb
   ·exact y6X _ (c2 hb)
def E0 (p:Rp):Prop:=∀d,dir (at_ Rc.o p.v.rs d)=false->(at_ Rc.o p.v.rs d).es=[]
def Nk (p:Rp) (j:Nat):Prop:=(∀m∈(at_ Rc.o p.v.rs j).ns,Ne p j m)/\((at_ Rc.o p.v.rs j).k≠1->(at_ Rc.o p.v.rs j).ns.length<=1)
theorem Nj.run {p:Rp} {i:Nat} {all:List Nm} (h:Nj p i all 0 (p,[])) (hi:16<=i/\i<p.v.rs.length) (ho:own (p.rc i)=true):∀k,k<=all.length->Nj p i all k (it (nameStep i all) (p,[]) k)
 |0,_=>h
 |k+1,hk=>(h.run hi ho k zo).step zo hi ho
theorem ziA {p:Rp} (hE:zm8 p) (hP:Pw p) (h0:E0 p) {i:Nat} (hi:16<=i/\i<p.v.rs.length) (ho:own (p.rc i)=true):
  zm8 (badNames1 p i)/\Pw (badNames1 p i)/\E0 (badNames1 p i)/\Nk (badNames1 p i) i/\(∀j,j≠i->Nk p j->Nk (badNames1 p i) j)/\(∀j,j≠i->(at_ Rc.o (badNames1 p i).v.rs j).ns=(at_ Rc.o p.v.rs j).ns):=by
 have hstart:Nj p i (p.rc i).ns 0 (p,[]):=⟨ybY p,λ_=>rfl,λd e he=>by
  obtain⟨a,b,c⟩:=hE d e he;refine⟨a,b,?_⟩;split
  ·rename_i hf
   have:p.rc e.f.r=p.rc i:=by rw[zae];unfold Rp.rc rc;rw[hf]
   rw[this] at c;exact c
  ·exact c,hP,λ_ h=>(by cases h),λ_ _ _ h=>h,λ_=>ymX _,h0⟩
 have hend:=hstart.run hi ho _ (yhX _);have hk1:=Kp.badNames1 p i;unfold badNames1 at hk1⊢;dsimp only at hk1⊢
 generalize it (nameStep i (p.rc i).ns) (p,[]) (p.rc i).ns.length=s at*
 obtain⟨q,hq⟩:∃q,s.1.setR i {s.1.rc i with ns:=s.2}=q:=⟨_,rfl⟩
 rw[hq] at hk1⊢
 have hil:i<s.1.v.rs.length:=by rw[hend.kp.2.2.2];exact hi.2
 have hat:∀j,at_ Rc.o q.v.rs j=if i=j then{at_ Rc.o s.1.v.rs i with ns:=s.2} else at_ Rc.o s.1.v.rs j:=λj=>by
  rw[←hq];show at_ Rc.o (s.1.v.rs.set i _) j=_;rw[zb0,zae];by_cases e:i=j
  ·subst e;rw[ygX ⟨rfl,hil⟩,ygX rfl]
  ·rw[yfX (λc=>e c.1),yfX e]
 have hes:∀j,(at_ Rc.o q.v.rs j).es=(at_ Rc.o s.1.v.rs j).es:=λj=>by
  rw[hat];split
  ·rename_i e;subst e;rfl
  ·rfl
 have hns:∀j,(at_ Rc.o q.v.rs j).ns=if i=j then s.2 else(at_ Rc.o p.v.rs j).ns:=λj=>by
  rw[hat];split
  ·rfl
  ·exact hend.kn j
 have hsq:Kp s.1 q:=by
  rw[←hq];exact(ybY s.1).setR i _ (by rw[zae];exact⟨⟨rfl,rfl,rfl⟩,rfl⟩)
 have hne:∀j m,Ne s.1 j m->Ne q j m:=λj m ⟨a,e,b,c,d⟩=>by
  refine⟨by rw[zjq hsq];exact a,e,?_,by rw[hsq.2.1.ref];exact c,d⟩;show e∈(at_ Rc.o q.v.rs m.d.r.toNat).es;rw[hes];exact b
 refine⟨λd e he=> ?_,λd=> ?_,λd hd=> ?_,⟨λm hm=> ?_,λhk=> ?_⟩,λj hj hn=>⟨λm hm=> ?_,λhk=> ?_⟩,λj hj=>by rw[hns,yfX (Ne.symm hj)]⟩
 ·rw[hes] at he;obtain⟨a,b,c⟩:=hend.en d e he;refine⟨by rw[hk1.2.1.right hk1.2.2.2];exact a,b,?_⟩;rw[hk1.2.1.ref];show _∈(at_ Rc.o q.v.rs e.f.r.toNat).ns;rw[hns];by_cases hf:e.f.r.toNat=i
  ·rw[ygX hf] at c;rw[ygX hf.symm];simpa using c
  ·rw[yfX hf] at c;rw[yfX (λx=>hf x.symm)];exact c
 ·show Pws (at_ Rc.o q.v.rs d).es;rw[hes];exact hend.pw d
 ·rw[hes];exact hend.es0 d (by rw[←hk1.2.1.dir];exact hd)
 ·rw[hns,ygX rfl] at hm;exact hne i m (hend.ne m hm)
 ·rw[hns,ygX rfl];refine hend.one ?_;rw[zae,←(hk1.2.1 i).2.1];exact hk
 ·rw[hns,yfX (Ne.symm hj)] at hm;exact hne j m (hend.oth j hj m (hn.1 m hm))
 ·rw[hns,yfX (Ne.symm hj)];refine hn.2 ?_;rw[←(hk1.2.1 j).2.1];exact hk
structure Fit5 (p:Rp):Prop where
 en:zm8 p
 pw:Pw p
 e0:E0 p
 nk:∀j,Nk p j
theorem zqJ {p:Rp} (h:Rv p) {j:Nat} (hj:¬(16<=j/\j<p.v.rs.length/\own (at_ Rc.o p.v.rs j)=true)):(at_ Rc.o p.v.rs j).ns=[]:=by
 by_cases hl:j<p.v.rs.length
 ·have hr:=h.at hl;refine yeX ?_;by_cases e:0<(at_ Rc.o p.v.rs j).ns.length
  ·obtain⟨a,b⟩:=hr.ns0 e;exfalso;refine hj ⟨zo,hl,?_⟩;unfold own;cases hu:(at_ Rc.o p.v.rs j).u
   ·have:=(hr.un hu).2;have h1:=hr.ln;have h2:=hr.ds;have h3:=hr.k;unfold Rc.parts at this;omega
   ·simpa using a
  ·omega
 ·unfold at_;rw[yyX zo];rfl
theorem zk9 {p:Rp} (h:Rv p) (hE:zm8 p) (hP:Pw p) (h0:E0 p):Fit5 (badNames p):=by
 have key:∀k,k<=p.v.rs.length-16->zm8 (it (λq j=>if own (q.rc (16+j:Nat)) then badNames1 q (16+j) else q) p k)/\Pw (it (λq j=>if own (q.rc (16+j:Nat)) then badNames1 q (16+j) else q) p k)/\E0 (it (λq j=>if own (q.rc (16+j:Nat)) then badNames1 q (16+j) else q) p k)/\Kp p (it (λq j=>if own (q.rc (16+j:Nat)) then badNames1 q (16+j) else q) p k)/\(∀j,(j<16+k∨p.v.rs.length<=j)->Nk (it (λq j=>if own (q.rc (16+j:Nat)) then badNames1 q (16+j) else q) p k) j)/\(∀j,16+k<=j->(at_ Rc.o (it (λq j=>if own (q.rc (16+j:Nat)) then badNames1 q (16+j) else q) p k).v.rs j).ns=(at_ Rc.o p.v.rs j).ns):=by
  refine zbo (I:=λk q=>zm8 q/\Pw q/\E0 q/\Kp p q/\(∀j,(j<16+k∨p.v.rs.length<=j)->Nk q j)/\(∀j,16+k<=j->(at_ Rc.o q.v.rs j).ns=(at_ Rc.o p.v.rs j).ns)) (λs k hk ⟨a1,a2,a3,a4,a5,a6⟩=> ?_) ⟨hE,hP,h0,ybY p,λj hj=> ?_,λ_ _=>rfl⟩
  ·split
   ·rename_i ho
    have hil:16<=16+k/\16+k<s.v.rs.length:=⟨zo,by rw[a4.2.2.2];omega⟩
    obtain⟨b1,b2,b3,b4,b5,b6⟩:=ziA a1 a2 a3 hil ho;refine⟨b1,b2,b3,a4.trans (Kp.badNames1 s (16+k)),λj hj=> ?_,λj hj=>by rw[b6 j zo];exact a6 j zo⟩;by_cases e:j=16+k
    ·subst e;exact b4
    ·exact b5 j e (a5 j zo)
   ·rename_i ho;refine⟨a1,a2,a3,a4,λj hj=> ?_,λj hj=>a6 j zo⟩;by_cases e:j=16+k
    ·subst e
     have:(at_ Rc.o s.v.rs (16+k)).ns=[]:=by
      rw[a6 _ (yhX _)];refine zqJ h λc=>ho ?_;rw[zae];unfold own at c⊢;rw[(a4.2.1 _).1,(a4.2.1 _).2.1];exact c.2.2
     exact⟨λm hm=>(by rw[this] at hm;cases hm),λ_=>by rw[this];exact ymX _⟩
    ·exact a5 j zo
  ·have:(at_ Rc.o p.v.rs j).ns=[]:=zqJ h λc=>zo;exact⟨λm hm=>(by rw[this] at hm;cases hm),λ_=>by rw[this];exact ymX _⟩
 obtain⟨a1,a2,a3,a4,a5,a6⟩:=key _ (yhX _);exact⟨a1,a2,a3,λj=>a5 j zo⟩
end Ck
namespace Go.Proofs.YtgcjejajljhnaaaGreatDoor
open Go.Ex Ck
set_option maxRecDepth 100000
set_option maxHeartbeats 4000000
theorem zh8 :PureC Tryz.prog 10 [] (bb true):=λ_=>yvY (args:=[]) zr5
theorem zrr (v:Pt) {b:Bool} (h:zii v=b):PureC Tryz.prog 11 [zbF v] (bb b):=by rw[←h];exact zyw v
theorem zyM (l:List Int) (n:Int) (hl:l.length<=100000):PureC Tryz.prog 32 [LS 1 aI 0 l,ib n] (bb (decide (n∈l))):=by
 refine ytX zal rfl ?_;refine Ex.go ?_;refine yFX zal (D:=Nat) (λd=>l.length-d) (λd=>d<=l.length/\∀i,i<d->at_ 0 l i≠n) (λd=>zag [(0,LS 1 aI 0 l),(1,ib n),(4,bb false),(5,ib d)] 18) (λd=>zan []) 0 ⟨ymX _,λi hi=>absurd hi (ypX _)⟩ ?_ ?_
 ·exact Ex.wO [] []
 ·rintro d ⟨hd,hI⟩;by_cases hlt:d<l.length
  ·by_cases he:at_ 0 l d=n
   ·have hm:n∈l:=by rw[←he];exact at_mem 0 l d hlt
    rw[ybX hm]
    (conv=>whnf);repeat(first|refine Ex.g ?_|refine Ex.om ?_);conv=>whnf
    refine .z [] ?_;exact ydX rfl
   ·(conv=>whnf);repeat(first|refine Ex.g ?_|refine Ex.om ?_);conv=>whnf
    refine⟨d+1,⟨hlt,λi hi=> ?_⟩,by dsimp only;omega,?_⟩
    ·by_cases e:i=d
     ·rw[e];exact he
     ·exact hI i zo
    ·exact Ex.wO [] []
  ·have hm:n∉l:=λhm=>by
    obtain⟨i,hi,e⟩:=yTX hm;exact hI i zo (by rw[zaS _ _ _ hi];exact e)
   rw[ycX hm]
   (conv=>whnf);repeat((refine Ex.om ?_;conv=>whnf))
   refine .z [] ?_;exact ydX rfl
theorem zic (v:Pt) (i:Nat) (hi:i<v.rs.length):PureC Tryz.prog 35 [zbF v,ib i] (.agg (ze1 ⟨i,(at_ Rc.o v.rs i).q⟩)):=by
 refine ytX zal rfl ?_;refine Ex.go ?_;refine .z [] ?_;exact ydX rfl
theorem zwl (v:Pt) (i:Nat) (hi:i<v.rs.length) (hn:v.rs.length<=100000):PureC Tryz.prog 37 [zbF v,ib i] (bb (decide (16<=i)&&own (at_ Rc.o v.rs i))):=by
 have hw:wi (i:Nat) 0 ((v.rs.length:Int)-1)=true:=by unfold wi;simp;omega
 have hrc:Ck.rc v (i:Nat)=at_ Rc.o v.rs i:=rfl;have hO:=ziv v (i:Nat) hn;rw[hw,hrc] at hO;refine ytX zal rfl ?_;by_cases h16:16<=i
 ·rw[ybX h16]
  (conv=>whnf);repeat(first|refine Ex.om ?_|refine yaX (hO) ?_);conv=>whnf
  refine .z [] ?_;exact ydX rfl
 ·rw[ycX h16]
  (conv=>whnf);repeat((refine Ex.om ?_;conv=>whnf))
  refine .z [] ?_;exact ydX rfl
theorem zsh (v:Pt) (hf:FitP v):PureC Tryz.prog 24 [zbF v,zbF v] (bb true):=by
 have h1:=hf.f.al;have h2:=hf.f.rs;have h3:=hf.f.ds;have hra:=zgh v.al v.al h1 h1;have hin:=zuF v.ds v.ds h3 h3;rw[ybX rfl] at hra hin;refine ytX zal rfl ?_
 (conv=>whnf);repeat(first|refine Ex.g ?_|refine KIf.f (yqX Bool.not (ybX rfl)) ?_|refine yaX (hra) ?_|refine yaX (hin) ?_);conv=>whnf
 refine Ex.wl v.rs.length (λd=>zag [(2, .ptr 0 0),(3, .ptr 1 0),(4,bb false),(5,ib d)] 62) (λd=>zan [.row (aPt v) 26 0, .row (aPt v) 26 0]) ?_ ?_
 ·exact Ex.wO [0,1] []
 ·intro d hd;by_cases hlt:d<v.rs.length
  ·have hm:=at_mem Rc.o v.rs d hlt
   (conv=>whnf);repeat(first|refine Ex.g ?_|refine Ex.om ?_|refine yxX (zky (at_ Rc.o v.rs d) (hf.f.ns _ hm) (hf.f.es _ hm) (hf.f.ss _ hm) (hf.f.rr _ hm)) ?_);conv=>whnf
   refine⟨d+1,hlt,by dsimp only;omega,?_⟩;exact Ex.wO [0,1] []
  ·(conv=>whnf);repeat((refine Ex.om ?_;conv=>whnf))
   refine .z [] ?_;exact ydX rfl
end Go.Proofs.YtgcjejajljhnaaaGreatDoor
namespace Ck
theorem zu7 {a b:List UInt8} (ha:zau a=0) (hb:zau b=0):same a b=decide (a.map upB=b.map upB):=by
 unfold same fold;rw[ygX ha,ygX hb,yhZ];simp
end Ck
namespace Go.Proofs.YtgcjejajljhnaaaGreatDoor
open Go.Ex Ck
set_option maxRecDepth 100000
set_option maxHeartbeats 4000000
theorem zmq :Ex.zyT Tryz.prog zlM 4000 185 [] (.string ⟨⟨(List.range 128).map λi=>Ck.upB (UInt8.ofNat i)⟩⟩)=true:=by decide+kernel
theorem zsK :PureC Tryz.prog 185 [] (tb ((List.range 128).map λi=>Ck.upB (UInt8.ofNat i))):=λ_=>yvY (args:=[]) λw=>yOY zed zc2 (args:=[]) zmq w
theorem znA (s t:List UInt8) (hs:s.length<=100000) (h:∀b∈s,b.toNat<128) (ht:t=(List.range 128).map λi=>Ck.upB (UInt8.ofNat i)):PureC Tryz.prog 204 [tb t,tb s] (tb (s.map Ck.upB)):=by
 have htl:t.length=128:=by rw[ht];simp
 refine ytX zal rfl ?_;refine Ex.go ?_;refine Ex.wl s.length (λd=>zag [(0,tb t),(1,tb s),(4,tb []),(5,tb ((s.take d).map Ck.upB)),(6,ib d)] 23) (λd=>zan []) ?_ ?_
 ·exact Ex.wO [] []
 ·intro d hd;by_cases hlt:d<s.length
  ·have hb:=h _ (at_mem 0 s d hlt)
   have hix:(0:Int)<=((at_ 0 s d).toNat:Nat)/\(((at_ 0 s d).toNat:Nat):Int)<(t.length:Nat):=⟨zo,zo⟩
   have hv:[UInt8.ofNat (((gd 0 t (((at_ 0 s d).toNat:Nat):Int).toNat).toNat:Nat):Int).toNat]=[Ck.upB (at_ 0 s d)]:=by rw[yrX,yrX,yCZ,show gd 0 t (at_ 0 s d).toNat=at_ 0 t (at_ 0 s d).toNat from rfl,ht,zww _ hb]
   have hst:(s.take (d+1)).map Ck.upB=(s.take d).map Ck.upB++[Ck.upB (at_ 0 s d)]:=by rw[zi9 0 s d hlt,yJY];rfl
   have hadd:((s.take d).map Ck.upB).length+([Ck.upB (at_ 0 s d)]:List UInt8).length<=9223372036854775807:=by simp;omega
   (conv=>whnf);repeat(first|refine Need.mk ?_ ?_;(focus(first|exact hix|exact hadd))|refine Ex.om ?_|refine Ex.g ?_);conv=>whnf
   refine⟨d+1,hlt,by dsimp only;omega,?_⟩;dsimp only;rw[hst,←hv];exact Ex.wO [] []
  ·have he:(s.take d).map Ck.upB=s.map Ck.upB:=by rw[yqY zo]
   rw[he]
   (conv=>whnf);repeat((refine Ex.om ?_;conv=>whnf))
   refine .z [] ?_;exact ydX rfl
theorem zsL (a b:List UInt8) (ha:a.length<=100000) (hb:b.length<=100000) (h1:∀c∈a,c.toNat<128) (h2:∀c∈b,c.toNat<128):PureC Tryz.prog 184 [tb ((List.range 128).map λi=>Ck.upB (UInt8.ofNat i)),tb a,tb b] (bb (decide (a.map Ck.upB=b.map Ck.upB))):=by
 have hU1:=znA a _ ha h1 rfl;have hU2:=znA b _ hb h2 rfl
 generalize (List.range 128).map (λi=>Ck.upB (UInt8.ofNat i))=t at*
 refine ytX zal rfl ?_
 (conv=>whnf);repeat(first|refine yaX (hU1) ?_|refine yaX (hU2) ?_);conv=>whnf
 refine .z [] ?_;exact ydX rfl
theorem nm_len {s:List UInt8} (h:zau s=0):s.length<=100000:=by
 unfold zau at h;split at h
 ·cases h
 ·omega
theorem zqh (a b:List UInt8) (ha:zau a=0) (hb:zau b=0) {x:Bool} (hx:Ck.same a b=x):PureC Tryz.prog 159 [tb a,tb b] (bb x):=by
 rw[←hx,zu7 ha hb];have h:=zsL a b (nm_len ha) (nm_len hb) (zjT ha) (zjT hb);have hT:=zsK
 generalize (List.range 128).map (λi=>Ck.upB (UInt8.ofNat i))=t at*
 refine ytX zal rfl ?_
 (conv=>whnf);repeat(first|refine yaX (hT) ?_|refine yaX (h) ?_);conv=>whnf
 refine .z [] ?_;exact ydX rfl
theorem zoJ (v:Pt) (d:Nat) (nm:List UInt8) (hd:d<v.rs.length) (hl:(at_ Rc.o v.rs d).es.length<=100000) (hes:∀e∈(at_ Rc.o v.rs d).es,zau e.n=0) (hnm:zau nm=0):PureC Tryz.prog 118 [zbF v,ib (d:Nat),tb nm] (ib (ixL (λe=>Ck.same e.n nm) (at_ Rc.o v.rs d).es 0)):=by
 have hd0:(0:Int)<=(d:Nat)/\((d:Nat):Int)<(v.rs.length:Nat):=⟨zo,zo⟩
 obtain⟨W,hW⟩:∃W,ixL (λe=>Ck.same e.n nm) (at_ Rc.o v.rs d).es 0=W:=⟨_,rfl⟩
 rw[hW];refine ytX zal rfl ?_
 (conv=>whnf);repeat((refine Ex.g ?_;conv=>whnf))
 refine yFX zal (D:=Nat) (λk=>(at_ Rc.o v.rs d).es.length-k) (λk=>k<=(at_ Rc.o v.rs d).es.length/\ixL (λe=>Ck.same e.n nm) ((at_ Rc.o v.rs d).es.drop k) k=W) (λk=>zag [(2,tb nm),(6,ib 0),(7,LS 4 aEn En.o (at_ Rc.o v.rs d).es),(8,ib k)] 29) (λk=>zan []) 0 ⟨ymX _,hW⟩ ?_ ?_
 ·exact Ex.wO [] []
 generalize (at_ Rc.o v.rs d).es=es at*
 rintro k ⟨hk,hI⟩;by_cases hlt:k<es.length
 ·rw[drop_at En.o es k hlt] at hI;unfold ixL at hI
  obtain⟨b,hb⟩:∃b,Ck.same (at_ En.o es k).n nm=b:=⟨_,rfl⟩
  have hs:=zqh (at_ En.o es k).n nm (hes _ (at_mem En.o es k hlt)) hnm hb;rw[hb] at hI;cases b
  ·rw[yfX (by simp)] at hI
   (conv=>whnf);repeat(first|refine Ex.g ?_|refine Ex.om ?_|refine yaX (hs) ?_);conv=>whnf
   refine⟨k+1,⟨hlt,hI⟩,by dsimp only;omega,?_⟩;exact Ex.wO [] []
  ·rw[ygX rfl] at hI;subst hI
   (conv=>whnf);repeat(first|refine Ex.g ?_|refine Ex.om ?_|refine yaX (hs) ?_);conv=>whnf
   refine .z [] ?_;exact ydX rfl
 ·rw[yhY zo] at hI;unfold ixL at hI;subst hI
  (conv=>whnf);repeat((refine Ex.om ?_;conv=>whnf))
  refine .z [] ?_;exact ydX rfl
theorem zt7 (v:Pt) (i:Nat) (r:Ref) (nm:List UInt8) (hi:i<v.rs.length) (hl:(at_ Rc.o v.rs i).ns.length<=100000) {x:Bool} (hx:(at_ Rc.o v.rs i).ns.contains ⟨r,nm⟩=x):PureC Tryz.prog 123 [zbF v,ib (i:Nat), .agg (ze1 r),tb nm] (bb x):=by
 have hi0:(0:Int)<=(i:Nat)/\((i:Nat):Int)<(v.rs.length:Nat):=⟨zo,zo⟩
 refine ytX zal rfl ?_
 (conv=>whnf);repeat((refine Ex.g ?_;conv=>whnf))
 refine yFX zal (D:=Nat) (λk=>(at_ Rc.o v.rs i).ns.length-k) (λk=>k<=(at_ Rc.o v.rs i).ns.length/\((at_ Rc.o v.rs i).ns.drop k).contains ⟨r,nm⟩=x) (λk=>zag [(3,tb nm),(6, .ptr 0 0),(8,bb false),(9,LS 3 aNm Nm.o (at_ Rc.o v.rs i).ns),(10,ib k)] 39) (λk=>zan [.row (ze1 r) 61 0]) 0 ⟨ymX _,hx⟩ ?_ ?_
 ·exact Ex.wO [1] []
 generalize (at_ Rc.o v.rs i).ns=l at*
 rintro k ⟨hk,hI⟩;by_cases hlt:k<l.length
 ·rw[drop_at Nm.o l k hlt,List.contains_cons] at hI;by_cases h1:(at_ Nm.o l k).d=r
  ·by_cases h2:(at_ Nm.o l k).n=nm
   ·have hx2:x=true:=by
     rw[←hI]
     have:(⟨r,nm⟩:Nm)=at_ Nm.o l k:=by rw[←h1,←h2]
     rw[this];simp
    subst hx2
    (conv=>whnf);repeat(first|refine Ex.om ?_|refine yKY (zaH (at_ Nm.o l k).d r) ?_|refine KIf.t (ybX h2) ?_|refine Ex.g ?_);conv=>whnf
    refine .z [] ?_;exact ydX rfl
   ·have hne:((⟨r,nm⟩:Nm)==at_ Nm.o l k)=false:=by rw[beq_eq_false_iff_ne];intro e;exact h2 (by rw[←e])
    rw[hne,y4Y] at hI
    (conv=>whnf);repeat(first|refine Ex.om ?_|refine yKY (zaH (at_ Nm.o l k).d r) ?_|refine KIf.f (ycX h2) ?_|refine Ex.g ?_);conv=>whnf
    refine⟨k+1,⟨hlt,hI⟩,by dsimp only;omega,?_⟩;exact Ex.wO [0] []
  ·have hne:((⟨r,nm⟩:Nm)==at_ Nm.o l k)=false:=by rw[beq_eq_false_iff_ne];intro e;exact h1 (by rw[←e])
   rw[hne,y4Y] at hI
   (conv=>whnf);repeat(first|refine Ex.om ?_|refine yKY (zaH (at_ Nm.o l k).d r) ?_|refine Ex.g ?_);conv=>whnf
   refine⟨k+1,⟨hlt,hI⟩,by dsimp only;omega,?_⟩;exact Ex.wO [0] []
 ·rw[yhY zo] at hI
  have hx2:x=false:=by rw[←hI];rfl
  subst hx2
  (conv=>whnf);repeat((refine Ex.om ?_;conv=>whnf))
  refine .z [] ?_;exact ydX rfl
theorem zqs (v:Pt) (i:Nat) (hi:i<v.rs.length) (hs:(at_ Rc.o v.rs i).ss.length<=100000):PureC Tryz.prog 116 [zbF v,ib (i:Nat)] (ib (Ck.sizeOf (at_ Rc.o v.rs i))):=by
 have hi0:(0:Int)<=(i:Nat)/\((i:Nat):Int)<(v.rs.length:Nat):=⟨zo,zo⟩
 unfold Ck.sizeOf;by_cases hk:(at_ Rc.o v.rs i).k=1
 ·by_cases h0:0<(at_ Rc.o v.rs i).ss.length
  ·rw[ygX ⟨hk,h0⟩]
   have h1:(0:Int)<((at_ Rc.o v.rs ((i:Nat):Int).toNat).ss.length:Nat):=by show(0:Int)<((at_ Rc.o v.rs i).ss.length:Nat);omega
   refine ytX zal rfl ?_
   (conv=>whnf);repeat((refine Ex.g ?_;conv=>whnf))
   refine .z [] ?_;exact ydX rfl
  ·rw[yfX zo]
   have h1:¬(0:Int)<((at_ Rc.o v.rs ((i:Nat):Int).toNat).ss.length:Nat):=by show ¬(0:Int)<((at_ Rc.o v.rs i).ss.length:Nat);omega
   refine ytX zal rfl ?_
   (conv=>whnf);repeat((refine Ex.g ?_;conv=>whnf))
   refine .z [] ?_;exact ydX rfl
 ·rw[yfX zo];refine ytX zal rfl ?_
  (conv=>whnf);repeat((refine Ex.g ?_;conv=>whnf))
  refine .z [] ?_;exact ydX rfl
end Go.Proofs.YtgcjejajljhnaaaGreatDoor
namespace Ck
open Go Go.Ex
def cnL (n:Nat) (p:Rp):List Bool:=(List.range n).map λi=>zcc p (i:Nat)
def nf (p:Rp):Rp:={p with fl:=[]}
noncomputable def rV (n A k k2:Nat) (p:Rp):List AV:=[ib p.v.c,LS 2 zaP Run.o p.v.al, .so k 0 n 0,LS 1 aI 0 p.v.ds,tb p.v.mp,slF A p.fd, .sl k2 0 n n]
def zkw :List AV:=[.any, .any, .any, .any, .any, .any, .any]
theorem ze0 (n:Nat) (p:Rp):(cnL n p).length=n:=by simp[cnL]
theorem zaF :∀l:List Bool,cont.contL (l.map bb)=true
 |[]=>rfl
 |_::l=>zaF l
theorem rV_one (n A k k2:Nat) (p:Rp):∀y∈rV n A k k2 p,zgW y=true:=by
 intro y hy;unfold rV at hy;simp only[yAX,List.not_mem_nil,or_false] at hy
 rcases hy with rfl|rfl|rfl|rfl|rfl|rfl|rfl
 all_goals first|rfl|(unfold slF;split<;>rfl)
theorem FN.G {n n0:Nat} {r:List Nat}:FN (zdF 20 220 n n0 r) 20 n:=λ_ hj=>znu hj
section
variable {h : T AO} {z : List Nat} {R : Nat -> Option Nat} {a A : Nat} {ρ : Nat -> Nat}
theorem za2 {c c':List AV} (hc:WL h z R c c'):NmP (RS R) (.agg c)/\Wv h z (RD R) (.agg c) (.agg c'):=by
 refine⟨by unfold NmP;exact hc.1,?_⟩;unfold Wv;exact hc.2
theorem zdC {c c':List AV} (hc:Rnl ρ c c'):Rn ρ (.agg c) (.agg c'):=by unfold Rn;exact hc
theorem zxZ {k k0 m c:Nat} (hk:RS R k/\RD R k=k0):NmP (RS R) (.sl k 0 m c)/\Wv h z (RD R) (.sl k 0 m c) (.sl k0 0 m c):=by
 refine⟨by unfold NmP;exact hk.1,?_⟩;unfold Wv;exact⟨hk.2.symm,rfl,rfl,rfl⟩
theorem zdn {k k0 m:Nat} (hk:RS R k/\RD R k=k0):NmP (RS R) (.so k 0 m 0)/\Wv h z (RD R) (.so k 0 m 0) (.so k0 0 m 0):=by
 refine⟨by unfold NmP;exact hk.1,?_⟩;unfold Wv;exact⟨hk.2.symm,rfl,rfl,rfl⟩
theorem zxL {c1 c2 c3 c4 c5 c6 c7:AV}:WL h z R zkw [c1,c2,c3,c4,c5,c6,c7]:=by
 have ha:∀{v:AV},NmP (RS R) .any/\Wv h z (RD R) .any v:=⟨by unfold NmP;trivial,by unfold Wv;trivial⟩
 exact ywX ha (ywX ha (ywX ha (ywX ha (ywX ha (ywX ha (ywX ha yMX))))))
theorem zdN (H:FR R a A) {n k k2 k0 k20:Nat} {p:Rp} (hk:RS R k/\RD R k=k0) (hk2:RS R k2/\RD R k2=k20):WL h z R (rV n a k k2 p) (rV n A k0 k20 p):=by
 unfold rV;exact WL.sc rfl (WL.sc rfl (ywX (zdn hk) (WL.sc rfl (WL.sc rfl (ywX (zt1 H) (ywX (zxZ hk2) yMX))))))
theorem zdq (H:FN ρ a A) {n k k2 k0 k20:Nat} {p:Rp} (hk:ρ k=k0) (hk2:ρ k2=k20):Rnl ρ (rV n a k k2 p) (rV n A k0 k20 p):=by
 unfold rV;refine yOX Rn.sc (yOX Rn.lst (yOX ?_ (yOX Rn.lst (yOX Rn.sc (yOX ?_ (yOX ?_ Rnl.nil))))))
 ·unfold Rn;rw[hk]
 ·unfold slF
  by_cases hs:p.fd=[]
  ·rw[ygX hs,ygX hs];unfold Rn;rfl
  ·rw[yfX hs,yfX hs];exact zpV H zo
 ·unfold Rn;rw[hk2]
variable {ov : List (Nat × Nat)} {r : List Nat}
theorem zgB {n k k2 k0 k20:Nat} {p:Rp} (hk:RS (RG A ov r) k/\RD (RG A ov r) k=k0) (hk2:RS (RG A ov r) k2/\RD (RG A ov r) k2=k20) (hp:∀p∈ov,192≠p.1):WL h z (RG A ov r) (rV n 20 k k2 p) (rV n A k0 k20 p):=by
 unfold rV;exact WL.sc rfl (WL.sc rfl (ywX (zdn hk) (WL.sc rfl (WL.sc rfl (ywX (zwH hp) (ywX (zxZ hk2) yMX))))))
theorem bV {n k k2 k0 k20 x y:Nat} {p:Rp} (h1:RS (RG A [] r) k:=by exact rfl) (h2:RD (RG A [] r) k=k0:=by exact rfl) (h3:RS (RG A [] r) k2:=by exact rfl) (h4:RD (RG A [] r) k2=k20:=by exact rfl):WOG h z (RG A [] r) (.row (rV n 20 k k2 p) x y) (.row (rV n A k0 k20 p) x y):=⟨rfl,rfl,yzX (zgB ⟨h1,h2⟩ ⟨h3,h4⟩ zN)⟩
theorem aR {c1 c2 c3 c4 c5 c6 c7:AV} {x y:Nat}:WOG h z R (.row zkw x y) (.row [c1,c2,c3,c4,c5,c6,c7] x y):=⟨rfl,rfl,yzX zxL⟩
theorem cV {P:Program} {A B N n:Nat} {f:FuncId} {as0 args:List AV} {t:T AO} {K:KC} {p p':Rp} (hc:HG P 2 20 220 f (.agg (rV n 20 0 1 p)::as0) (gP false (nf p)) [.row (flatI (rcP false 20) 0 p.v.rs) 66 10, .row ((cnL n p).map bb) 4 0] (.agg (rV n 20 0 1 p')) (gP false (nf p')) [.row (flatI (rcP false 20) 0 p'.v.rs) 66 10, .row ((cnL n p').map bb) 4 0])
  (h4:p.v.rs.length<=96) (h5:p'.v.rs.length<=96) (ha:WL (.f A B (gP false (nf p)) t) [] (zbQ 20 220 A [] [0,1]) as0 args) (hk:(ztZ 20 220 2 [0,1] (gP false (nf p')) [.row (flatI (rcP false N) 0 p'.v.rs) 66 10, .row ((cnL n p').map bb) 4 0] ⟨.f A B (gP false (nf p)) t,N⟩).nfK λs=>K (.agg (rV n N 0 1 p')) s)
  (hrows:p.v.rs.length<=96->zcL (.f A B (gP false (nf p)) t) [] (zbQ 20 220 A [] [0,1]) [.row (flatI (rcP false 20) 0 p.v.rs) 66 10, .row ((cnL n p).map bb) 4 0] [0,1]:=by exact λh=>⟨Ck.rF Ck.FR.G h,Ck.bR,zT⟩) (hL:okL 20 220 2 A B N [0,1] 2=true:=by rfl):KCall P f (.agg (rV n A 0 1 p)::args) ⟨.f A B (gP false (nf p)) t,N⟩ K:=
 ySZ [0,1] (.agg (rV n N 0 1 p')) [.row (flatI (rcP false N) 0 p'.v.rs) 66 10, .row ((cnL n p').map bb) 4 0] hc hL (yQX _ _) (yQX _ _) (hrows h4) (ywX (za2 (zdN FR.G ⟨rfl,rfl⟩ ⟨rfl,rfl⟩)) ha) ⟨zdC (zdq FN.G rfl rfl),rfl,⟨rfl,rfl, .inl (zaE h5)⟩,⟨rfl,rfl, .inr ⟨rfl,zaF _⟩⟩,zT⟩ hk
theorem ptV {n A B:Nat} {t:T AO} (q:Rp) (h4:q.v.rs.length<=96) (h5:n=q.v.rs.length) {l l':List AV} (h6:Wzl (.f A B (gP false (nf q)) t) (zF A [0]) l l') (hr:(T.f A B (gP false (nf q)) t).get 0=some (.row (flatI (rcP false A) 0 q.v.rs) 66 10)) (hB:B=A+200):
  Wzl (.f A B (gP false (nf q)) t) (zF A [0]) (zbF q.v::l) (.agg [ib q.v.c,LS 2 zaP Run.o q.v.al, .so 0 0 n 0,LS 1 aI 0 q.v.ds,tb q.v.mp]::l'):=
 Wzc (zeG (p:=nf q) (Lies.mk (λj hj=>za3 hj) (λj hj=>zah zo)) h4 hr (zbt (by simp)) h5) h6
theorem lV {P:Program} {A B N n:Nat} {f:FuncId} {as1 ar:List AV} {t:T AO} {K:KC} {v:AV} (q:Rp) (hc:PureC P f (zbF q.v::as1) v) (h4:q.v.rs.length<=96) (h5:n=q.v.rs.length) (h6:Wzl (.f A B (gP false (nf q)) t) (zF A [0]) as1 ar) (hk:K v ⟨.f A B (gP false (nf q)) t,N⟩)
  (hr:(T.f A B (gP false (nf q)) t).get 0=some (.row (flatI (rcP false A) 0 q.v.rs) 66 10):=by rfl) (hB:B=A+200:=by rfl) (hv:plainA v=true:=by rfl):KCall P f (.agg [ib q.v.c,LS 2 zaP Run.o q.v.al, .so 0 0 n 0,LS 1 aI 0 q.v.ds,tb q.v.mp]::ar) ⟨.f A B (gP false (nf q)) t,N⟩ K:=KCall.lend (zF A [0]) hc hv (ptV q h4 h5 h6 hr hB) hk
theorem lD {P:Program} {A B N n:Nat} {f:FuncId} {as1 ar:List AV} {t:T AO} {light:AV->Prop} {heavy:AV->St->Prop} {v:AV} (q:Rp) (hc:PureC P f (zbF q.v::as1) v) (h4:q.v.rs.length<=96) (h5:n=q.v.rs.length) (h6:Wzl (.f A B (gP false (nf q)) t) (zF A [0]) as1 ar) (hk:heavy v ⟨.f A B (gP false (nf q)) t,N⟩)
  (hr:(T.f A B (gP false (nf q)) t).get 0=some (.row (flatI (rcP false A) 0 q.v.rs) 66 10):=by rfl) (hB:B=A+200:=by rfl) (hv:plainA v=true:=by rfl):DCall P f (.agg [ib q.v.c,LS 2 zaP Run.o q.v.al, .so 0 0 n 0,LS 1 aI 0 q.v.ds,tb q.v.mp]::ar) light heavy ⟨.f A B (gP false (nf q)) t,N⟩:=DCall.lend (zF A [0]) hc hv (ptV q h4 h5 h6 hr hB) hk
theorem stV {P:Program} {s:St} {K:KC} {T:TypeId} {b off n:Nat} {c:List AV} {e:TypeId} {q:Nat} (c':List AV) (hk:(s.set b (.row c' e q)).nfK λs=>K AV.undef s) (hoff:off=0:=by rfl) (hT:tyS P T= .ok (true,n):=by rfl) (hl:c'.length=n:=by rfl) (h1:∀y∈c',zgW y=true:=by exact Ck.rV_one _ _ _ _ _)
  (hr:s.h.get b=some (.row c e q):=by rfl) (hc:c.length=n:=by rfl):zdQ (zcY P s T (.ptr b off) (.agg c')) K:=zeh hoff hT hl h1 hr hc hk
noncomputable def rVF (n k k2:Nat) (p:Rp) (v:AV):List AV:=[ib p.v.c,LS 2 zaP Run.o p.v.al, .so k 0 n 0,LS 1 aI 0 p.v.ds,tb p.v.mp,v, .sl k2 0 n n]
theorem zsJ {n k k2 k0 k20 b m:Nat} {p:Rp} {x:Fd} (hk:RS (RG A ((192,b)::ov) r) k/\RD (RG A ((192,b)::ov) r) k=k0) (hk2:RS (RG A ((192,b)::ov) r) k2/\RD (RG A ((192,b)::ov) r) k2=k20) (hm:m=p.fd.length+1):
  WL h z (RG A ((192,b)::ov) r) (rV n 20 k k2 (p.note x.k x.r x.i)) (rVF n k0 k20 p (.so b 0 m 0)):=by
 unfold rV rVF;exact WL.sc rfl (WL.sc rfl (ywX (zdn hk) (WL.sc rfl (WL.sc rfl (ywX (znk hm) (ywX (zxZ hk2) yMX))))))
theorem zfp {p:Rp} {k r i:Int} {g:Nat->Option AO} (hg:∀j,j≠192->g j=gP false (nf p) j) {a:Nat}:∀j o1,gP false (nf (p.note k r i)) j=some o1->(∀q∈[(192,a)],j≠q.1)->g j=some o1/\zaZ o1:=by
 intro j o1 h1 h2;have e1:j≠192:=h2 (192,a) (by simp);refine⟨?_,yQX _ _ j o1 h1⟩;rw[hg j e1,←h1];unfold gP;rw[yfX e1,yfX e1];rfl
theorem zgX {p:Rp} {k r0 i:Int} {R:Nat->Option Nat} {a:Nat} {ca:List AV} (ha:h.get a=some (.row ca 86 3)) (hca:ca=p.fd.flatMap aFd++[ib k,ib r0,ib i]):
  ∀q∈[(192,a)],∀o1,gP false (nf (p.note k r0 i)) q.1=some o1->∃o,h.get q.2=some o/\WOG h z R o1 o:=by
 intro q hq o1 ho
 rcases yiX.1 hq with rfl
 rw[zj8 (show(nf (p.note k r0 i)).fd≠[] by unfold nf Rp.note;simp)] at ho;cases ho
 have e:(nf (p.note k r0 i)).fd.flatMap aFd=ca:=by rw[hca];unfold nf Rp.note;rw[yJX];rfl
 refine⟨_,ha,rfl,rfl, .same e ?_⟩;rw[←e];exact zbW _
end
theorem zfE {p:Rp} (hl:p.fl.length=p.fd.length) (k r i:Int) (j:Nat):zcc (p.note k r i) (j:Nat)=(zcc p (j:Nat)||(decide (k<=7)&&decide (r=(j:Nat)))):=by
 unfold zcc Rp.note;simp only[yvX,yJZ,yUY,List.any_append,List.any_cons,List.any_nil,y3Y]
 have e1:at_ Fd.o (p.fd++[⟨k,r,i⟩]) p.fd.length=⟨k,r,i⟩:=by unfold at_;rw[yuX (yhX _),yQY];rfl
 have e2:at_ 0 (p.fl++[-1]) p.fd.length= -1:=by unfold at_;rw[←hl,yuX (yhX _),yQY];rfl
 rw[e1,e2];have e3:decide ((-1:Int)=(j:Nat))=false:=ycX zo;rw[e3,y3Y]
 congr 1
 rw[yhZ,yZY,yZY];constructor
 all_goals
  rintro⟨x,hx,h⟩;have hxl:=yBY.1 hx;refine⟨x,hx,?_⟩
  have e4:at_ Fd.o (p.fd++[⟨k,r,i⟩]) x=at_ Fd.o p.fd x:=by unfold at_;rw[yIX hxl]
  have e5:at_ 0 (p.fl++[-1]) x=at_ 0 p.fl x:=by unfold at_;rw[yIX zo]
  simp only[e4,e5] at h⊢;exact h
theorem zh1 {n:Nat} {p:Rp} (hl:p.fl.length=p.fd.length) {k r i:Int} (hk:k<8) (h0:0<=r):cnL n (p.note k r i)=(cnL n p).set r.toNat true:=by
 apply ykZ;intro j;unfold cnL;rw[List.getElem?_set,yuY,yuY];by_cases hj:j<n
 ·rw[yXZ hj,yyZ,yyZ,zfE hl,ybX (by omega:k<=7),y3X];by_cases e:r.toNat=j
  ·rw[ygX e,ygX (by simp;omega),ybX (by omega:r=(j:Nat)),Bool.or_true]
  ·rw[yfX e,ycX (by omega:¬r=(j:Nat)),y3Y]
 ·rw[yyX (by simp;omega),Option.map_none];by_cases e:r.toNat=j
  ·rw[ygX e,yfX (by simp;omega)]
  ·rw[yfX e];rfl
theorem zgv {n:Nat} {p:Rp} (hl:p.fl.length=p.fd.length) {k r i:Int} (hk:8<=k∨(n:Int)<=r):cnL n (p.note k r i)=cnL n p:=by
 unfold cnL;apply List.map_congr_left;intro j hj;have hj:=yBY.1 hj;rw[zfE hl]
 rcases hk with hk|hk
 ·rw[ycX (by omega:¬k<=7),Bool.false_and,y3Y]
 ·rw[ycX (by omega:¬r=(j:Nat)),Bool.and_false,y3Y]
end Ck
namespace Go.Proofs.YtgcjejajljhnaaaGreatDoor
open Go.Ex Ck
set_option maxRecDepth 100000
set_option maxHeartbeats 4000000
theorem zcM (n:Nat) (p:Ck.Rp) (k r i:Int) (hpn:p.v.rs.length=n) (hn:n<=96) (hl:p.fl.length=p.fd.length) (hr:0<=r) (hb:p.fd.length<=1000000):HG Tryz.prog 2 20 220 115 [.agg (rV n 20 0 1 p),ib k,ib r,ib i] (gP false (nf p)) [.row (flatI (rcP false 20) 0 (p).v.rs) 66 10, .row ((cnL n (p)).map bb) 4 0] (.agg (rV n 20 0 1 (p.note k r i)))
  (gP false (nf (p.note k r i))) [.row (flatI (rcP false 20) 0 ((p.note k r i)).v.rs) 66 10, .row ((cnL n ((p.note k r i))).map bb) 4 0]:=by
 have h96:p.v.rs.length<=96:=zo;have hoff:0+r.toNat*1=r.toNat:=zo;have hc:k<8/\r<n∨(k<8/\(n:Int)<=r)∨8<=k:=zo;refine HG.of zal zo ?_
 by_cases h0:p.fd=[]
 ·have e1:slF 20 p.fd= .sc (.slice none 0 0):=by rw[h0];rfl
  rcases hc with⟨c1,c2⟩|hc
  ·have hj:r.toNat<(cnL n p).length:=by rw[ze0];omega
   have hcn:=zh1 (n:=n) hl (i:=i) c1 hr
   (conv=>whnf);repeat(first|refine Ex.g ?_|rw[e1]|refine ytY bb true rfl hoff rfl rfl rfl rfl rfl hj ?_);conv=>whnf
   refine⟨?_⟩;refine yCX [0,1] [] [(192,223)] rfl rfl rfl rfl ?_ ?_ ?_ ?_
   ·exact⟨⟨rfl,rfl,yzX (zb3 h96 (by simp))⟩,⟨rfl,rfl, .same (by rw[hcn]) (zaF _)⟩,zT⟩
   ·exact zfp (λj h1=>rfl)
   ·exact zgX rfl (by rw[h0];rfl)
   ·exact⟨za2 (zsJ (x:=⟨k,r,i⟩) ⟨rfl,rfl⟩ ⟨rfl,rfl⟩ (by rw[h0];rfl)),zT⟩
  ·have hcn:=zgv (n:=n) (k:=k) (r:=r) (i:=i) hl zo
   rcases hc with⟨c1,c2⟩|c1
   all_goals
    (conv=>whnf);repeat(first|refine Ex.g ?_|rw[e1]|refine Ex.om ?_);conv=>whnf
    refine⟨?_⟩;refine yCX [0,1] [] [(192,223)] rfl rfl rfl rfl ?_ ?_ ?_ ?_
    ·exact⟨⟨rfl,rfl,yzX (zb3 h96 (by simp))⟩,⟨rfl,rfl, .same (by rw[hcn]) (zaF _)⟩,zT⟩
    ·exact zfp (λj h1=>rfl)
    ·exact zgX rfl (by rw[h0];rfl)
    ·exact⟨za2 (zsJ (x:=⟨k,r,i⟩) ⟨rfl,rfl⟩ ⟨rfl,rfl⟩ (by rw[h0];rfl)),zT⟩
 ·have e1:slF 20 p.fd= .so (fam 20 192) 0 p.fd.length 0:=zgm h0
  have hb1:(p.fd.length+1)*24<=2^47/\p.fd.length+1<=2^60:=by constructor<;>omega
  rcases hc with⟨c1,c2⟩|hc
  ·have hj:r.toNat<(cnL n p).length:=by rw[ze0];omega
   have hcn:=zh1 (n:=n) hl (i:=i) c1 hr
   (conv=>whnf);repeat(first|refine Need.mk ?_ ?_;(focus(first|exact hb1|exact zn6 _))|rw[e1]|refine RK.of (zel ((zah zo).trans (zj8 h0))) ?_|rw[zbT (j:=192) (show 192<220-20 by omega)]|refine Ex.g ?_|refine ytY bb true rfl hoff rfl rfl rfl rfl rfl hj ?_);conv=>whnf
   refine⟨?_⟩;refine yCX [0,1] [] [(192,223)] rfl rfl rfl rfl ?_ ?_ ?_ ?_
   ·exact⟨⟨rfl,rfl,yzX (zb3 h96 (by simp))⟩,⟨rfl,rfl, .same (by rw[hcn]) (zaF _)⟩,zT⟩
   ·exact zfp (λj h1=>zbm h1)
   ·exact zgX rfl rfl
   ·exact⟨za2 (zsJ (x:=⟨k,r,i⟩) ⟨rfl,rfl⟩ ⟨rfl,rfl⟩ rfl),zT⟩
  ·have hcn:=zgv (n:=n) (k:=k) (r:=r) (i:=i) hl zo
   rcases hc with⟨c1,c2⟩|c1
   all_goals
    (conv=>whnf);repeat(first|refine Need.mk ?_ ?_;(focus(first|exact hb1|exact zn6 _))|rw[e1]|refine RK.of (zel ((zah zo).trans (zj8 h0))) ?_|rw[zbT (j:=192) (show 192<220-20 by omega)]|refine Ex.g ?_|refine Ex.om ?_);conv=>whnf
    refine⟨?_⟩;refine yCX [0,1] [] [(192,223)] rfl rfl rfl rfl ?_ ?_ ?_ ?_
    ·exact⟨⟨rfl,rfl,yzX (zb3 h96 (by simp))⟩,⟨rfl,rfl, .same (by rw[hcn]) (zaF _)⟩,zT⟩
    ·exact zfp (λj h1=>zbm h1)
    ·exact zgX rfl rfl
    ·exact⟨za2 (zsJ (x:=⟨k,r,i⟩) ⟨rfl,rfl⟩ ⟨rfl,rfl⟩ rfl),zT⟩
end Go.Proofs.YtgcjejajljhnaaaGreatDoor
abbrev ygY:=@Ck.stV
namespace Ck
def blw (f:Rp->Nat->Rp) (p:Rp) (d:Nat):Rp:=it (λq j=>if own (q.rc (16+j:Nat)) then f q (16+j) else q) p (d-16)
theorem zrW {f:Rp->Nat->Rp} {p:Rp} {d:Nat} (h:d<16):blw f p (d+1)=blw f p d:=by unfold blw;rw[show d+1-16=0 by omega,show d-16=0 by omega]
theorem zrX {f:Rp->Nat->Rp} {p:Rp} {d:Nat} (h:16<=d):blw f p (d+1)=if own (at_ Rc.o (blw f p d).v.rs d) then f (blw f p d) d else blw f p d:=by
 unfold blw;rw[show d+1-16=(d-16)+1 by omega];have e:16+(d-16)=d:=zo;show(if own ((it _ p (d-16)).rc (16+(d-16):Nat)) then f (it _ p (d-16)) (16+(d-16)) else it _ p (d-16))=_;rw[e,zae]
theorem zmY {f:Rp->Nat->Rp} {p:Rp} {d:Nat} (h:d=p.v.rs.length):blw f p d=below f p:=by rw[h];rfl
theorem zh7 {f:Rp->Nat->Rp} {p:Rp} {n:Nat} {I:Nat->Rp->Prop} (h:∀j,j<=n-16->I j (it (λq j=>if own (q.rc (16+j:Nat)) then f q (16+j) else q) p j)) {d:Nat} (hd:d<=n):I (d-16) (blw f p d):=h (d-16) zo
theorem ztU {i n:Nat} (h:i<n):wi (i:Nat) 0 ((n:Int)-1)=true:=by unfold wi;simp;omega
end Ck
namespace Go.Proofs.YtgcjejajljhnaaaGreatDoor
open Go.Ex Ck
set_option maxRecDepth 100000
set_option maxHeartbeats 4000000
theorem zt6 (v:Pt) (i:Nat) (hi:i<v.rs.length) (hn:v.rs.length<=100000) {b:Bool} (hb:own (at_ Rc.o v.rs i)=b):PureC Tryz.prog 73 [zbF v,ib (i:Nat)] (bb b):=by
 have h:=ziv v (i:Nat) hn;rw[ztU hi,y3X,show Ck.rc v (i:Nat)=at_ Rc.o v.rs i from rfl,hb] at h;exact h
theorem zju (v:Pt) (i:Nat) (hi:i<v.rs.length) (hn:v.rs.length<=100000) {b:Bool} (hb:(decide (16<=i)&&own (at_ Rc.o v.rs i))=b):PureC Tryz.prog 37 [zbF v,ib (i:Nat)] (bb b):=by
 rw[←hb];exact zwl v i hi hn
theorem zqt (v:Pt) (i:Nat) (hi:i<v.rs.length) (hn:v.rs.length<=100000) {b:Bool} (hb:dir (at_ Rc.o v.rs i)=b):PureC Tryz.prog 77 [zbF v,ib (i:Nat)] (bb b):=by
 refine zfj v (i:Nat) hn ?_;rw[ztU hi,y3X];exact hb
theorem zmI (n:Nat) (p:Ck.Rp) (hf:Rf n p) (hn:n<=96) (hb:p.fd.length<=100000):HG Tryz.prog 2 20 220 72 [.agg (rV n 20 0 1 p)] (gP false (nf p)) [.row (flatI (rcP false 20) 0 (p).v.rs) 66 10, .row ((cnL n (p)).map bb) 4 0] (.agg (rV n 20 0 1 (zax p)))
  (gP false (nf (zax p))) [.row (flatI (rcP false 20) 0 ((zax p)).v.rs) 66 10, .row ((cnL n ((zax p))).map bb) 4 0]:=by
 have h96:p.v.rs.length<=96:=by rw[hf.n];exact hn
 refine HG.of zal zo ?_;refine Ex.go ?_;refine Ex.wl n (λd=>zag [(1, .ptr 2 0),(2, .ptr 3 0),(3,ib d)] 48) (λd=>zaw 20 220 (gP false (nf (it zar p d))) [.row (flatI (rcP false 20) 0 (it zar p d).v.rs) 66 10, .row ((cnL n (it zar p d)).map bb) 4 0, .row (rV n 20 0 1 (it zar p d)) 53 0, .row zkw 53 0]) ?_ ?_
 ·exact Ex.wG [0,1,220,221] [] [] ⟨rQ h96,bR,bV,aR,zT⟩
 intro d hd;obtain⟨h1,h2,h3⟩:=zjP hf d hd;have hst:it zar p (d+1)=zar (it zar p d) d:=rfl
 have hfin:d=n->it zar p d=zax p:=λe=>by rw[e,←hf.n];rfl
 generalize it zar p d=q at*
 have hqn:q.v.rs.length=n:=h1.n;have hq96:q.v.rs.length<=96:=zo;by_cases h:d<n
 ·have hltq:d<q.v.rs.length:=zo
  have hoff:0+((d:Nat):Int).toNat*10=d*10:=by simp
  have hd0:(0:Int)<=(d:Nat)/\((d:Nat):Int)<(n:Nat):=⟨zo,zo⟩
  obtain⟨b,hb2⟩:∃b,Ck.right q.v (at_ Rc.o q.v.rs d).b=b:=⟨_,rfl⟩
  have hR:=zfi q.v (at_ Rc.o q.v.rs d).b zo hb2
  have hls:zar q d=if(at_ Rc.o q.v.rs d).u&&(at_ Rc.o q.v.rs d).k==3&& !b then(q.note 0 d 0).setR d {Rc.o with q:=(at_ Rc.o q.v.rs d).q%65535+1} else q:=by unfold zar;simp only[zae];rw[hb2]
  obtain⟨u,hu⟩:∃u,(at_ Rc.o q.v.rs d).u=u:=⟨_,rfl⟩
  rw[hu] at hls;cases u
  ·(conv=>whnf);repeat(first|refine Need.mk ?_ ?_;exact hd0|refine RK.of (zch (zab false 20) Rc.o hoff rfl rfl hltq rfl) ?_|refine zct rfl rfl rfl rfl ?_|refine KIf.f (hu) ?_|refine Ex.g ?_|refine Ex.om ?_);conv=>whnf
   refine⟨d+1,zo,by dsimp only;omega,?_⟩;dsimp only;rw[hst,show zar q d=q from hls];exact Ex.wG [0,1,2,3] [] [] ⟨rQ hq96,bR,bV,aR,zT⟩
  ·by_cases hk:(at_ Rc.o q.v.rs d).k=3
   ·cases b
    ·have hls2:zar q d=(q.note 0 d 0).setR d {Rc.o with q:=(at_ Rc.o q.v.rs d).q%65535+1}:=by rw[hls,hk];rfl
     have hxq:=h1.at (show d<n by omega);have htm:(at_ Rc.o q.v.rs d).q.tmod 65535=(at_ Rc.o q.v.rs d).q%65535:=ymY zo
     have hsm:Small ((at_ Rc.o q.v.rs d).q.tmod 65535+1):=by rw[htm];exact⟨zo,zo⟩
     have hoff2:0+((d:Nat):Int).toNat*10=d*10+0:=by simp
     (conv=>whnf);repeat(first|refine Need.mk ?_ ?_;(focus(first|exact hd0|exact hsm))|refine RK.of (zch (zab false 20) Rc.o hoff rfl rfl hltq rfl) ?_|refine zct rfl rfl rfl rfl ?_|refine KIf.t (hu) ?_|refine KIf.t (ybX hk) ?_|refine Ck.lV q (hR) hq96 hqn.symm (Wzc (ydX rfl) Wzn) ?_|refine Ck.cV (p':=(q.note 0 d 0)) (zcM n q 0 d 0 hqn hn h1.fl zo zo) hq96 hq96 (WL.sc rfl (WL.sc rfl (WL.sc rfl yMX))) ?_|refine ygY (rV n 221 0 1 (q.note 0 d 0)) ?_|refine zaV (zab false 221) Rc.o (zC ((at_ Rc.o q.v.rs d).q.tmod 65535+1)) (zC ((at_ Rc.o q.v.rs d).q.tmod 65535+1)) hoff2 rfl rfl rfl rfl rfl rfl hltq (by decide) rfl ?_|refine Ex.g ?_|refine Ex.om ?_);conv=>whnf
     rw[htm];refine⟨d+1,zo,by dsimp only;omega,?_⟩;dsimp only;rw[hst,hls2];refine yCX [0,1,2,3] [] [] rfl rfl rfl rfl ?_ ?_ ?_ ?_
     ·refine⟨⟨rfl,rfl,yzX (zaI (i:=d) hq96 yoX (λk hk=>zap _ _ _ _ _ (Ne.symm hk)) zN ?_)⟩,bR,bV,aR,zT⟩;show WL _ _ _ (rcP false 20 d (at_ Rc.o (q.v.rs.set d _) d)) _;rw[zaj _ _ _ _ hltq];exact zyN
     ·refine λj o1 h _=>⟨zn1 (i:=d) (p:=nf (q.note 0 d 0)) (q:=nf ((q.note 0 d 0).setR d {Rc.o with q:=(at_ Rc.o q.v.rs d).q%65535+1})) yoX rfl rfl (λk hk=>zap _ _ _ _ _ (Ne.symm hk)) ?_ zo j o1 h,yQX _ _ j o1 h⟩
      show(at_ Rc.o (q.v.rs.set d _) d).ss=[]/\(at_ Rc.o (q.v.rs.set d _) d).es=[]
      rw[zaj _ _ _ _ hltq];exact⟨rfl,rfl⟩
     ·exact zN
     ·(repeat' first|exact zT|exact rfl|refine zA ?_ ?_)
    ·(conv=>whnf);repeat(first|refine Need.mk ?_ ?_;exact hd0|refine RK.of (zch (zab false 20) Rc.o hoff rfl rfl hltq rfl) ?_|refine zct rfl rfl rfl rfl ?_|refine KIf.t (hu) ?_|refine KIf.t (ybX hk) ?_|refine Ck.lV q (hR) hq96 hqn.symm (Wzc (ydX rfl) Wzn) ?_|refine Ex.g ?_|refine Ex.om ?_);conv=>whnf
     refine⟨d+1,zo,by dsimp only;omega,?_⟩;dsimp only;rw[hst,show zar q d=q by rw[hls];simp];exact Ex.wG [0,1,2,3] [] [] ⟨rQ hq96,bR,bV,aR,zT⟩
   ·(conv=>whnf);repeat(first|refine Need.mk ?_ ?_;exact hd0|refine RK.of (zch (zab false 20) Rc.o hoff rfl rfl hltq rfl) ?_|refine zct rfl rfl rfl rfl ?_|refine KIf.t (hu) ?_|refine KIf.f (ycX hk) ?_|refine Ex.g ?_|refine Ex.om ?_);conv=>whnf
    refine⟨d+1,zo,by dsimp only;omega,?_⟩;dsimp only;rw[hst,show zar q d=q by rw[hls];simp[hk]];exact Ex.wG [0,1,2,3] [] [] ⟨rQ hq96,bR,bV,aR,zT⟩
 ·(conv=>whnf);repeat(first|refine ygY (rV n 20 0 1 q) ?_|refine Ex.om ?_);conv=>whnf
  rw[←hfin zo];exact⟨Ex.wG [0,1] [] [] ⟨rQ hq96,bR,zT⟩ (hsl:=by exact⟨za2 (zgB ⟨rfl,rfl⟩ ⟨rfl,rfl⟩ zN),zT⟩)⟩
theorem zo8 (n:Nat) (p:Ck.Rp) (hf:Rf n p) (hn:n<=96) (hb:p.fd.length<=100000) (hds:0<p.v.ds.length/\p.v.ds.length<=100000):HG Tryz.prog 2 20 220 70 [.agg (rV n 20 0 1 p)] (gP false (nf p)) [.row (flatI (rcP false 20) 0 (p).v.rs) 66 10, .row ((cnL n (p)).map bb) 4 0] (.agg (rV n 20 0 1 (descriptors p)))
  (gP false (nf (descriptors p))) [.row (flatI (rcP false 20) 0 ((descriptors p)).v.rs) 66 10, .row ((cnL n ((descriptors p))).map bb) 4 0]:=by
 have h96:p.v.rs.length<=96:=by rw[hf.n];exact hn
 refine HG.of zal zo ?_;refine Ex.go ?_;refine Ex.wl n (λd=>zag [(1, .ptr 2 0),(2, .ptr 3 0),(3,ib d)] 45) (λd=>zaw 20 220 (gP false (nf (it zas p d))) [.row (flatI (rcP false 20) 0 (it zas p d).v.rs) 66 10, .row ((cnL n (it zas p d)).map bb) 4 0, .row (rV n 20 0 1 (it zas p d)) 53 0, .row zkw 53 0]) ?_ ?_
 ·exact Ex.wG [0,1,220,221] [] [] ⟨rQ h96,bR,bV,aR,zT⟩
 intro d hd;obtain⟨h1,h2,h3,h4⟩:=zkl hf d hd;have hst:it zas p (d+1)=zas (it zas p d) d:=rfl
 have hfin:d=n->it zas p d=descriptors p:=λe=>by rw[e,←hf.n];rfl
 generalize it zas p d=q at*
 have hqn:q.v.rs.length=n:=h1.n;have hq96:q.v.rs.length<=96:=zo
 have hqd:0<q.v.ds.length/\q.v.ds.length<=100000:=by rw[h4];exact hds
 by_cases h:d<n
 ·have hltq:d<q.v.rs.length:=zo
  have hd0:(0:Int)<=(d:Nat)/\((d:Nat):Int)<(n:Nat):=⟨zo,zo⟩
  have hls:zas q d=if own (at_ Rc.o q.v.rs d)&& !q.v.ds.contains (at_ Rc.o q.v.rs d).ds then(q.note 2 d 0).setR d {at_ Rc.o q.v.rs d with ds:=at_ 0 q.v.ds 0} else q:=by unfold zas;simp only[zae]
  obtain⟨ob,hob⟩:∃b,own (at_ Rc.o q.v.rs d)=b:=⟨_,rfl⟩
  have hO:=zt6 q.v d hltq zo hob;have hH:=zyM q.v.ds (at_ Rc.o q.v.rs d).ds hqd.2
  have hoff6:0+((d:Nat):Int).toNat*10+6=d*10+6:=by simp
  rw[hob] at hls;cases ob
  ·(conv=>whnf);repeat(first|refine Ck.lD q (hO) hq96 hqn.symm (Wzc (ydX rfl) Wzn) ?_|refine Ex.g ?_|refine Ex.om ?_);conv=>whnf
   refine⟨d+1,zo,by dsimp only;omega,?_⟩;dsimp only;rw[hst,show zas q d=q from hls];exact Ex.wG [0,1,2,3] [] [] ⟨rQ hq96,bR,bV,aR,zT⟩
  ·by_cases hm:(at_ Rc.o q.v.rs d).ds∈q.v.ds
   ·rw[ybX hm] at hH
    (conv=>whnf);repeat(first|refine Need.mk ?_ ?_;exact hd0|refine Ck.lD q (hO) hq96 hqn.symm (Wzc (ydX rfl) Wzn) ?_|refine RK.of (zam (zab false 20) Rc.o (k:=6) hoff6 rfl rfl hltq (by decide) rfl) ?_|refine yxX (hH) ?_|refine Ex.g ?_|refine Ex.om ?_);conv=>whnf
    refine⟨d+1,zo,by dsimp only;omega,?_⟩;dsimp only;rw[hst,show zas q d=q by rw[hls];simp[hm]];exact Ex.wG [0,1,2,3] [] [] ⟨rQ hq96,bR,bV,aR,zT⟩
   ·rw[ycX hm] at hH
    have hls2:zas q d=(q.note 2 d 0).setR d {at_ Rc.o q.v.rs d with ds:=at_ 0 q.v.ds 0}:=by rw[hls];simp[hm]
    have hd1:(0:Int)<=0/\(0:Int)<((q.note 2 d 0).v.ds.length:Nat):=⟨zo,by show(0:Int)<(q.v.ds.length:Nat);omega⟩
    (conv=>whnf);repeat(first|refine Need.mk ?_ ?_;(focus(first|exact hd0|exact hd1))|refine Ck.lD q (hO) hq96 hqn.symm (Wzc (ydX rfl) Wzn) ?_|refine RK.of (zam (zab false 20) Rc.o (k:=6) hoff6 rfl rfl hltq (by decide) rfl) ?_|refine yxX (hH) ?_|refine Ck.cV (p':=(q.note 2 d 0)) (zcM n q 2 d 0 hqn hn h1.fl zo zo) hq96 hq96 (WL.sc rfl (WL.sc rfl (WL.sc rfl yMX))) ?_|refine ygY (rV n 220 0 1 (q.note 2 d 0)) ?_|refine zaV (zab false 220) Rc.o (k:=6) [ib (at_ 0 q.v.ds 0)] (rcP false 220 d {at_ Rc.o q.v.rs d with ds:=at_ 0 q.v.ds 0}) hoff6 rfl rfl rfl rfl rfl rfl hltq (by decide) rfl ?_|refine Ex.g ?_|refine Ex.om ?_);conv=>whnf
    refine⟨d+1,zo,by dsimp only;omega,?_⟩;dsimp only;rw[hst,hls2];refine yCX [0,1,2,3] [] [] rfl rfl rfl rfl ?_ ?_ ?_ ?_
    ·refine⟨⟨rfl,rfl,yzX (zaI (i:=d) hq96 yoX (λk hk=>zap _ _ _ _ _ (Ne.symm hk)) zN ?_)⟩,bR,bV,aR,zT⟩;show WL _ _ _ (rcP false 20 d (at_ Rc.o (q.v.rs.set d _) d)) _;rw[zaj _ _ _ _ hltq];exact zit FR.G zo
    ·exact λj o1 h _=>⟨(ywZ (zc4 (p:=nf (q.note 2 d 0)) (i:=d) (x:={at_ Rc.o q.v.rs d with ds:=at_ 0 q.v.ds 0}) ⟨rfl,rfl⟩) j).symm.trans h,yQX _ _ j o1 h⟩
    ·exact zN
    ·(repeat' first|exact zT|exact rfl|refine zA ?_ ?_)
 ·(conv=>whnf);repeat(first|refine ygY (rV n 20 0 1 q) ?_|refine Ex.om ?_);conv=>whnf
  rw[←hfin zo];exact⟨Ex.wG [0,1] [] [] ⟨rQ hq96,bR,zT⟩ (hsl:=by exact⟨za2 (zgB ⟨rfl,rfl⟩ ⟨rfl,rfl⟩ zN),zT⟩)⟩
theorem zsE (n:Nat) (p:Ck.Rp) (hf:Rf n p) (hn:n<=96) (hb:p.fd.length<=400000) (hns:NsOk p):HG Tryz.prog 2 20 220 65 [.agg (rV n 20 0 1 p)] (gP false (nf p)) [.row (flatI (rcP false 20) 0 (p).v.rs) 66 10, .row ((cnL n (p)).map bb) 4 0] (.agg (rV n 20 0 1 (links p)))
  (gP false (nf (links p))) [.row (flatI (rcP false 20) 0 ((links p)).v.rs) 66 10, .row ((cnL n ((links p))).map bb) 4 0]:=by
 have h96:p.v.rs.length<=96:=by rw[hf.n];exact hn
 have hI:=zjS hf hns;refine HG.of zal zo ?_;refine Ex.go ?_;refine Ex.wl n (λd=>zag [(1, .ptr 2 0),(2, .ptr 3 0),(3,ib d)] 47) (λd=>zaw 20 220 (gP false (nf (blw zb2 p d))) [.row (flatI (rcP false 20) 0 (blw zb2 p d).v.rs) 66 10, .row ((cnL n (blw zb2 p d)).map bb) 4 0, .row (rV n 20 0 1 (blw zb2 p d)) 53 0, .row zkw 53 0]) ?_ ?_
 ·exact Ex.wG [0,1,220,221] [] [] ⟨rQ h96,bR,bV,aR,zT⟩
 intro d hd;obtain⟨h1,h2,h3⟩:=zh7 (f:=zb2) (I:=λj q=>Rf n q/\q.fd.length<=p.fd.length+j/\NsOk q) hI hd;have hlo:=zrW (f:=zb2) (p:=p) (d:=d);have hhi:=zrX (f:=zb2) (p:=p) (d:=d);have hfin:d=n->blw zb2 p d=links p:=λe=>zmY (by rw[e,hf.n])
 generalize blw zb2 p d=q at*
 have hqn:q.v.rs.length=n:=h1.n;have hq96:q.v.rs.length<=96:=zo;by_cases h:d<n
 ·have hltq:d<q.v.rs.length:=zo
  have hd0:(0:Int)<=(d:Nat)/\((d:Nat):Int)<(n:Nat):=⟨zo,zo⟩
  have h7:0+((d:Nat):Int).toNat*10+7=d*10+7:=by simp
  have h5:0+((d:Nat):Int).toNat*10+5=d*10+5:=by simp
  obtain⟨ob,hob⟩:∃b,(decide (16<=d)&&own (at_ Rc.o q.v.rs d))=b:=⟨_,rfl⟩
  have hO:=zju q.v d hltq zo hob;cases ob
  ·have hsame:blw zb2 p (d+1)=q:=by
    by_cases h16:16<=d
    ·rw[hhi h16,yfX];rw[ybX h16,y3X] at hob;simp[hob]
    ·exact hlo zo
   (conv=>whnf);repeat(first|refine Need.mk ?_ ?_;exact hd0|refine RK.of (zam (zab false 20) Rc.o (k:=7) h7 rfl rfl hltq (by decide) rfl) ?_|refine Ck.lV q (hO) hq96 hqn.symm (Wzc (ydX rfl) Wzn) ?_|refine Ex.g ?_|refine Ex.om ?_);conv=>whnf
   refine⟨d+1,zo,by dsimp only;omega,?_⟩;dsimp only;rw[hsame];exact Ex.wG [0,1,2,3] [] [] ⟨rQ hq96,bR,bV,aR,zT⟩
  ·simp only[ykX,yDX] at hob
   have hls:blw zb2 p (d+1)=if(at_ Rc.o q.v.rs d).ln≠(at_ Rc.o q.v.rs d).ns.length then(q.note 8 d 0).setR d {at_ Rc.o q.v.rs d with ln:=(at_ Rc.o q.v.rs d).ns.length} else q:=by
    rw[hhi hob.1,ygX hob.2];unfold zb2;simp only[zae]
   by_cases hl:(at_ Rc.o q.v.rs d).ln=(at_ Rc.o q.v.rs d).ns.length
   ·(conv=>whnf);repeat(first|refine Need.mk ?_ ?_;exact hd0|refine RK.of (zam (zab false 20) Rc.o (k:=7) h7 rfl rfl hltq (by decide) rfl) ?_|refine RK.of (zam (zab false 20) Rc.o (k:=5) h5 rfl rfl hltq (by decide) rfl) ?_|refine Ck.lV q (hO) hq96 hqn.symm (Wzc (ydX rfl) Wzn) ?_|refine KIf.f (yqX Bool.not (ybX hl)) ?_|refine Ex.g ?_|refine Ex.om ?_);conv=>whnf
    refine⟨d+1,zo,by dsimp only;omega,?_⟩;dsimp only;rw[hls,yfX (by simp[hl])];exact Ex.wG [0,1,2,3] [] [] ⟨rQ hq96,bR,bV,aR,zT⟩
   ·(conv=>whnf);repeat(first|refine Need.mk ?_ ?_;exact hd0|refine RK.of (zam (zab false 20) Rc.o (k:=7) h7 rfl rfl hltq (by decide) rfl) ?_|refine RK.of (zam (zab false 20) Rc.o (k:=5) h5 rfl rfl hltq (by decide) rfl) ?_|refine Ck.lV q (hO) hq96 hqn.symm (Wzc (ydX rfl) Wzn) ?_|refine KIf.t (yqX Bool.not (ycX hl)) ?_|refine Ck.cV (p':=(q.note 8 d 0)) (zcM n q 8 d 0 hqn hn h1.fl zo zo) hq96 hq96 (WL.sc rfl (WL.sc rfl (WL.sc rfl yMX))) ?_|refine ygY (rV n 220 0 1 (q.note 8 d 0)) ?_|refine zaV (zab false 220) Rc.o (k:=5) [ib (at_ Rc.o q.v.rs d).ns.length] (rcP false 220 d {at_ Rc.o q.v.rs d with ln:=(at_ Rc.o q.v.rs d).ns.length}) h5 rfl rfl rfl rfl rfl rfl hltq (by decide) rfl ?_|refine Ex.g ?_|refine Ex.om ?_);conv=>whnf
    refine⟨d+1,zo,by dsimp only;omega,?_⟩;dsimp only;rw[hls,ygX hl];refine yCX [0,1,2,3] [] [] rfl rfl rfl rfl ?_ ?_ ?_ ?_
    ·refine⟨⟨rfl,rfl,yzX (zaI (i:=d) hq96 yoX (λk hk=>zap _ _ _ _ _ (Ne.symm hk)) zN ?_)⟩,bR,bV,aR,zT⟩;show WL _ _ _ (rcP false 20 d (at_ Rc.o (q.v.rs.set d _) d)) _;rw[zaj _ _ _ _ hltq];exact zit FR.G zo
    ·exact λj o1 h _=>⟨(ywZ (zc4 (p:=nf (q.note 8 d 0)) (i:=d) (x:={at_ Rc.o q.v.rs d with ln:=(at_ Rc.o q.v.rs d).ns.length}) ⟨rfl,rfl⟩) j).symm.trans h,yQX _ _ j o1 h⟩
    ·exact zN
    ·(repeat' first|exact zT|exact rfl|refine zA ?_ ?_)
 ·(conv=>whnf);repeat(first|refine ygY (rV n 20 0 1 q) ?_|refine Ex.om ?_);conv=>whnf
  rw[←hfin zo];exact⟨Ex.wG [0,1] [] [] ⟨rQ hq96,bR,zT⟩ (hsl:=by exact⟨za2 (zgB ⟨rfl,rfl⟩ ⟨rfl,rfl⟩ zN),zT⟩)⟩
end Go.Proofs.YtgcjejajljhnaaaGreatDoor
namespace Ck
theorem zh5 {es:List En} {r:Nat} (hr:r<100) (hl:es.length<9000):es.any (λx=>same x.n (zad r (zbY es r 0 (es.length+1))))=false/\zbY es r 0 (es.length+1)<=es.length:=by
 have hex:∃j,j<=es.length/\zcX es r j=false:=by
  apply yrZ;intro hno
  have:∀i,i<es.length+1->zcX es r i=true:=λi hi=>by
   cases h:zcX es r i
   ·exact absurd ⟨i,zo,h⟩ hno
   ·rfl
  have:=zi8 hr zo this;omega
 have hmin:∃j,zcX es r j=false/\j<=es.length/\∀i,i<j->zcX es r i=true:=by
  obtain⟨j,hj,hf⟩:=hex
  induction j using Nat.strongRecOn with
  |ind j ih=>
   by_cases h:∃i,i<j/\zcX es r i=false
   ·obtain⟨i,hi,hfi⟩:=h;exact ih i hi zo hfi
   ·exact⟨j,hf,hj,λi hi=>by
     cases h2:zcX es r i
     ·exact absurd ⟨i,hi,h2⟩ h
     ·rfl⟩
 obtain⟨j,h1,h2,h3⟩:=hmin;have:=zeb (es:=es) (r:=r) (es.length+1) 0 j (ymX _) zo (λi _ hi=>h3 i hi) h1;rw[this];exact⟨h1,h2⟩
structure Fx (p:Rp) (r:Nat):Prop where
 en:zm8 p
 no:∀d,∀e∈(at_ Rc.o p.v.rs d).es,e.f.r.toNat≠r
 pw:Pw p
 e0:E0 p
 nk:∀j,j≠r->Nk p j
theorem Fit5.fx {p:Rp} (h:Fit5 p) {r:Nat} (hn:(at_ Rc.o p.v.rs r).ns=[]):Fx p r:=
 ⟨h.en,λd e he c=>by
  obtain⟨_,_,g⟩:=h.en d e he
  have:(p.rc e.f.r).ns=[]:=by unfold Rp.rc rc;rw[c];exact hn
  (rw[this] at g;cases g),h.pw,h.e0,λj _=>h.nk j⟩
theorem Fx.bring {p:Rp} {r:Nat} (h:Fx p r) (hr:16<=r/\r<p.v.rs.length) (h96:p.v.rs.length<=96) (ho:own (p.rc r)=true) (h5:dir (p.rc 5)=true) (hl:(p.rc 5).es.length<9000):Fit5 (bring p r):=by
 have hkp:Kp p (Ck.bring p r):=(ybY p).bring r;obtain⟨hfree,_⟩:=zh5 (es:=(p.rc 5).es) (r:=r) zo hl
 obtain⟨N,hN⟩:∃N,zad r (zbY (p.rc 5).es r 0 ((p.rc 5).es.length+1))=N:=⟨_,rfl⟩
 rw[hN] at hfree
 have hq:Ck.bring p r=Ck.enter (p.setR r {p.rc r with ns:=[⟨p.ref 5,N⟩]}) 5 N r:=by
  unfold Ck.bring;dsimp only;rw[hN]
 obtain⟨w,hw⟩:∃w,p.setR r {p.rc r with ns:=[⟨p.ref 5,N⟩]}=w:=⟨_,rfl⟩
 rw[hw] at hq
 have hkw:Kp p w:=by rw[←hw];exact(ybY p).setR r _ (by rw[zae];exact⟨⟨rfl,rfl,rfl⟩,rfl⟩)
 have hat:∀j,at_ Rc.o w.v.rs j=if r=j then{p.rc r with ns:=[⟨p.ref 5,N⟩]} else at_ Rc.o p.v.rs j:=λj=>by
  rw[←hw];show at_ Rc.o (p.v.rs.set r _) j=_;rw[zb0];by_cases e:r=j
  ·subst e;rw[ygX ⟨rfl,hr.2⟩,ygX rfl]
  ·rw[yfX (λc=>e c.1),yfX e]
 have hwes:∀j,(at_ Rc.o w.v.rs j).es=(at_ Rc.o p.v.rs j).es:=λj=>by
  rw[hat];split
  ·rename_i e;subst e;rw[zae]
  ·rfl
 have h5l:5<p.v.rs.length:=zo
 have hes:∀j,(at_ Rc.o (Ck.bring p r).v.rs j).es=if 5=j then(at_ Rc.o p.v.rs j).es++[⟨N,w.ref r,sizeOf (w.rc r)⟩] else(at_ Rc.o p.v.rs j).es:=λj=>by
  rw[hq,zkg (by rw[hkw.2.2.2];exact h5l)];show(if 5=j then _ else _)=_;rw[hwes]
 have hns:∀j,(at_ Rc.o (Ck.bring p r).v.rs j).ns=if r=j then [⟨p.ref 5,N⟩] else(at_ Rc.o p.v.rs j).ns:=λj=>by
  rw[hq,zjE,hat];split
  ·rfl
  ·rfl
 have h5r:(right p.v (p.ref 5)&&(p.rc (p.ref 5).r).k==0)=true:=by
  have hd:=h5;unfold dir at hd;simp only[ykX,yiY] at hd
  have ho5:own (p.rc (5:Nat))=true:=by
   unfold own;have h1:(p.rc (5:Nat)).u=true:=hd.1;have h2:(p.rc (5:Nat)).k=0:=hd.2;rw[h1,h2];rfl
  have h1:right p.v (p.ref 5)=true:=zdW (i:=5) h5l ho5;have h2:(p.rc (p.ref 5).r).k=0:=hd.2;rw[h1,h2];rfl
 have hnew:Ne (Ck.bring p r) r ⟨p.ref 5,N⟩:=by
  refine⟨by rw[zjq hkp];exact h5r,⟨N,w.ref r,sizeOf (w.rc r)⟩,?_,?_,rfl⟩
  ·show _∈(at_ Rc.o (Ck.bring p r).v.rs 5).es;rw[hes,ygX rfl];exact y6X _ (yiX.2 rfl)
  ·rw[hkp.2.1.ref];exact hkw.2.1.ref _
 have hold:∀j m,Ne p j m->Ne (Ck.bring p r) j m:=λj m ⟨a,e,b,c,d⟩=>by
  refine⟨by rw[zjq hkp];exact a,e,?_,by rw[hkp.2.1.ref];exact c,d⟩;show e∈(at_ Rc.o (Ck.bring p r).v.rs m.d.r.toNat).es;rw[hes];split
  ·exact yUX _ b
  ·exact b
 refine⟨λd e he=> ?_,λd=> ?_,λd hd=> ?_,λj=> ?_⟩
 ·rw[hes] at he
  have hin:e∈(at_ Rc.o p.v.rs d).es->Eo (Ck.bring p r) d e:=λhe=>by
   obtain⟨a,b,c⟩:=h.en d e he;refine⟨by rw[hkp.2.1.right hkp.2.2.2];exact a,b,?_⟩;rw[hkp.2.1.ref];show _∈(at_ Rc.o (Ck.bring p r).v.rs e.f.r.toNat).ns;rw[hns,yfX (λx=>h.no d e he x.symm)];exact c
  split at he
  ·rename_i hd
   rcases yRX.1 he with he|he
   ·exact hin he
   ·rcases yiX.1 he with rfl
    subst hd;have hwr:w.ref r=p.ref r:=hkw.2.1.ref _;refine⟨?_,?_,?_⟩
    ·show right _ (w.ref r)=true;rw[hkp.2.1.right hkp.2.2.2,hwr];exact zdW hr.2 ho
    ·show(16:Int)<=(r:Nat);omega
    ·show(⟨(Ck.bring p r).ref 5,N⟩:Nm)∈((Ck.bring p r).rc (r:Nat)).ns;rw[hkp.2.1.ref,zae,hns,ygX rfl];exact yiX.2 rfl
  ·exact hin he
 ·show Pws (at_ Rc.o (Ck.bring p r).v.rs d).es;rw[hes];split
  ·rename_i hd;subst hd;refine(h.pw 5).snoc ?_;rw[ySY] at hfree⊢;intro x hx;have:=hfree x hx;rw[zfa];exact this
  ·exact h.pw d
 ·rw[hkp.2.1.dir] at hd;rw[hes,yfX]
  ·exact h.e0 d hd
  ·rintro rfl;have:dir (at_ Rc.o p.v.rs 5)=true:=h5;rw[this] at hd;cases hd
 ·by_cases e:j=r
  ·subst e;refine⟨λm hm=> ?_,λ_=>by rw[hns,ygX rfl];exact yhX _⟩;rw[hns,ygX rfl] at hm
   rcases yiX.1 hm with rfl
   exact hnew
  ·obtain⟨a,b⟩:=h.nk j e;refine⟨λm hm=> ?_,λhk=> ?_⟩
   ·rw[hns,yfX (Ne.symm e)] at hm;exact hold j m (a m hm)
   ·rw[hns,yfX (Ne.symm e)];exact b (by rw[←(hkp.2.1 j).2.1];exact hk)
theorem Fit5.of_v {p q:Rp} (h:Fit5 p) (hv:q.v=p.v):Fit5 q:=by
 obtain⟨a,b,c,d⟩:=h;unfold zm8 Eo Rp.ref Rp.rc at a;refine⟨?_,by unfold Pw at b⊢;rw[hv];exact b,by unfold E0 at c⊢;rw[hv];exact c,λj=> ?_⟩
 ·unfold zm8 Eo Rp.ref Rp.rc;rw[hv];exact a
 ·have:=d j;unfold Nk Ne Rp.ref Rp.rc at this⊢;rw[hv];exact this
theorem zdZ {p q:Rp} (h:Kp p q) (i:Nat):own (at_ Rc.o q.v.rs i)=own (at_ Rc.o p.v.rs i):=by unfold own;rw[(h.2.1 i).1,(h.2.1 i).2.1]
theorem zhy {p:Rp} {L:Nat} (h:Fit5 p) (h96:p.v.rs.length<=96) (hL:EsL L p) (hl:L<=8000) (h5:dir (at_ Rc.o p.v.rs 5)=true):Fit5 (orphans p):=by
 have key:∀k,k<=p.v.rs.length-16->Fit5 (it (λq j=>if own (q.rc (16+j:Nat)) then zaz q (16+j) else q) p k)/\EsL (L+k) (it (λq j=>if own (q.rc (16+j:Nat)) then zaz q (16+j) else q) p k)/\Kp p (it (λq j=>if own (q.rc (16+j:Nat)) then zaz q (16+j) else q) p k):=by
  refine zbo (I:=λk q=>Fit5 q/\EsL (L+k) q/\Kp p q) (λs k hk ⟨a1,a2,a3⟩=> ?_) ⟨h,hL,ybY p⟩;have hmono:EsL (L+(k+1)) s:=a2.mono zo;split
  ·rename_i ho;unfold zaz;split
   ·rename_i h0;rw[zae] at h0;have hn:Kp s (s.note 6 (16+k:Nat) 0):=(ybY s).of_v rfl;refine⟨?_,?_,a3.trans (hn.bring _)⟩
    ·refine((a1.of_v (q:=s.note 6 (16+k:Nat) 0) rfl).fx (r:=16+k) (yeX h0)).bring ⟨zo,?_⟩ ?_ ho ?_ ?_
     ·show 16+k<s.v.rs.length;rw[a3.2.2.2];omega
     ·show s.v.rs.length<=96;rw[a3.2.2.2];exact h96
     ·show dir (at_ Rc.o s.v.rs 5)=true;rw[a3.2.1.dir];exact h5
     ·have:=a2.at 5;show(at_ Rc.o s.v.rs 5).es.length<9000;omega
    ·have h7:EsL (L+k+1) (Ck.bring (s.note 6 (16+k:Nat) 0) (16+k)):=EsL.bring (a2.of_v (q':=s.note 6 (16+k:Nat) 0) rfl);exact h7
   ·exact⟨a1,hmono,a3⟩
  ·exact⟨a1,hmono,a3⟩
 exact(key _ (yhX _)).1
structure Dj (p:Rp) (r:Nat) (l:List Nm) (k:Nat) (w:Rp):Prop where
 kp:Kp p w
 kn:Kn p w
 en:∀d,∀e∈(at_ Rc.o w.v.rs d).es,e∈(at_ Rc.o p.v.rs d).es/\(e.f.r.toNat=r->(⟨p.ref d,e.n⟩:Nm)∈l.drop k)
 pw:Pw w
 oth:∀j,j≠r->∀m,Ne p j m->Ne w j m
theorem zwY {p:Rp} {f:Ref} {i:Nat} (h:right p.v f=true) (h16:16<=f.r) (hi:f.r.toNat=i):f=p.ref i:=by
 unfold right at h;simp only[ykX,yiY] at h;have q4:=h.2;have hr:f.r=(i:Nat):=zo;unfold Rp.ref Rp.rc;rw[hr] at q4
 cases f with
 |mk a b=>
  simp only at hr q4;rw[hr,←q4]
theorem Dj.step {p:Rp} {r:Nat} {l:List Nm} {k:Nat} {w:Rp} (hE:zm8 p) (h0:E0 p) (h:Dj p r l k w) (hk:k<l.length):Dj p r l (k+1) (drop w r (at_ Nm.o l k)):=by
 obtain⟨n,hn⟩:∃n,at_ Nm.o l k=n:=⟨_,rfl⟩
 have hdr:l.drop k=n::l.drop (k+1):=by rw[drop_at Nm.o l k hk,hn]
 rw[hn];have hkp:Kp w (drop w r n):=(ybY w).drop r n;refine⟨h.kp.trans hkp,λj=>(zmw j).trans (h.kn j),λd e he=> ?_,λd=> ?_,λj hj m hm=>(h.oth j hj m hm).drop (.inl hj)⟩
 ·rw[zhW] at he
  have hin:e∈(at_ Rc.o w.v.rs d).es:=by
   split at he
   ·exact(yVY.1 he).1
   ·exact he
  obtain⟨q1,q2⟩:=h.en d e hin;refine⟨q1,λhf=> ?_⟩;have q3:=q2 hf;rw[hdr] at q3
  rcases yAX.1 q3 with hnn|q3
  ·exfalso;obtain⟨g1,g2,_⟩:=hE d e q1
   have hef:e.f=w.ref r:=by rw[h.kp.2.1.ref];exact zwY g1 g2 hf
   have hdir:dir (at_ Rc.o p.v.rs d)=true:=by
    cases hd:dir (at_ Rc.o p.v.rs d)
    ·rw[h0 d hd] at q1;cases q1
    ·rfl
   have hdl:d<p.v.rs.length:=by
    by_cases hd:d<p.v.rs.length
    ·exact hd
    ·unfold at_ at hdir;rw[yyX zo] at hdir;cases hdir
   have hnd:n.d=p.ref d:=by rw[←hnn]
   have hen:e.n=n.n:=by rw[←hnn]
   unfold dir at hdir;simp only[ykX,yiY] at hdir
   have hrd:(right w.v n.d&&(w.rc n.d.r).k==0)=true:=by
    rw[zjq h.kp,hnd]
    have hown:own (p.rc d)=true:=by
     rw[zae];unfold own;rw[hdir.1,hdir.2];rfl
    rw[zdW hdl hown]
    have:(p.rc (p.ref d).r).k=0:=by
     show(p.rc (d:Nat)).k=0;rw[zae];exact hdir.2
    rw[this];rfl
   have hdd:n.d.r.toNat=d:=by rw[hnd];show(((d:Nat):Int)).toNat=d;exact yrX d
   rw[ygX ⟨hrd,hdd⟩,yVY] at he;have:=he.2;rw[hef,hen] at this;simp at this
  ·exact q3
 ·show Pws (at_ Rc.o (drop w r n).v.rs d).es;rw[zhW];split
  ·exact List.Pairwise.filter _ (h.pw d)
  ·exact h.pw d
theorem zof {p:Rp} (h:Fit5 p) (r:Nat):Fx (it (λq k=>drop q r (at_ Nm.o (at_ Rc.o p.v.rs r).ns k)) p (at_ Rc.o p.v.rs r).ns.length) r/\Kp p (it (λq k=>drop q r (at_ Nm.o (at_ Rc.o p.v.rs r).ns k)) p (at_ Rc.o p.v.rs r).ns.length):=by
 have key:Dj p r (at_ Rc.o p.v.rs r).ns (at_ Rc.o p.v.rs r).ns.length (it (λq k=>drop q r (at_ Nm.o (at_ Rc.o p.v.rs r).ns k)) p (at_ Rc.o p.v.rs r).ns.length):=by
  refine(zbo (I:=λk q=>Dj p r (at_ Rc.o p.v.rs r).ns k q) (λs k hk hs=>hs.step h.en h.e0 hk) ⟨ybY p,λ_=>rfl,λd e he=>⟨he,λhf=> ?_⟩,h.pw,λ_ _ _ hm=>hm⟩) _ (yhX _);obtain⟨_,_,c⟩:=h.en d e he
  have:p.rc e.f.r=at_ Rc.o p.v.rs r:=by unfold Rp.rc rc;rw[hf]
  rw[this] at c;exact c
 generalize it (λq k=>drop q r (at_ Nm.o (at_ Rc.o p.v.rs r).ns k)) p (at_ Rc.o p.v.rs r).ns.length=w at*
 refine⟨⟨λd e he=>(h.en d e (key.en d e he).1).of key.kp key.kn,λd e he c=> ?_,key.pw,λd hd=> ?_,λj hj=>⟨λm hm=> ?_,λhk=> ?_⟩⟩,key.kp⟩
 ·have:=(key.en d e he).2 c;rw[y9X] at this;cases this
 ·rw[key.kp.2.1.dir] at hd;have:=h.e0 d hd;refine List.eq_nil_iff_forall_not_mem.2 λe he=> ?_;have:=(key.en d e he).1;rw[h.e0 d hd] at this;cases this
 ·rw[key.kn] at hm;exact key.oth j hj m ((h.nk j).1 m hm)
 ·rw[key.kn];exact(h.nk j).2 (by rw[←(key.kp.2.1 j).2.1];exact hk)
theorem zf9 {p:Rp} {L:Nat} (h:Fit5 p) (h96:p.v.rs.length<=96) (hL:EsL L p) (hl:L<=8000) (h5:dir (at_ Rc.o p.v.rs 5)=true) {j:Nat} (hj:16+j<p.v.rs.length):Fit5 (cycleR p j):=by
 unfold cycleR;split
 ·rename_i hc;simp only[ykX] at hc;have hd:=hc.1;rw[zae] at hd⊢
  obtain⟨q,hq⟩:∃q,p.note 7 (16+j:Nat) 0=q:=⟨_,rfl⟩
  have hv:q.v=p.v:=by rw[←hq];rfl
  have hfit:Fit5 q:=h.of_v hv;obtain⟨hx,hkp⟩:=zof hfit (16+j);rw[hq];rw[show at_ Rc.o p.v.rs (16+j)=at_ Rc.o q.v.rs (16+j) by rw[hv]]
  have hes:(at_ Rc.o (it (λq' k=>drop q' (16+j) (at_ Nm.o (at_ Rc.o q.v.rs (16+j)).ns k)) q (at_ Rc.o q.v.rs (16+j)).ns.length).v.rs 5).es.length<=L:=by
   have:∀k,EsL L (it (λq' k=>drop q' (16+j) (at_ Nm.o (at_ Rc.o q.v.rs (16+j)).ns k)) q k):=za4 (I:=λw:Rp=>EsL L w) (λs k hs=>hs.drop) (hL.of_v hv);exact(this _).at 5
  generalize it (λq' k=>drop q' (16+j) (at_ Nm.o (at_ Rc.o q.v.rs (16+j)).ns k)) q (at_ Rc.o q.v.rs (16+j)).ns.length=w at*
  refine hx.bring ⟨zo,by rw[hkp.2.2.2,hv];exact hj⟩ (by rw[hkp.2.2.2,hv];exact h96) ?_ ?_ ?_
  ·rw[zae,zdZ hkp,hv];unfold dir at hd;simp only[ykX,yiY] at hd;unfold own;rw[hd.1,hd.2];rfl
  ·show dir (at_ Rc.o w.v.rs 5)=true;rw[hkp.2.1.dir,hv];exact h5
  ·show(at_ Rc.o w.v.rs 5).es.length<9000;omega
 ·exact h
theorem zhZ {p:Rp} {L:Nat} (hL:EsL L p) (j:Nat):EsL (L+1) (cycleR p j):=by
 unfold cycleR;split
 ·have:∀k,EsL L (it (λq' k=>drop q' (16+j) (at_ Nm.o (p.rc (16+j:Nat)).ns k)) (p.note 7 (16+j:Nat) 0) k):=za4 (I:=λw:Rp=>EsL L w) (λs k hs=>hs.drop) (hL.of_v rfl);exact λx hx=>EsL.bring (this _) x hx
 ·exact hL.mono zo
theorem Kp.cycleR (q:Rp) (j:Nat):Kp q (cycleR q j):=by
 unfold Ck.cycleR;split
 ·have h:=Kp.it (g:=id) (λ(s:Rp) k=>show Kp s (Ck.drop s (16+j) (at_ Nm.o (q.rc (16+j:Nat)).ns k)) from(ybY s).drop _ _) (q.note 7 (16+j:Nat) 0) (q.rc (16+j:Nat)).ns.length;exact(((ybY q).of_v (r:=q.note 7 (16+j:Nat) 0) rfl).trans h).bring _
 ·exact ybY q
theorem zhY {p:Rp} {L:Nat} (h:Fit5 p) (h96:p.v.rs.length<=96) (hL:EsL L p) (hl:L<=7000) (h5:dir (at_ Rc.o p.v.rs 5)=true):Fit5 (cyclesR p):=by
 have key:∀k,k<=p.v.rs.length-16->Fit5 (it cycleR p k)/\EsL (L+k) (it cycleR p k)/\Kp p (it cycleR p k):=by
  refine zbo (I:=λk q=>Fit5 q/\EsL (L+k) q/\Kp p q) (λs k hk ⟨a1,a2,a3⟩=>⟨?_,?_,a3.trans (Kp.cycleR s k)⟩) ⟨h,hL,ybY p⟩
  ·exact zf9 a1 (by rw[a3.2.2.2];exact h96) a2 zo (by rw[a3.2.1.dir];exact h5) (by rw[a3.2.2.2];omega)
  ·have:=zhZ a2 k;exact this
 exact(key _ (yhX _)).1
theorem zr7 {α:Type} (o:α) (l:List α) (i:Nat) (h:l.length<=i):at_ o l i=o:=by unfold at_;rw[yyX h];rfl
theorem zdT (a:List UInt8):same a a=true:=by unfold same;rw[yiY]
theorem zmK {M:Nat}:∀(l:List Rc),(∀x∈l,x.ns.length<=M)->(l.flatMap (·.ns)).length<=l.length*M
 |[],_=>by simp
 |x::l,h=>by
  have h1:=zmK l λy hy=>h y (ycY _ hy);have h2:=h x yxY;rw[y0X,yvX,yGX,ybZ];omega
theorem zeU {p:Rp} (h:Rv p) (h96:p.v.rs.length<=96):(p.v.rs.flatMap (·.ns)).length<=640:=by
 have h1:((p.v.rs.take 16).flatMap (·.ns)).length<=(p.v.rs.take 16).length*0:=zmK _ λx hx=>by
  obtain⟨i,hi,rfl⟩:=yTX hx
  have hi2:i<16/\i<p.v.rs.length:=by rw[yYX] at hi;omega
  rw[List.getElem_take];have:=h.at hi2.2;rw[zaS _ _ _ hi2.2] at this;by_cases e:0<(p.v.rs[i]).ns.length
  ·have:=(this.ns0 e).2;omega
  ·omega
 have h2:((p.v.rs.drop 16).flatMap (·.ns)).length<=(p.v.rs.drop 16).length*8:=zmK _ λx hx=>by
  have hx:=List.mem_of_mem_drop hx;obtain⟨i,hi,rfl⟩:=yTX hx;have:=h.at hi;rw[zaS _ _ _ hi] at this;exact this.ns8
 have h3:p.v.rs.flatMap (·.ns)=(p.v.rs.take 16).flatMap (·.ns)++(p.v.rs.drop 16).flatMap (·.ns):=by rw[←yJX,ygZ]
 rw[h3,yvX];rw[yYY] at h2;omega
theorem zkf {p:Rp} (h:Fit5 p) (d:Nat):(at_ Rc.o p.v.rs d).es.length<=(p.v.rs.flatMap (·.ns)).length:=by
 obtain⟨es,he⟩:∃es,(at_ Rc.o p.v.rs d).es=es:=⟨_,rfl⟩
 have hpw:Pws es:=by rw[←he];exact h.pw d
 have hen:∀e∈es,Eo p d e:=by rw[←he];exact h.en d
 rw[he];have:=znD (P:=λi (m:Nm)=>decide (m=⟨p.ref d,(at_ En.o es i).n⟩)) (p.v.rs.flatMap (·.ns)) (List.range es.length) List.nodup_range (λi hi=> ?_) (λm i j hi hj h1 h2=> ?_)
 ·simpa using this
 ·have hi:=yBY.1 hi;obtain⟨_,_,c⟩:=hen _ (at_mem En.o es i hi);rw[yZY];refine⟨⟨p.ref d,(at_ En.o es i).n⟩,?_,by simp⟩;rw[List.mem_flatMap]
  obtain⟨x,hx⟩:∃x,p.rc (at_ En.o es i).f.r=x:=⟨_,rfl⟩
  rw[hx] at c;refine⟨x,?_,c⟩;unfold Rp.rc rc at hx;by_cases hl:(at_ En.o es i).f.r.toNat<p.v.rs.length
  ·rw[←hx];exact at_mem Rc.o _ _ hl
  ·rw[zr7 _ _ _ zo] at hx;rw[←hx] at c;cases c
 ·have hi:=yBY.1 hi;have hj:=yBY.1 hj;simp only[yDX] at h1 h2
  have hnn:(at_ En.o es i).n=(at_ En.o es j).n:=by
   have:=h1.symm.trans h2;simp only[Nm.mk.injEq] at this;exact this.2
  unfold Pws at hpw;rw[List.pairwise_iff_getElem] at hpw;rw[zaS _ _ _ hi,zaS _ _ _ hj] at hnn
  rcases Nat.lt_trichotomy i j with c|c|c
  ·have:=hpw i j hi hj c;rw[hnn,zdT] at this;cases this
  ·exact c
  ·have:=hpw j i hj hi c;rw[hnn,zdT] at this;cases this
theorem zs0 {n:Nm} (h1:zaJ n.d=0) (h2:zau n.n=0):zdc n=0:=by unfold zdc;rw[ygX h1];exact h2
theorem Rv.bring {p:Rp} (h:Rv p) (h96:p.v.rs.length<=96) {r:Nat} (hr:16<=r/\r<p.v.rs.length) (ho:own (p.rc r)=true) (h5:dir (at_ Rc.o p.v.rs 5)=true) (hm:(at_ Rc.o p.v.rs 5).es.length<700):Rv (bring p r):=by
 have hm5:(p.rc 5).es.length<700:=hm;obtain⟨_,hk⟩:=zh5 (es:=(p.rc 5).es) (r:=r) zo zo;unfold Ck.bring;dsimp only
 generalize zbY (p.rc 5).es r 0 ((p.rc 5).es.length+1)=K at*
 have hN:zau (zad r K)=0:=zkt zo zo
 generalize zad r K=N at*
 have hw:Rv (p.setR r {p.rc r with ns:=[⟨p.ref 5,N⟩]}):=h.setR r _ λhrl=>by
  rw[zae] at ho⊢;refine(h.at hrl).names ho zo _ (by simp) λn hn=> ?_
  rcases yiX.1 hn with rfl
  exact zs0 (zt3 h h96 (r:=5) zo) hN
 have hat:at_ Rc.o (p.setR r {p.rc r with ns:=[⟨p.ref 5,N⟩]}).v.rs 5=at_ Rc.o p.v.rs 5:=zap _ _ _ _ _ zo;have hrc:(p.setR r {p.rc r with ns:=[⟨p.ref 5,N⟩]}).rc 5=at_ Rc.o p.v.rs 5:=hat;have hln:(p.setR r {p.rc r with ns:=[⟨p.ref 5,N⟩]}).v.rs.length=p.v.rs.length:=yoX;exact hw.enter (by rw[hln];exact h96) (by rw[hln];exact hr.2) (by decide) (by rw[hrc];exact h5) (by rw[hrc];show _<700;exact hm) hN
theorem zix {p:Rp} (hv:Rv p) (h:Fit5 p) (h96:p.v.rs.length<=96) (h5:dir (at_ Rc.o p.v.rs 5)=true):Rv (orphans p):=by
 have key:∀k,k<=p.v.rs.length-16->Fit5 (it (λq j=>if own (q.rc (16+j:Nat)) then zaz q (16+j) else q) p k)/\Rv (it (λq j=>if own (q.rc (16+j:Nat)) then zaz q (16+j) else q) p k)/\Kp p (it (λq j=>if own (q.rc (16+j:Nat)) then zaz q (16+j) else q) p k):=by
  refine zbo (I:=λk q=>Fit5 q/\Rv q/\Kp p q) (λs k hk ⟨a1,a2,a3⟩=> ?_) ⟨h,hv,ybY p⟩
  have hs96:s.v.rs.length<=96:=by rw[a3.2.2.2];exact h96
  have hs5:dir (at_ Rc.o s.v.rs 5)=true:=by rw[a3.2.1.dir];exact h5
  have hes:(at_ Rc.o s.v.rs 5).es.length<=640:=yBX (zkf a1 5) (zeU a2 hs96);split
  ·rename_i ho;unfold zaz;split
   ·rename_i h0;rw[zae] at h0;have hn:Kp s (s.note 6 (16+k:Nat) 0):=(ybY s).of_v rfl
    have hil:16<=16+k/\16+k<(s.note 6 (16+k:Nat) 0).v.rs.length:=⟨zo,by show 16+k<s.v.rs.length;rw[a3.2.2.2];omega⟩
    refine⟨?_,?_,a3.trans (hn.bring _)⟩
    ·exact((a1.of_v (q:=s.note 6 (16+k:Nat) 0) rfl).fx (r:=16+k) (yeX h0)).bring hil hs96 ho hs5 (by show(at_ Rc.o s.v.rs 5).es.length<9000;omega)
    ·exact(a2.of_v (q:=s.note 6 (16+k:Nat) 0) rfl).bring hs96 hil ho hs5 (by show(at_ Rc.o s.v.rs 5).es.length<700;omega)
   ·exact⟨a1,a2,a3⟩
  ·exact⟨a1,a2,a3⟩
 exact(key _ (yhX _)).2.1
theorem zlA {p:Rp} (h:Fit5 p) (hv:Rv p) (h96:p.v.rs.length<=96) (h5:dir (at_ Rc.o p.v.rs 5)=true) {j:Nat} (hj:16+j<p.v.rs.length):Rv (cycleR p j):=by
 unfold cycleR;split
 ·rename_i hc;simp only[ykX] at hc;have hd:=hc.1;rw[zae] at hd⊢
  obtain⟨q,hq⟩:∃q,p.note 7 (16+j:Nat) 0=q:=⟨_,rfl⟩
  have hqv:q.v=p.v:=by rw[←hq];rfl
  have hfit:Fit5 q:=h.of_v hqv;have hqr:Rv q:=hv.of_v (by rw[hqv]);obtain⟨_,hkp⟩:=zof hfit (16+j);rw[hq];rw[show at_ Rc.o p.v.rs (16+j)=at_ Rc.o q.v.rs (16+j) by rw[hqv]]
  have hw:∀k,Rv (it (λq' k=>drop q' (16+j) (at_ Nm.o (at_ Rc.o q.v.rs (16+j)).ns k)) q k)/\(at_ Rc.o (it (λq' k=>drop q' (16+j) (at_ Nm.o (at_ Rc.o q.v.rs (16+j)).ns k)) q k).v.rs 5).es.length<=640:=
   za4 (I:=λw:Rp=>Rv w/\(at_ Rc.o w.v.rs 5).es.length<=640) (λs k hs=>⟨hs.1.drop _ _,by
    rw[zhW];split
    ·exact yBX (y2Y _ _) hs.2
    ·exact hs.2⟩) ⟨hqr,yBX (zkf hfit 5) (zeU hqr (by rw[hqv];exact h96))⟩
  obtain⟨g1,g2⟩:=hw (at_ Rc.o q.v.rs (16+j)).ns.length
  generalize it (λq' k=>drop q' (16+j) (at_ Nm.o (at_ Rc.o q.v.rs (16+j)).ns k)) q (at_ Rc.o q.v.rs (16+j)).ns.length=w at*
  refine g1.bring (by rw[hkp.2.2.2,hqv];exact h96) ⟨zo,by rw[hkp.2.2.2,hqv];exact hj⟩ ?_ (by rw[hkp.2.1.dir,hqv];exact h5) zo;rw[zae,zdZ hkp,hqv];unfold dir at hd;simp only[ykX,yiY] at hd;unfold own;rw[hd.1,hd.2];rfl
 ·exact hv
theorem ziS {p:Rp} {L:Nat} (h:Fit5 p) (hv:Rv p) (h96:p.v.rs.length<=96) (hL:EsL L p) (hl:L<=7000) (h5:dir (at_ Rc.o p.v.rs 5)=true):Rv (cyclesR p):=by
 have key:∀k,k<=p.v.rs.length-16->(Fit5 (it cycleR p k)/\EsL (L+k) (it cycleR p k)/\Kp p (it cycleR p k))/\Rv (it cycleR p k):=by
  refine zbo (I:=λk q=>(Fit5 q/\EsL (L+k) q/\Kp p q)/\Rv q) (λs k hk ⟨⟨a1,a2,a3⟩,a4⟩=>⟨⟨?_,zhZ a2 k,a3.trans (Kp.cycleR s k)⟩,?_⟩) ⟨⟨h,hL,ybY p⟩,hv⟩
  ·exact zf9 a1 (by rw[a3.2.2.2];exact h96) a2 zo (by rw[a3.2.1.dir];exact h5) (by rw[a3.2.2.2];omega)
  ·exact zlA a1 a4 (by rw[a3.2.2.2];exact h96) (by rw[a3.2.1.dir];exact h5) (by rw[a3.2.2.2];omega)
 exact(key _ (yhX _)).2
def Ks (p q:Rp):Prop:=Kp p q/\Kn p q/\∀d,(at_ Rc.o q.v.rs d).es.map (λe=>(e.n,e.f))=(at_ Rc.o p.v.rs d).es.map (λe=>(e.n,e.f))
theorem Ks.refl (p:Rp):Ks p p:=⟨ybY p,λ_=>rfl,λ_=>rfl⟩
theorem Ks.mem {p q:Rp} (h:Ks p q) {d:Nat} {e:En} (he:e∈(at_ Rc.o q.v.rs d).es):∃e'∈(at_ Rc.o p.v.rs d).es,e'.n=e.n/\e'.f=e.f:=by
 have:(e.n,e.f)∈(at_ Rc.o p.v.rs d).es.map (λe=>(e.n,e.f)):=by rw[←h.2.2 d];exact List.mem_map.2 ⟨e,he,rfl⟩
 obtain⟨e',h1,h2⟩:=List.mem_map.1 this;simp only[Prod.mk.injEq] at h2;exact⟨e',h1,h2.1,h2.2⟩
theorem Ks.mem' {p q:Rp} (h:Ks p q) {d:Nat} {e:En} (he:e∈(at_ Rc.o p.v.rs d).es):∃e'∈(at_ Rc.o q.v.rs d).es,e'.n=e.n/\e'.f=e.f:=by
 have:(e.n,e.f)∈(at_ Rc.o q.v.rs d).es.map (λe=>(e.n,e.f)):=by rw[h.2.2 d];exact List.mem_map.2 ⟨e,he,rfl⟩
 obtain⟨e',h1,h2⟩:=List.mem_map.1 this;simp only[Prod.mk.injEq] at h2;exact⟨e',h1,h2.1,h2.2⟩
theorem zvk {a b:List En} (h:a.map (λe=>(e.n,e.f))=b.map (λe=>(e.n,e.f))) (hb:Pws b):Pws a:=by
 have h2:∀l:List En,Pws l↔(l.map (λe=>(e.n,e.f))).Pairwise (λx y=>same x.1 y.1=false):=λl=>by
  unfold Pws;rw[List.pairwise_map]
 rw[h2] at hb⊢;rw[h];exact hb
theorem Fit5.ks {p q:Rp} (h:Fit5 p) (g:Ks p q):Fit5 q:=by
 refine⟨λd e he=> ?_,λd=>zvk (g.2.2 d) (h.pw d),λd hd=> ?_,λj=>⟨λm hm=> ?_,λhk=> ?_⟩⟩
 ·obtain⟨e',h1,h2,h3⟩:=g.mem he;have:=(h.en d e' h1).of g.1 g.2.1;unfold Eo at this⊢;rw[h2,h3] at this;exact this
 ·rw[g.1.2.1.dir] at hd;have:=h.e0 d hd;have h2:=g.2.2 d;rw[this] at h2;exact List.map_eq_nil_iff.1 h2
 ·rw[g.2.1] at hm;obtain⟨a,e,b,c,d⟩:=(h.nk j).1 m hm;obtain⟨e',h1,h2,h3⟩:=g.mem' (d:=m.d.r.toNat) b;exact⟨by rw[zjq g.1];exact a,e',h1,by rw[h3,g.1.2.1.ref];exact c,by rw[h2];exact d⟩
 ·rw[g.2.1];exact(h.nk j).2 (by rw[←(g.1.2.1 j).2.1];exact hk)
theorem Ks.setR {p q:Rp} (h:Ks p q) (i:Nat) (x:Rc) (hx:(x.u=(at_ Rc.o q.v.rs i).u/\x.k=(at_ Rc.o q.v.rs i).k/\x.q=(at_ Rc.o q.v.rs i).q)/\x.ss=(at_ Rc.o q.v.rs i).ss) (hn:x.ns=(at_ Rc.o q.v.rs i).ns) (he:x.es.map (λe=>(e.n,e.f))=(at_ Rc.o q.v.rs i).es.map (λe=>(e.n,e.f))):Ks p (q.setR i x):=by
 have hat:∀j,at_ Rc.o (q.setR i x).v.rs j=if i=j/\j<q.v.rs.length then x else at_ Rc.o q.v.rs j:=λj=>zb0 _ _ _ _ _
 refine⟨h.1.setR i x hx,λj=> ?_,λd=> ?_⟩
 ·rw[hat];split
  ·rename_i c;obtain⟨rfl,_⟩:=c;exact hn.trans (h.2.1 i)
  ·exact h.2.1 j
 ·rw[hat];split
  ·rename_i c;obtain⟨rfl,_⟩:=c;exact he.trans (h.2.2 i)
  ·exact h.2.2 d
theorem Ks.of_v {p q r:Rp} (h:Ks p q) (hv:r.v=q.v):Ks p r:=by
 refine⟨h.1.of_v hv,?_,?_⟩
 ·unfold Kn;rw[hv];exact h.2.1
 ·rw[hv];exact h.2.2
theorem Ks.links (p:Rp):Ks p (links p):=za4 (I:=λq:Rp=>Ks p q) (λs k hs=>by
 split
 ·unfold zb2;split
  ·exact(hs.of_v (r:=s.note 8 (16+k:Nat) 0) rfl).setR _ _ (by rw[zae];exact⟨⟨rfl,rfl,rfl⟩,rfl⟩) (by rw[zae];rfl) (by rw[zae];rfl)
  ·exact hs
 ·exact hs) (Ks.refl p) _
theorem zgs {α β:Type} (f:α->β) (o:α) (l:List α) (k:Nat) (x:α) (h:k<l.length->f x=f (at_ o l k)):(l.set k x).map f=l.map f:=by
 by_cases hk:k<l.length
 ·rw[List.map_set,h hk,zaS _ _ _ hk];apply yMY
  ·simp
  ·intro i h1 h2;rw[List.getElem_set];split
   ·rename_i e;subst e;simp
   ·rfl
 ·rw[y8Y zo]
theorem Ks.sizes (p:Rp):Ks p (sizes p):=za4 (I:=λq:Rp=>Ks p q) (λs i hs=>by
 unfold zai;split
 ·exact za4 (I:=λq:Rp=>Ks p q) (λt k ht=>by
   unfold zak;dsimp only;split
   ·exact(ht.of_v (r:=t.note 9 i k) rfl).setR _ _ (by rw[zae];exact⟨⟨rfl,rfl,rfl⟩,rfl⟩) (by rw[zae];rfl) (by
     rw[zae]
     exact zgs _ En.o _ _ _ λ_=>rfl)
   ·exact ht) hs _
 ·exact hs) (Ks.refl p) _
end Ck
namespace Ck
open Go Go.Ex
def zwJ (q:Rp) (W:List UInt8):Rp:={q with v:={q.v with mp:=W}}
theorem zp5 {p t:Rp} (i k:Nat) (ht:Ks p t):Ks p (zak i t k):=by
 unfold zak;dsimp only;split
 ·exact(ht.of_v (r:=t.note 9 i k) rfl).setR _ _ (by rw[zae];exact⟨⟨rfl,rfl,rfl⟩,rfl⟩) (by rw[zae];rfl) (by
   rw[zae]
   exact zgs _ En.o _ _ _ λ_=>rfl)
 ·exact ht
theorem zkS {p s:Rp} (i:Nat) (hs:Ks p s):Ks p (zai s i):=by
 unfold zai;split
 ·exact za4 (I:=λq:Rp=>Ks p q) (λt k ht=>zp5 i k ht) hs _
 ·exact hs
end Ck
namespace Go.Proofs.YtgcjejajljhnaaaGreatDoor
open Go.Ex Ck
set_option maxRecDepth 100000
set_option maxHeartbeats 8000000
theorem zsC (n:Nat) (p:Ck.Rp) (hf:Rg n p) (hfit:Fit5 p) (hn:n<=96) (hb:p.fd.length<=450000):HG Tryz.prog 2 20 220 64 [.agg (rV n 20 0 1 p)] (gP false (nf p)) [.row (flatI (rcP false 20) 0 (p).v.rs) 66 10, .row ((cnL n (p)).map bb) 4 0] (.agg (rV n 20 0 1 (sizes p)))
  (gP false (nf (sizes p))) [.row (flatI (rcP false 20) 0 ((sizes p)).v.rs) 66 10, .row ((cnL n ((sizes p))).map bb) 4 0]:=by
 have h96:p.v.rs.length<=96:=by rw[hf.rf.n];exact hn
 obtain⟨B,hB⟩:∃B,B=1000:=⟨_,rfl⟩
 refine HG.of zal zo ?_;refine Ex.go ?_;refine Ex.wl n (λd=>zag [(1, .ptr 2 0),(2, .ptr 3 0),(3,ib d)] 68) (λd=>zaw 20 220 (gP false (nf (it zai p d))) [.row (flatI (rcP false 20) 0 (it zai p d).v.rs) 66 10, .row ((cnL n (it zai p d)).map bb) 4 0, .row (rV n 20 0 1 (it zai p d)) 53 0, .row zkw 53 0]) ?_ ?_
 ·exact Ex.wG [0,1,220,221] [] [] ⟨rQ h96,bR,bV,aR,zT⟩
 intro d hd;obtain⟨h1,h2⟩:=ze8 hB hf d hd;have hks:Ks p (it zai p d):=za4 (I:=λq:Rp=>Ks p q) (λs i hs=>zkS i hs) (Ks.refl p) d;have hst:it zai p (d+1)=zai (it zai p d) d:=rfl
 have hfin:d=n->it zai p d=sizes p:=λe=>by rw[e,←hf.rf.n];rfl
 have hmul:d*B<=96*B:=yEX _ zo
 generalize it zai p d=q0 at*
 have hqn0:q0.v.rs.length=n:=h1.rf.n;have hq96:q0.v.rs.length<=96:=zo;by_cases h:d<n
 ·have hltq:d<q0.v.rs.length:=zo
  have hd0:(0:Int)<=(d:Nat)/\((d:Nat):Int)<(n:Nat):=⟨zo,zo⟩
  have hls:zai q0 d=if dir (at_ Rc.o q0.v.rs d) then it (zak d) q0 (at_ Rc.o q0.v.rs d).es.length else q0:=by unfold zai;simp only[zae]
  obtain⟨ob,hob⟩:∃b,dir (at_ Rc.o q0.v.rs d)=b:=⟨_,rfl⟩
  have hD:=zqt q0.v d hltq zo hob;rw[hob] at hls;cases ob
  ·(conv=>whnf);repeat(first|refine Ck.lV q0 (hD) hq96 hqn0.symm (Wzc (ydX rfl) Wzn) ?_|refine Ex.g ?_|refine Ex.om ?_);conv=>whnf
   refine⟨d+1,zo,by dsimp only;omega,?_⟩;dsimp only;rw[hst,show zai q0 d=q0 from hls];exact Ex.wG [0,1,2,3] [] [] ⟨rQ hq96,bR,bV,aR,zT⟩
  ·have hls2:zai q0 d=it (zak d) q0 (at_ Rc.o q0.v.rs d).es.length:=by rw[hls];rfl
   (conv=>whnf);repeat(first|refine Ck.lV q0 (hD) hq96 hqn0.symm (Wzc (ydX rfl) Wzn) ?_|refine Ex.g ?_|refine Ex.om ?_);conv=>whnf
   have hin:=zjd h1 h;have hL:(at_ Rc.o q0.v.rs d).es.length<=1000:=(h1.at h).2
   obtain⟨L,hL0⟩:∃L,(at_ Rc.o q0.v.rs d).es.length=L:=⟨_,rfl⟩
   rw[hL0] at hls2 hin hL;refine Ex.wl L (λk=>zag [(1, .ptr 2 0),(2, .ptr 3 0),(3,ib d),(4,ib k)] 68) (λk=>zaw 20 220 (gP false (nf (it (zak d) q0 k))) [.row (flatI (rcP false 20) 0 (it (zak d) q0 k).v.rs) 66 10, .row ((cnL n (it (zak d) q0 k)).map bb) 4 0, .row (rV n 20 0 1 (it (zak d) q0 k)) 53 0, .row zkw 53 0]) ?_ ?_
   ·exact Ex.wG [0,1,2,3] [] [] ⟨rQ hq96,bR,bV,aR,zT⟩
   intro k hk;obtain⟨h3,h4,h5⟩:=hin k;have hkq:Ks p (it (zak d) q0 k):=za4 (I:=λq:Rp=>Ks p q) (λs i hs=>zp5 d i hs) hks k;have hst2:it (zak d) q0 (k+1)=zak d (it (zak d) q0 k) k:=rfl
   have hfin2:k=L->it (zak d) q0 k=zai q0 d:=λe=>by rw[hls2,e]
   generalize it (zak d) q0 k=q at*
   have hqqn:q.v.rs.length=n:=h3.rf.n;have hqq96:q.v.rs.length<=96:=zo;have hqd:d<q.v.rs.length:=zo;have hd96:d<96:=zo
   have hoff9:0+((d:Nat):Int).toNat*10+9=d*10+9:=by simp
   by_cases hkl:k<L
   ·have hkx:k<(at_ Rc.o q.v.rs d).es.length:=zo
    have hne:(at_ Rc.o q.v.rs d).es≠[]:=λe=>by rw[e] at hkx;exact absurd hkx (ypX _)
    have e1:∀A,seE A d (at_ Rc.o q.v.rs d)= .so (fam A (2*d+1)) 0 (at_ Rc.o q.v.rs d).es.length 0:=λA=>zbB hne;have e1n:∀A,seE A d (at_ Rc.o (q.note 9 d k).v.rs d)= .so (fam A (2*d+1)) 0 (at_ Rc.o q.v.rs d).es.length 0:=λA=>zbB hne;have hge:gP false (nf q) (2*d+1)=some (.row ((at_ Rc.o q.v.rs d).es.flatMap aEn) 73 4):=zfA (p:=nf q) hqd hd96 hne;have hgn:gP false (nf (q.note 9 d k)) (2*d+1)=some (.row ((at_ Rc.o q.v.rs d).es.flatMap aEn) 73 4):=zfA (p:=nf (q.note 9 d k)) hqd hd96 hne;have h9:2*d+1<220-20:=zo;have h92:2*d+1<Nat.add 221 (Nat.sub 220 20)-221:=h9
    have hoffk:0+((k:Nat):Int).toNat*4=k*4:=by simp
    have hoff3:0+((k:Nat):Int).toNat*4+3=k*4+3:=by simp
    have hk0:(0:Int)<=(k:Nat)/\((k:Nat):Int)<((at_ Rc.o q.v.rs d).es.length:Nat):=⟨zo,zo⟩
    have hki:((k:Nat):Int)<((at_ Rc.o q.v.rs d).es.length:Nat):=hk0.2
    have hss:zak d q k=if right q.v (at_ En.o (at_ Rc.o q.v.rs d).es k).f&&(at_ En.o (at_ Rc.o q.v.rs d).es k).z !=Ck.sizeOf (at_ Rc.o q.v.rs (at_ En.o (at_ Rc.o q.v.rs d).es k).f.r.toNat) then(q.note 9 d k).setR d {at_ Rc.o q.v.rs d with es:=(at_ Rc.o q.v.rs d).es.set k {at_ En.o (at_ Rc.o q.v.rs d).es k with z:=Ck.sizeOf (at_ Rc.o q.v.rs (at_ En.o (at_ Rc.o q.v.rs d).es k).f.r.toNat)}} else q:=by
     unfold zak;simp only[zae];rfl
    obtain⟨hr,_,_⟩:=(hfit.ks hkq).en d _ (at_mem En.o _ k hkx)
    obtain⟨x,hx⟩:∃x,at_ En.o (at_ Rc.o q.v.rs d).es k=x:=⟨_,rfl⟩
    rw[hx] at hss hr;rw[hr,y3X] at hss;obtain⟨r1,r2,_⟩:=right_in hr
    have hxi:((x.f.r.toNat:Nat):Int)=x.f.r:=by simp[wi] at r1;omega
    have hS:=zqs q.v x.f.r.toNat r2 (by have:=(h3.at (show x.f.r.toNat<n by omega)).1;omega);rw[hxi] at hS
    obtain⟨z,hz0⟩:∃z,Ck.sizeOf (at_ Rc.o q.v.rs x.f.r.toNat)=z:=⟨_,rfl⟩
    rw[hz0] at hss hS;by_cases hz:x.z=z
    ·have hss2:zak d q k=q:=by rw[hss];simp[hz]
     (conv=>whnf);repeat(first|refine Need.mk ?_ ?_;(focus(first|exact hd0|exact hk0))|refine RK.of (zam (zab false 20) Rc.o (k:=9) hoff9 rfl rfl hqd (by decide) rfl) ?_|rw[e1]|refine KIf.t (ybX hki) ?_|refine RK.of (zcP (enc:=aEn) (sz:=4) (λ_=>rfl) En.o hoffk rfl ((zah h9).trans hge) hkx) ?_|rw[hx]|refine Ck.lV q (hS) hqq96 hqqn.symm (Wzc (ydX rfl) Wzn) ?_|refine KIf.f (yqX Bool.not (ybX hz)) ?_|refine Ex.g ?_);conv=>whnf
     refine⟨k+1,zo,by dsimp only;omega,?_⟩;dsimp only;rw[hst2,hss2];exact Ex.wG [0,1,2,3] [] [] ⟨rQ hqq96,bR,bV,aR,zT⟩
    ·have hss2:zak d q k=(q.note 9 d k).setR d {at_ Rc.o q.v.rs d with es:=(at_ Rc.o q.v.rs d).es.set k {x with z:=z}}:=by rw[hss,ygX (by simp[hz])]
     (conv=>whnf);repeat(first|refine Need.mk ?_ ?_;(focus(first|exact hd0|exact hk0))|refine RK.of (zam (zab false 20) Rc.o (k:=9) hoff9 rfl rfl hqd (by decide) rfl) ?_|refine RK.of (zam (zab false 221) Rc.o (k:=9) hoff9 rfl rfl hqd (by decide) rfl) ?_|rw[e1]|rw[e1n]|refine KIf.t (ybX hki) ?_|refine RK.of (zcP (enc:=aEn) (sz:=4) (λ_=>rfl) En.o hoffk rfl ((zah h9).trans hge) hkx) ?_|rw[hx]|refine Ck.lV q (hS) hqq96 hqqn.symm (Wzc (ydX rfl) Wzn) ?_|refine KIf.t (yqX Bool.not (ycX hz)) ?_|refine Ck.cV (p':=(q.note 9 d k)) (zcM n q 9 d k hqqn hn h3.rf.fl zo zo) hqq96 hqq96 (WL.sc rfl (WL.sc rfl (WL.sc rfl yMX))) ?_|refine ygY (rV n 221 0 1 (q.note 9 d k)) ?_|refine ze4 (enc:=aEn) (sz:=4) (λ_=>rfl) En.o (k:=3) {x with z:=z} hoff3 rfl rfl rfl (λy hy=>by rcases yiX.1 hy with rfl;rfl) ((zah h92).trans hgn) hkx (by decide) (by rw[hx];rfl) ?_;(conv=>whnf);rw[zbT (j:=2*d+1) h92]|refine Ex.g ?_);conv=>whnf
     obtain⟨es',hes⟩:∃es',(at_ Rc.o q.v.rs d).es.set k {x with z:=z}=es':=⟨_,rfl⟩
     have hesl:es'.length=(at_ Rc.o q.v.rs d).es.length:=by rw[←hes];exact yoX
     have hesn:es'≠[]:=λe=>by rw[e] at hesl;exact hne (yeX hesl.symm)
     rw[hes] at hss2⊢;have hgs:=zrg (ph:=false) (q:=nf (q.note 9 d k)) (d:=d) (es:=es') hqd hd96 hesn;refine⟨k+1,zo,by dsimp only;omega,?_⟩;dsimp only;rw[hst2,hss2];refine yCX [0,1,2,3] [] [] rfl rfl rfl rfl ?_ ?_ ?_ ?_
     ·refine⟨⟨rfl,rfl,?_⟩,bR,bV,aR,zT⟩;show WRowG _ _ _ (flatI (rcP false 20) 0 (q.v.rs.set d _)) _;rw[zcD (rcP false 20) Rc.o q.v.rs 0 d _ (by rw[ylX];exact zt4 hesl)];exact yzX (zb3 (hqq96) zN)
     ·exact λj o1 h _=>⟨(ywZ hgs j).symm.trans h,yQX _ _ j o1 h⟩
     ·exact zN
     ·(repeat' first|exact zT|exact rfl|refine zA ?_ ?_)
   ·have e2:=hfin2 zo;have hki:¬((k:Nat):Int)<((at_ Rc.o q.v.rs d).es.length:Nat):=zo
    by_cases he0:(at_ Rc.o q.v.rs d).es=[]
    ·have e1:seE 20 d (at_ Rc.o q.v.rs d)=LS 4 aEn En.o []:=zbM he0;rw[he0] at hki
     (conv=>whnf);repeat(first|refine Need.mk ?_ ?_;exact hd0|refine RK.of (zam (zab false 20) Rc.o (k:=9) hoff9 rfl rfl hqd (by decide) rfl) ?_|rw[e1]|refine KIf.f (ycX hki) ?_|refine Ex.g ?_);conv=>whnf
     refine⟨d+1,zo,by dsimp only;omega,?_⟩;dsimp only;rw[hst,←e2];exact Ex.wG [0,1,2,3] [] [] ⟨rQ hqq96,bR,bV,aR,zT⟩
    ·have e1:∀A,seE A d (at_ Rc.o q.v.rs d)= .so (fam A (2*d+1)) 0 (at_ Rc.o q.v.rs d).es.length 0:=λA=>zbB he0
     (conv=>whnf);repeat(first|refine Need.mk ?_ ?_;exact hd0|refine RK.of (zam (zab false 20) Rc.o (k:=9) hoff9 rfl rfl hqd (by decide) rfl) ?_|rw[e1]|refine KIf.f (ycX hki) ?_|refine Ex.g ?_);conv=>whnf
     refine⟨d+1,zo,by dsimp only;omega,?_⟩;dsimp only;rw[hst,←e2];exact Ex.wG [0,1,2,3] [] [] ⟨rQ hqq96,bR,bV,aR,zT⟩
 ·(conv=>whnf);repeat(first|refine ygY (rV n 20 0 1 q0) ?_|refine Ex.om ?_);conv=>whnf
  rw[←hfin zo];exact⟨Ex.wG [0,1] [] [] ⟨rQ hq96,bR,zT⟩ (hsl:=by exact⟨za2 (zgB ⟨rfl,rfl⟩ ⟨rfl,rfl⟩ zN),zT⟩)⟩
theorem zvi (n N:Nat) (p:Ck.Rp) (hf:Rf n p) (hn:n<=96) (ho:Okr p.v) (hm:p.v.mp.length=N) (hN:N=((p.v.c+7)/8).toNat) (hb:p.fd.length<=600000):HG Tryz.prog 2 20 220 63 [.agg (rV n 20 0 1 p)] (gP false (nf p)) [.row (flatI (rcP false 20) 0 (p).v.rs) 66 10, .row ((cnL n (p)).map bb) 4 0] (.agg (rV n 20 0 1 (Ck.bits p)))
  (gP false (nf (Ck.bits p))) [.row (flatI (rcP false 20) 0 ((Ck.bits p)).v.rs) 66 10, .row ((cnL n ((Ck.bits p))).map bb) 4 0]:=by
 have hpn:=hf.n
 have h96:p.v.rs.length<=96:=by rw[hf.n];exact hn
 have hc:=ho.c
 have hul:(Ck.used p.v).length=N:=by
  unfold Ck.used;rw[zd1,zgY,hN];simp
 have hU:=zvj p.v ho;refine HG.of zal zo ?_
 (conv=>whnf);repeat((refine Ck.lV p (hU) h96 hpn.symm (Wzn) ?_;conv=>whnf))
 obtain⟨W,hW⟩:∃W,Ck.used p.v=W:=⟨_,rfl⟩
 rw[hW] at hul⊢;refine Ex.wl p.v.c.toNat (λd=>zag [(1, .ptr 2 0),(2, .ptr 3 0),(3,tb W),(4,ib d)] 31) (λd=>zaw 20 220 (gP false (nf (it (zaB W) p d))) [.row (flatI (rcP false 20) 0 (it (zaB W) p d).v.rs) 66 10, .row ((cnL n (it (zaB W) p d)).map bb) 4 0, .row (rV n 20 0 1 (it (zaB W) p d)) 53 0, .row zkw 53 0]) ?_ ?_
 ·exact Ex.wG [0,1,220,221] [] [] ⟨rQ h96,bR,bV,aR,zT⟩
 intro d hd;obtain⟨h1,h2,h3⟩:=zcA W p hf.fl d;have hst:it (zaB W) p (d+1)=zaB W (it (zaB W) p d) d:=rfl
 have hfin:d=p.v.c.toNat->zwJ (it (zaB W) p d) W=Ck.bits p:=λe=>by rw[e,←hW];rfl
 generalize it (zaB W) p d=q at*
 have hq96:q.v.rs.length<=96:=by rw[h1];exact h96
 have hqn:q.v.rs.length=n:=by rw[h1];exact hpn
 have hqc:q.v.c=p.v.c:=by rw[h1]
 have hqm:q.v.mp.length=N:=by rw[h1];exact hm
 by_cases h:(d:Int)<q.v.c
 ·have hb1:=zqO q.v.mp d zo zo;have hb2:=zqO W d zo zo;by_cases hbb:zc6 W d≠zc6 q.v.mp d
  ·have hss:zaB W q d=q.note 10 d 0:=ygX hbb;have hnz:¬((zc6 q.v.mp d:Nat):Int)=((zc6 W d:Nat):Int):=zo
   (conv=>whnf);repeat(first|refine yaX (hb1) ?_|refine yaX (hb2) ?_|refine KIf.t (ybX h) ?_|refine KIf.t (yqX Bool.not (ycX hnz)) ?_|refine Ck.cV (p':=(q.note 10 d 0)) (zcM n q 10 d 0 hqn hn h3 zo zo) hq96 hq96 (WL.sc rfl (WL.sc rfl (WL.sc rfl yMX))) ?_|refine ygY (rV n 220 0 1 (q.note 10 d 0)) ?_|refine Ex.g ?_);conv=>whnf
   refine⟨d+1,zo,by dsimp only;omega,?_⟩;dsimp only;rw[hst,hss];exact Ex.wG [0,1,2,3] [] [] ⟨rQ hq96,bR,bV,aR,zT⟩
  ·have hss:zaB W q d=q:=yfX hbb;have hnz:((zc6 q.v.mp d:Nat):Int)=((zc6 W d:Nat):Int):=zo
   (conv=>whnf);repeat(first|refine yaX (hb1) ?_|refine yaX (hb2) ?_|refine KIf.t (ybX h) ?_|refine KIf.f (yqX Bool.not (ybX hnz)) ?_|refine Ex.g ?_);conv=>whnf
   refine⟨d+1,zo,by dsimp only;omega,?_⟩;dsimp only;rw[hst,hss];exact Ex.wG [0,1,2,3] [] [] ⟨rQ hq96,bR,bV,aR,zT⟩
 ·rw[←hfin zo]
  (conv=>whnf);repeat(first|refine KIf.f (ycX h) ?_|refine ygY (rV n 20 0 1 (zwJ q W)) ?_);conv=>whnf
  exact⟨Ex.wG [0,1] [] [] ⟨rQ hq96,bR,zT⟩ (hsl:=by exact⟨za2 (zgB ⟨rfl,rfl⟩ ⟨rfl,rfl⟩ zN),zT⟩)⟩
end Go.Proofs.YtgcjejajljhnaaaGreatDoor
namespace Ck
open Go Go.Ex
section
variable {α : Type} {enc : α -> List AV} {sz : Nat}
theorem zls (hf:∀x,(enc x).length=sz):∀(l:List α) (i:Nat),(l.flatMap enc).drop (i*sz)=(l.drop i).flatMap enc
 |l,0=>by rw[yHZ];rfl
 |[],i+1=>by simp
 |x::l,i+1=>by
  rw[y0X,yOZ,hf,yhY (by rw[hf,yZX];omega),show(i+1)*sz-sz=i*sz by rw[yZX];omega,zls hf l i];rfl
theorem zn2 (hf:∀x,(enc x).length=sz):∀(l:List α) (i:Nat),(l.flatMap enc).take (i*sz)=(l.take i).flatMap enc
 |l,0=>by rw[yHZ];rfl
 |[],i+1=>by simp
 |x::l,i+1=>by
  rw[y0X,List.take_append,hf,yqY (by rw[hf,yZX];omega),show(i+1)*sz-sz=i*sz by rw[yZX];omega,zn2 hf l i];rfl
theorem zcJ {s:St} (hf:∀x,(enc x).length=sz) {l L:List α} {b off n st i:Nat} {e:TypeId} {q:Nat} (hr:s.h.get b=some (.row (l.flatMap enc) e q)) (hoff:off=i*sz) (hn:i+n<=l.length) (hL:(l.drop i).take n=L):source s sz (.so b off n st)= .ok (n,L.flatMap enc):=by
 subst hoff hL;show bd (zeF s b (i*sz) (n*sz)) (λl=> .ok (n,l))=_;unfold zeF Ex.rowAt;rw[hr];show bd (takeN (l.flatMap enc) (i*sz) (n*sz)) (λl=> .ok (n,l))=_;unfold takeN
 have hle:i*sz+n*sz<=l.length*sz:=by rw[←yZX];exact yEX _ hn
 rw[ze2 (by rw[yYY,ynZ hf];omega),zls hf,zn2 hf];rfl
theorem zn3 (h1:∀x,za8 (enc x)=true):∀l:List α,za8 (l.flatMap enc)=true
 |[]=>rfl
 |x::l=>by
  rw[y0X]
  have app:∀{a b:List AV},za8 a=true->za8 b=true->za8 (a++b)=true:=by
   intro a b ha hb
   induction a with
   |nil=>exact hb
   |cons y a ih=>
    unfold za8 at ha;show za8 (y::(a++b))=true;unfold za8;split at ha
    ·exact ih ha
    ·cases ha
  exact app (h1 x) (zn3 h1 l)
end
theorem zlw (l:List En):za8 (l.flatMap aEn)=true:=zn3 (λ_=>rfl) l
theorem zxq {p:Rp} {d k:Nat} {x:Rc} {g:Nat->Option AO} (hd:d<p.v.rs.length) (hx:x.ss=(at_ Rc.o p.v.rs d).ss) (hg:∀j,j≠2*d+1->g j=gP false p j):∀j o1,gP false (p.setR d x) j=some o1->(∀q∈[(2*d+1,k)],j≠q.1)->g j=some o1/\zaZ o1:=λj o1 ho hj=>by
 have h1:=hj (2*d+1,k) (by simp);refine⟨?_,yQX _ _ j o1 ho⟩;rw[hg j h1,←zde hd hx h1];exact ho
theorem zyx {p:Rp} {d:Nat} {x:Rc} {g:Nat->Option AO} (hd:d<p.v.rs.length) (hd96:d<96) (hx:x.ss=(at_ Rc.o p.v.rs d).ss) (he:x.es=[]) (hg:∀j,j≠2*d+1->g j=gP false p j):∀j o1,gP false (p.setR d x) j=some o1->(∀q∈([]:List (Nat×Nat)),j≠q.1)->g j=some o1/\zaZ o1:=λj o1 ho _=>by
 refine⟨?_,yQX _ _ j o1 ho⟩;by_cases h1:j=2*d+1
 ·subst h1;have e5:(p.setR d x).v.rs[d]? =some x:=yzY hd;rw[zcQ zo,show(2*d+1)/2=d by omega,e5] at ho;simp[he] at ho
 ·rw[hg j h1,←zde hd hx h1];exact ho
theorem zw2 {h:T AO} {A i k m:Nat} {R:Nat->Option Nat} {x:Rc} {e:TypeId} {q:Nat} {c:List AV} (hs:WL h [k] R [seS false 20 i x] [seS false A i x]) (hk:h.get k=some (.row c e q)):WL h [k] R (rcP false 20 i {x with es:=[]}) (rcE A i x (.sl k 0 0 m)):=by
 unfold rcP rcE;rw[zbM rfl];have e1:seS false 20 i {x with es:=[]}=seS false 20 i x:=rfl;rw[e1]
 repeat refine WL.sc rfl ?_
 refine ywX ⟨hs.1.1,?_⟩ (ywX ⟨trivial,?_⟩ yMX)
 ·have:=hs.2;unfold Wvl at this;exact this.1
 ·unfold Wv Wz;exact⟨rfl,ymX _,yiX.2 rfl,rfl,_,_,_,hk,(by show 0*4<=_;omega),λi hi=>absurd hi (ypX _)⟩
end Ck
namespace Go.Proofs.YtgcjejajljhnaaaGreatDoor
open Go.Ex Ck
set_option maxRecDepth 100000
set_option maxHeartbeats 8000000
theorem zcu (n:Nat) (p:Ck.Rp) (d k:Nat) (es':List En) (hpn:p.v.rs.length=n) (hn:n<=96) (hd:d<n) (hk:k<(at_ Rc.o p.v.rs d).es.length) (hl:(at_ Rc.o p.v.rs d).es.length<=100000) (hes:(at_ Rc.o p.v.rs d).es.take k++(at_ Rc.o p.v.rs d).es.drop (k+1)=es'):HG Tryz.prog 2 20 220 117 [.agg (rV n 20 0 1 p),ib (d:Nat),ib (k:Nat)] (gP false (nf p)) [.row (flatI (rcP false 20) 0 (p).v.rs) 66 10, .row ((cnL n (p)).map bb) 4 0] (.agg (rV n 20 0 1 (p.setR d {at_ Rc.o p.v.rs d with es:=es'})))
  (gP false (nf (p.setR d {at_ Rc.o p.v.rs d with es:=es'}))) [.row (flatI (rcP false 20) 0 ((p.setR d {at_ Rc.o p.v.rs d with es:=es'})).v.rs) 66 10, .row ((cnL n ((p.setR d {at_ Rc.o p.v.rs d with es:=es'}))).map bb) 4 0]:=by
 have h96:p.v.rs.length<=96:=zo;have hdl:d<p.v.rs.length:=zo;have hd96:d<96:=zo
 have hd0:(0:Int)<=(d:Nat)/\((d:Nat):Int)<(n:Nat):=⟨zo,zo⟩
 have hoff9:0+((d:Nat):Int).toNat*10+9=d*10+9:=by simp
 have hne:(at_ Rc.o p.v.rs d).es≠[]:=λe=>by rw[e] at hk;exact absurd hk (ypX _)
 have e1:seE 20 d (at_ Rc.o p.v.rs d)= .so (fam 20 (2*d+1)) 0 (at_ Rc.o p.v.rs d).es.length 0:=zbB hne;have hge:gP false (nf p) (2*d+1)=some (.row ((at_ Rc.o p.v.rs d).es.flatMap aEn) 73 4):=zfA (p:=nf p) hdl hd96 hne;have h9:2*d+1<220-20:=zo
 obtain⟨L,hL⟩:∃L,(at_ Rc.o p.v.rs d).es.length=L:=⟨_,rfl⟩
 obtain⟨es,hE⟩:∃es,(at_ Rc.o p.v.rs d).es=es:=⟨_,rfl⟩
 rw[hL] at hk hl e1;rw[hE] at hge hes hL
 have hs1:0<=(k:Int)/\(k:Int)<=(L:Nat):=⟨zo,zo⟩
 have hs2:0<=((k:Int)+1)/\((k:Int)+1)<=(L:Nat):=⟨zo,zo⟩
 have hA:es.take k=(es.drop 0).take k:=rfl;have hB:(es.drop (k+1)).take (L-(k+1))=es.drop (k+1):=yqY (by simp;omega);have hT:(es.drop 0).take k=es.take k:=rfl
 have hrow:∀{h:T AO} {z:List Nat} {b m:Nat} {X:Rc},m=X.es.length->X.es≠[]->X={at_ Rc.o p.v.rs d with es:=X.es}->WRowG h z (RG 20 [(2*d+1,b)] [0,1]) (flatI (rcP false 20) 0 (p.setR d X).v.rs) (flatI (zfS (rcP false 20) d (rcE 20 d (at_ Rc.o p.v.rs d) (.so b 0 m 0))) 0 p.v.rs):=λhm hne hX=>by
  refine yzX (zaI (i:=d) h96 yoX (λk hk=>zap _ _ _ _ _ (Ne.symm hk)) zqx ?_);show WL _ _ _ (rcP false 20 d (at_ Rc.o (p.v.rs.set d _) d)) _;rw[zaj _ _ _ _ hdl,hX];exact zkZ hd96 hm hne
 refine HG.of zal zo ?_;have hB2:∀j,(es.drop j).take (L-j)=es.drop j:=λj=>yqY (by simp;omega);by_cases hk0:k=0
 ·subst hk0
  have he2:es'=es.drop 1:=by rw[←hes];rfl
  by_cases hkl:1<L
  ·have hb1:Nat.blt (0+1) L=true:=zdl hkl
   have hb2:Nat.ble (0+(L-Nat.succ 0)) 0=false:=by cases h:Nat.ble (0+(L-Nat.succ 0)) 0 with|false=>rfl|true=>have:=ynX h;omega
   have hbd2:(0+(L-Nat.succ 0))*40<=2^47/\0+(L-Nat.succ 0)<=2^60:=by constructor<;>omega
   have hne2:es'≠[]:=λe=>by have:=yqX List.length e;rw[he2] at this;simp at this;omega
   have hel:0+(L-Nat.succ 0)=es'.length:=by rw[he2];simp;omega
   (conv=>whnf);repeat(first|refine Need.mk ?_ ?_;(focus(first|exact hd0|exact hs1|exact hs2|exact zlw _|exact hbd2))|refine RK.of (zam (zab false 20) Rc.o (k:=9) hoff9 rfl rfl hdl (by decide) rfl) ?_|rw[e1]|refine ygY (rV n 20 0 1 p) ?_|refine KIf.t (hb1) ?_|refine KIf.f (hb2) ?_|refine RK.of (zcJ (enc:=aEn) (sz:=4) (i:=0) (λ_=>rfl) ((zah h9).trans hge) zo zo hT) ?_|refine RK.of (zcJ (enc:=aEn) (sz:=4) (i:=1) (λ_=>rfl) ((zah h9).trans hge) rfl zo (hB2 1)) ?_|refine zaV (zab false 20) Rc.o (k:=9) [.so 223 0 (0+(L-Nat.succ 0)) 0] (rcE 20 d (at_ Rc.o p.v.rs d) (.so 223 0 (0+(L-Nat.succ 0)) 0)) hoff9 rfl rfl rfl rfl rfl rfl hdl (by decide) rfl ?_|refine Ex.g ?_);conv=>whnf
   refine⟨?_⟩;refine yCX [0,1] [] [(2*d+1,223)] rfl rfl rfl rfl ?_ ?_ ?_ ?_
   ·exact⟨⟨rfl,rfl,hrow hel hne2 rfl⟩,bR,zT⟩
   ·exact zxq (p:=nf p) hdl rfl (λj hj=>rfl)
   ·exact zjA (p:=nf p) hdl hd96 hne2 rfl ⟨[],by rw[he2,yKX];rfl⟩
   ·exact⟨za2 (zgB ⟨rfl,rfl⟩ ⟨rfl,rfl⟩ (λq hq=>(zjB hd96 q hq).1)),zT⟩
  ·have hb1:Nat.blt (0+1) L=false:=zph zo
   have he3:es'=[]:=by rw[he2];exact yhY zo
   (conv=>whnf);repeat(first|refine Need.mk ?_ ?_;(focus(first|exact hd0|exact hs1|exact hs2|exact zlw _))|refine Need.mk (λ_ _=>rfl) ?_|refine RK.of (zam (zab false 20) Rc.o (k:=9) hoff9 rfl rfl hdl (by decide) rfl) ?_|rw[e1]|refine ygY (rV n 20 0 1 p) ?_|refine KIf.f (hb1) ?_|refine RK.of (zcJ (enc:=aEn) (sz:=4) (i:=0) (λ_=>rfl) ((zah h9).trans hge) zo zo hT) ?_|refine zaV (zab false 20) Rc.o (k:=9) [.sl 222 0 0 0] (rcE 20 d (at_ Rc.o p.v.rs d) (.sl 222 0 0 0)) hoff9 rfl rfl rfl rfl rfl rfl hdl (by decide) rfl ?_|refine Ex.g ?_);conv=>whnf
   refine⟨?_⟩;rw[he3];refine yCX [0,1] [222] [] rfl rfl rfl rfl ?_ ?_ ?_ ?_
   ·refine⟨⟨rfl,rfl,yzX (zaI (i:=d) h96 yoX (λk hk=>zap _ _ _ _ _ (Ne.symm hk)) zN ?_)⟩,bR,zT⟩;show WL _ _ _ (rcP false 20 d (at_ Rc.o (p.v.rs.set d _) d)) _;rw[zaj _ _ _ _ hdl];exact zw2 (ywX (zmc hd96 zN) yMX) rfl
   ·exact zyx (p:=nf p) hdl hd96 rfl rfl (λj hj=>rfl)
   ·exact zN
   ·exact⟨za2 (zgB ⟨rfl,rfl⟩ ⟨rfl,rfl⟩ zN),zT⟩
 ·have hkt:((k:Nat):Int).toNat=k:=yrX k
  have hb0:Nat.ble (0+((k:Nat):Int).toNat) 0=false:=by cases h:Nat.ble (0+((k:Nat):Int).toNat) 0 with|false=>rfl|true=>have:=ynX h;omega
  have hbd:(0+((k:Nat):Int).toNat)*40<=2^47/\0+((k:Nat):Int).toNat<=2^60:=by constructor<;>omega
  have hlen:(es.take k).length=k:=by simp;omega
  by_cases hkl:k+1<L
  ·have hb1:Nat.blt (Nat.succ k) L=true:=zdl hkl
   have hbd2:(0+((k:Nat):Int).toNat+(L-Nat.succ k))*40<=2^47/\0+((k:Nat):Int).toNat+(L-Nat.succ k)<=2^60:=by constructor<;>omega
   have hrl:((es.take k).flatMap aEn).length=0+(0+((k:Nat):Int).toNat)*4:=by rw[zrt,hlen,hkt];omega
   have hne2:es'≠[]:=λe=>by have:=yqX List.length e;rw[←hes] at this;simp at this;omega
   have hel:0+((k:Nat):Int).toNat+(L-Nat.succ k)=es'.length:=by rw[←hes];simp;omega
   (conv=>whnf);repeat(first|refine Need.mk ?_ ?_;(focus(first|exact hd0|exact hs1|exact hs2|exact zlw _|exact hbd|exact hbd2|exact hrl))|refine zhR ?_|refine RK.of (zam (zab false 20) Rc.o (k:=9) hoff9 rfl rfl hdl (by decide) rfl) ?_|rw[e1]|refine ygY (rV n 20 0 1 p) ?_|refine KIf.f (hb0) ?_|refine KIf.t (hb1) ?_|refine NCase.s (show L-Nat.succ k≠0 by omega) ?_|refine RK.of (zcJ (enc:=aEn) (sz:=4) (i:=0) (λ_=>rfl) ((zah h9).trans hge) zo zo hT) ?_|refine RK.of (zcJ (enc:=aEn) (sz:=4) (i:=k+1) (λ_=>rfl) ((zah h9).trans hge) zo zo (hB2 (k+1))) ?_|refine zaV (zab false 20) Rc.o (k:=9) [.so 224 0 (0+((k:Nat):Int).toNat+(L-Nat.succ k)) 0] (rcE 20 d (at_ Rc.o p.v.rs d) (.so 224 0 (0+((k:Nat):Int).toNat+(L-Nat.succ k)) 0)) hoff9 rfl rfl rfl rfl rfl rfl hdl (by decide) rfl ?_|refine Ex.g ?_);conv=>whnf
   refine⟨?_⟩;refine yCX [0,1] [] [(2*d+1,224)] rfl rfl rfl rfl ?_ ?_ ?_ ?_
   ·exact⟨⟨rfl,rfl,hrow hel hne2 rfl⟩,bR,zT⟩
   ·exact zxq (p:=nf p) hdl rfl (λj hj=>rfl)
   ·exact zjA (p:=nf p) hdl hd96 hne2 rfl ⟨[],by rw[←hes,yKX,yJX];rfl⟩
   ·exact⟨za2 (zgB ⟨rfl,rfl⟩ ⟨rfl,rfl⟩ (λq hq=>(zjB hd96 q hq).1)),zT⟩
  ·have hb1:Nat.blt (Nat.succ k) L=false:=zph zo
   have he3:es'=es.take k:=by rw[←hes,yhY zo,yKX]
   have hne2:es'≠[]:=λe=>by have:=yqX List.length e;rw[he3,hlen] at this;simp at this;omega
   have hel:0+((k:Nat):Int).toNat=es'.length:=by rw[he3];omega
   (conv=>whnf);repeat(first|refine Need.mk ?_ ?_;(focus(first|exact hd0|exact hs1|exact hs2|exact zlw _|exact hbd))|refine Need.mk (λ_ _=>rfl) ?_|refine zhR ?_|refine NCase.z rfl ?_|refine RK.of (zam (zab false 20) Rc.o (k:=9) hoff9 rfl rfl hdl (by decide) rfl) ?_|rw[e1]|refine ygY (rV n 20 0 1 p) ?_|refine KIf.f (hb0) ?_|refine KIf.f (hb1) ?_|refine RK.of (zcJ (enc:=aEn) (sz:=4) (i:=0) (λ_=>rfl) ((zah h9).trans hge) zo zo hT) ?_|refine zaV (zab false 20) Rc.o (k:=9) [.so 223 0 (0+((k:Nat):Int).toNat) 0] (rcE 20 d (at_ Rc.o p.v.rs d) (.so 223 0 (0+((k:Nat):Int).toNat) 0)) hoff9 rfl rfl rfl rfl rfl rfl hdl (by decide) rfl ?_|refine Ex.g ?_);conv=>whnf
   refine⟨?_⟩;refine yCX [0,1] [] [(2*d+1,223)] rfl rfl rfl rfl ?_ ?_ ?_ ?_
   ·exact⟨⟨rfl,rfl,hrow hel hne2 rfl⟩,bR,zT⟩
   ·exact zxq (p:=nf p) hdl rfl (λj hj=>rfl)
   ·exact zjA (p:=nf p) hdl hd96 hne2 rfl ⟨[],by rw[he3,yKX];rfl⟩
   ·exact⟨za2 (zgB ⟨rfl,rfl⟩ ⟨rfl,rfl⟩ (λq hq=>(zjB hd96 q hq).1)),zT⟩
theorem zi1 (n:Nat) (p:Ck.Rp) (d r:Nat) (nm:List UInt8) (hpn:p.v.rs.length=n) (hn:n<=96) (hd:d<n) (hr:r<n) (hse:∀x∈p.v.rs,x.ss.length<=100000/\x.es.length<=1000):HG Tryz.prog 2 20 220 122 [.agg (rV n 20 0 1 p),ib (d:Nat),ib (r:Nat),tb nm] (gP false (nf p)) [.row (flatI (rcP false 20) 0 (p).v.rs) 66 10, .row ((cnL n (p)).map bb) 4 0] (.agg (rV n 20 0 1 (Ck.enter p (d:Nat) nm r)))
  (gP false (nf (Ck.enter p (d:Nat) nm r))) [.row (flatI (rcP false 20) 0 ((Ck.enter p (d:Nat) nm r)).v.rs) 66 10, .row ((cnL n ((Ck.enter p (d:Nat) nm r))).map bb) 4 0]:=by
 have h96:p.v.rs.length<=96:=zo
 have hd0:(0:Int)<=(d:Nat)/\((d:Nat):Int)<(n:Nat):=⟨zo,zo⟩
 have hdl:d<p.v.rs.length:=zo;have hrl:r<p.v.rs.length:=zo;have hd96:d<96:=zo
 have hoff9:0+((d:Nat):Int).toNat*10+9=d*10+9:=by simp
 have hRf:=zic p.v r hrl;have hS:=zqs p.v r hrl (hse _ (at_mem Rc.o p.v.rs r hrl)).1;have hL0:(at_ Rc.o p.v.rs d).es.length<=1000:=(hse _ (at_mem Rc.o p.v.rs d hdl)).2
 obtain⟨E,hE⟩:∃E:En,(⟨nm,p.ref r,Ck.sizeOf (at_ Rc.o p.v.rs r)⟩:En)=E:=⟨_,rfl⟩
 have hent:Ck.enter p (d:Nat) nm r=p.setR d {at_ Rc.o p.v.rs d with es:=(at_ Rc.o p.v.rs d).es++[E]}:=by
  rw[←hE];unfold Ck.enter;rw[zae,zae,yrX]
 rw[hent]
 have hrow:∀{h:T AO} {z:List Nat} {b m:Nat} {X:Rc},m=X.es.length->X.es≠[]->X={at_ Rc.o p.v.rs d with es:=X.es}->WRowG h z (RG 20 [(2*d+1,b)] [0,1]) (flatI (rcP false 20) 0 (p.setR d X).v.rs) (flatI (zfS (rcP false 20) d (rcE 20 d (at_ Rc.o p.v.rs d) (.so b 0 m 0))) 0 p.v.rs):=λhm hne hX=>by
  refine yzX (zaI (i:=d) h96 yoX (λk hk=>zap _ _ _ _ _ (Ne.symm hk)) zqx ?_);show WL _ _ _ (rcP false 20 d (at_ Rc.o (p.v.rs.set d _) d)) _;rw[zaj _ _ _ _ hdl,hX];exact zkZ hd96 hm hne
 have hne:(at_ Rc.o p.v.rs d).es++[E]≠[]:=by simp
 refine HG.of zal zo ?_
 by_cases he:(at_ Rc.o p.v.rs d).es=[]
 ·have e1:seE 20 d (at_ Rc.o p.v.rs d)=LS 4 aEn En.o []:=zbM he
  (conv=>whnf);repeat(first|refine Need.mk ?_ ?_;exact hd0|refine Need.mk (λ_ _=>rfl) ?_|refine RK.of (zam (zab false 20) Rc.o (k:=9) hoff9 rfl rfl hdl (by decide) rfl) ?_|rw[e1]|refine ygY (rV n 20 0 1 p) ?_|refine Ck.lD p (hRf) h96 hpn.symm (Wzc (ydX rfl) Wzn) ?_|refine Ck.lD p (hS) h96 hpn.symm (Wzc (ydX rfl) Wzn) ?_|refine zaV (zab false 20) Rc.o (k:=9) [.so 224 0 (0+1) 0] (rcE 20 d (at_ Rc.o p.v.rs d) (.so 224 0 (0+1) 0)) hoff9 rfl rfl rfl rfl rfl rfl hdl (by decide) rfl ?_|refine Ex.g ?_);conv=>whnf
  refine⟨?_⟩;refine yCX [0,1] [] [(2*d+1,224)] rfl rfl rfl rfl ?_ ?_ ?_ ?_
  ·exact⟨⟨rfl,rfl,hrow (by rw[he];rfl) hne rfl⟩,bR,zT⟩
  ·exact zxq (p:=nf p) hdl rfl (λj hj=>rfl)
  ·exact zjA (p:=nf p) hdl hd96 hne rfl ⟨[],by rw[he,←hE];rfl⟩
  ·exact⟨za2 (zgB ⟨rfl,rfl⟩ ⟨rfl,rfl⟩ (λq hq=>(zjB hd96 q hq).1)),zT⟩
 ·have e1:seE 20 d (at_ Rc.o p.v.rs d)= .so (fam 20 (2*d+1)) 0 (at_ Rc.o p.v.rs d).es.length 0:=zbB he;have hge:gP false (nf p) (2*d+1)=some (.row ((at_ Rc.o p.v.rs d).es.flatMap aEn) 73 4):=zfA (p:=nf p) hdl hd96 he;have h9:2*d+1<220-20:=zo
  obtain⟨L,hL⟩:∃L,(at_ Rc.o p.v.rs d).es.length=L:=⟨_,rfl⟩
  obtain⟨es,hEs⟩:∃es,(at_ Rc.o p.v.rs d).es=es:=⟨_,rfl⟩
  rw[hL] at e1 hL0;rw[hEs] at hge hL he
  have hLp:0<L:=by rw[←hL];exact yXX.2 he
  have hT:(es.drop 0).take L=es:=yqY (by rw[y8Z];omega)
  have hb0:Nat.ble (0+L) 0=false:=by cases h:Nat.ble (0+L) 0 with|false=>rfl|true=>have:=ynX h;omega
  have hbd:(0+L)*40<=2^47/\0+L<=2^60:=by constructor<;>omega
  have hbd2:(0+L+1)*40<=2^47/\0+L+1<=2^60:=by constructor<;>omega
  have hrl2:(es.flatMap aEn).length=0+(0+L)*4:=by rw[zrt,hL];omega
  rw[hEs] at hne
  (conv=>whnf);repeat(first|refine Need.mk ?_ ?_;(focus(first|exact hd0|exact zlw _|exact hbd|exact hbd2|exact hrl2))|refine RK.of (zam (zab false 20) Rc.o (k:=9) hoff9 rfl rfl hdl (by decide) rfl) ?_|rw[e1]|refine ygY (rV n 20 0 1 p) ?_|refine KIf.f (hb0) ?_|refine RK.of (zcJ (enc:=aEn) (sz:=4) (i:=0) (λ_=>rfl) ((zah h9).trans hge) zo zo hT) ?_|refine Ck.lD p (hRf) h96 hpn.symm (Wzc (ydX rfl) Wzn) ?_|refine Ck.lD p (hS) h96 hpn.symm (Wzc (ydX rfl) Wzn) ?_|refine zaV (zab false 20) Rc.o (k:=9) [.so 225 0 (0+L+1) 0] (rcE 20 d (at_ Rc.o p.v.rs d) (.so 225 0 (0+L+1) 0)) hoff9 rfl rfl rfl rfl rfl rfl hdl (by decide) rfl ?_|refine Ex.g ?_);conv=>whnf
  refine⟨?_⟩;rw[hEs];refine yCX [0,1] [] [(2*d+1,225)] rfl rfl rfl rfl ?_ ?_ ?_ ?_
  ·exact⟨⟨rfl,rfl,hrow (by rw[yvX,hL];show 0+L+1=L+1;omega) hne rfl⟩,bR,zT⟩
  ·exact zxq (p:=nf p) hdl rfl (λj hj=>rfl)
  ·exact zjA (p:=nf p) hdl hd96 hne rfl ⟨[],by rw[yKX,yJX,←hE];rfl⟩
  ·exact⟨za2 (zgB ⟨rfl,rfl⟩ ⟨rfl,rfl⟩ (λq hq=>(zjB hd96 q hq).1)),zT⟩
end Go.Proofs.YtgcjejajljhnaaaGreatDoor
