/- Own text, part Rprt 7: walks of the package acl and of its reference, and the plain laws that they lean on; no statement of the seat is here. -/
import Derived.Test.YtgcjejajljhnaaaGreatDoorRprt1
import Derived.Test.YtgcjejajljhnaaaGreatDoorRprt6
set_option linter.all false
namespace Ck
open Go Go.Ex
def pC (p:Rp):List AV:=[ib p.v.c,LS 2 zaP Run.o p.v.al,LS 10 aRc Rc.o p.v.rs,LS 1 aI 0 p.v.ds,tb p.v.mp, .any, .any]
end Ck
namespace Go.Proofs.YtgcjejajljhnaaaGreatDoor
open Go.Ex Ck
set_option maxRecDepth 100000
set_option maxHeartbeats 4000000
theorem zkD (c0:List AV) (P:En->Bool) (l:List En) (hl:l.length<=100000) (hP:∀x∈l,PureC Tryz.prog 172 [.agg (aEn x), .cp c0 0] (bb (P x))):PureC Tryz.prog 177 [LS 4 aEn En.o l, .fn (.func 172) [] [.cp c0 0]] (ib (ixL P l 0)):=by
 obtain⟨W,hW⟩:∃W,ixL P l 0=W:=⟨_,rfl⟩
 rw[hW];have hW:ixL P (l.drop 0) 0=W:=hW;refine ytX zal rfl ?_;refine Ex.go ?_;refine yFX zal (D:=Nat) (λd=>l.length-d) (λd=>d<=l.length/\ixL P (l.drop d) d=W) (λd=>zag [(0,LS 4 aEn En.o l),(1, .fn (.func 172) [] [.cp c0 0]),(7,ib l.length),(8,ib d)] 19) (λd=>zan []) 0 ⟨ymX _,hW⟩ ?_ ?_
 ·exact Ex.wO [] []
 ·clear hW;rintro d ⟨hd,hW⟩;refine Ex.go ?_;refine yPX (λh=> ?_) (λh=> ?_)
  ·have hlt:d<l.length:=zo;have hp:=hP _ (at_mem En.o l d hlt);rw[drop_at En.o l d hlt] at hW;unfold ixL at hW;cases hx:P (at_ En.o l d)
   ·rw[yfX (by simp[hx])] at hW;rw[hx] at hp
    (conv=>whnf);repeat(first|refine Ex.g ?_|refine yaX (hp) ?_);conv=>whnf
    refine⟨d+1,⟨zo,hW⟩,by dsimp only;omega,?_⟩;exact Ex.wO [] []
   ·rw[ygX hx] at hW;rw[hx] at hp
    (conv=>whnf);repeat(first|refine Ex.g ?_|refine yaX (hp) ?_);conv=>whnf
    refine .z [] ?_;rw[←hW];exact ydX rfl
  ·have hde:d=l.length:=zo;rw[hde,y9X] at hW;refine Ex.go ?_;refine .z [] ?_;rw[←hW];exact ydX rfl
theorem zgI (c0:List AV) (P:En->Bool) (l:List En) (hl:l.length<=100000) (hP:∀x∈l,PureC Tryz.prog 172 [.agg (aEn x), .cp c0 0] (bb (P x))):PureC Tryz.prog 171 [LS 4 aEn En.o l, .fn (.func 172) [] [.cp c0 0]] (bb (l.any P)):=by
 rw[←zds P l 0];refine ytX zal rfl ?_
 (conv=>whnf);repeat((refine yaX (zkD c0 P l hl hP) ?_;conv=>whnf))
 refine .z [] ?_;exact ydX rfl
theorem zkC (c0:List AV) (P:En->Bool) (l:List En) (hl:l.length<=100000) (hP:∀x∈l,PureC Tryz.prog 178 [.agg (aEn x), .cp c0 0] (bb (P x))):PureC Tryz.prog 177 [LS 4 aEn En.o l, .fn (.func 178) [] [.cp c0 0]] (ib (ixL P l 0)):=by
 obtain⟨W,hW⟩:∃W,ixL P l 0=W:=⟨_,rfl⟩
 rw[hW];have hW:ixL P (l.drop 0) 0=W:=hW;refine ytX zal rfl ?_;refine Ex.go ?_;refine yFX zal (D:=Nat) (λd=>l.length-d) (λd=>d<=l.length/\ixL P (l.drop d) d=W) (λd=>zag [(0,LS 4 aEn En.o l),(1, .fn (.func 178) [] [.cp c0 0]),(7,ib l.length),(8,ib d)] 19) (λd=>zan []) 0 ⟨ymX _,hW⟩ ?_ ?_
 ·exact Ex.wO [] []
 ·clear hW;rintro d ⟨hd,hW⟩;refine Ex.go ?_;refine yPX (λh=> ?_) (λh=> ?_)
  ·have hlt:d<l.length:=zo;have hp:=hP _ (at_mem En.o l d hlt);rw[drop_at En.o l d hlt] at hW;unfold ixL at hW;cases hx:P (at_ En.o l d)
   ·rw[yfX (by simp[hx])] at hW;rw[hx] at hp
    (conv=>whnf);repeat(first|refine Ex.g ?_|refine yaX (hp) ?_);conv=>whnf
    refine⟨d+1,⟨zo,hW⟩,by dsimp only;omega,?_⟩;exact Ex.wO [] []
   ·rw[ygX hx] at hW;rw[hx] at hp
    (conv=>whnf);repeat(first|refine Ex.g ?_|refine yaX (hp) ?_);conv=>whnf
    refine .z [] ?_;rw[←hW];exact ydX rfl
  ·have hde:d=l.length:=zo;rw[hde,y9X] at hW;refine Ex.go ?_;refine .z [] ?_;rw[←hW];exact ydX rfl
theorem zkB (c0:List AV) (P:En->Bool) (l:List En) (hl:l.length<=100000) (hP:∀x∈l,PureC Tryz.prog 183 [.agg (aEn x), .cp c0 0] (bb (P x))):PureC Tryz.prog 177 [LS 4 aEn En.o l, .fn (.func 183) [] [.cp c0 0]] (ib (ixL P l 0)):=by
 obtain⟨W,hW⟩:∃W,ixL P l 0=W:=⟨_,rfl⟩
 rw[hW];have hW:ixL P (l.drop 0) 0=W:=hW;refine ytX zal rfl ?_;refine Ex.go ?_;refine yFX zal (D:=Nat) (λd=>l.length-d) (λd=>d<=l.length/\ixL P (l.drop d) d=W) (λd=>zag [(0,LS 4 aEn En.o l),(1, .fn (.func 183) [] [.cp c0 0]),(7,ib l.length),(8,ib d)] 19) (λd=>zan []) 0 ⟨ymX _,hW⟩ ?_ ?_
 ·exact Ex.wO [] []
 ·clear hW;rintro d ⟨hd,hW⟩;refine Ex.go ?_;refine yPX (λh=> ?_) (λh=> ?_)
  ·have hlt:d<l.length:=zo;have hp:=hP _ (at_mem En.o l d hlt);rw[drop_at En.o l d hlt] at hW;unfold ixL at hW;cases hx:P (at_ En.o l d)
   ·rw[yfX (by simp[hx])] at hW;rw[hx] at hp
    (conv=>whnf);repeat(first|refine Ex.g ?_|refine yaX (hp) ?_);conv=>whnf
    refine⟨d+1,⟨zo,hW⟩,by dsimp only;omega,?_⟩;exact Ex.wO [] []
   ·rw[ygX hx] at hW;rw[hx] at hp
    (conv=>whnf);repeat(first|refine Ex.g ?_|refine yaX (hp) ?_);conv=>whnf
    refine .z [] ?_;rw[←hW];exact ydX rfl
  ·have hde:d=l.length:=zo;rw[hde,y9X] at hW;refine Ex.go ?_;refine .z [] ?_;rw[←hW];exact ydX rfl
theorem zgH (c0:List AV) (P:En->Bool) (l:List En) (hl:l.length<=100000) (hP:∀x∈l,PureC Tryz.prog 183 [.agg (aEn x), .cp c0 0] (bb (P x))):PureC Tryz.prog 171 [LS 4 aEn En.o l, .fn (.func 183) [] [.cp c0 0]] (bb (l.any P)):=by
 rw[←zds P l 0];refine ytX zal rfl ?_
 (conv=>whnf);repeat((refine yaX (zkB c0 P l hl hP) ?_;conv=>whnf))
 refine .z [] ?_;exact ydX rfl
theorem zfN (c0 c1:List AV) (P:En->Bool) (l:List En) (hl:l.length<=100000) (hP:∀x∈l,PureC Tryz.prog 181 [.agg (aEn x), .cp c0 0, .cp c1 0] (bb (P x))):PureC Tryz.prog 177 [LS 4 aEn En.o l, .fn (.func 181) [] [.cp c0 0, .cp c1 0]] (ib (ixL P l 0)):=by
 obtain⟨W,hW⟩:∃W,ixL P l 0=W:=⟨_,rfl⟩
 rw[hW];have hW:ixL P (l.drop 0) 0=W:=hW;refine ytX zal rfl ?_;refine Ex.go ?_;refine yFX zal (D:=Nat) (λd=>l.length-d) (λd=>d<=l.length/\ixL P (l.drop d) d=W) (λd=>zag [(0,LS 4 aEn En.o l),(1, .fn (.func 181) [] [.cp c0 0, .cp c1 0]),(7,ib l.length),(8,ib d)] 19) (λd=>zan []) 0 ⟨ymX _,hW⟩ ?_ ?_
 ·exact Ex.wO [] []
 ·clear hW;rintro d ⟨hd,hW⟩;refine Ex.go ?_;refine yPX (λh=> ?_) (λh=> ?_)
  ·have hlt:d<l.length:=zo;have hp:=hP _ (at_mem En.o l d hlt);rw[drop_at En.o l d hlt] at hW;unfold ixL at hW;cases hx:P (at_ En.o l d)
   ·rw[yfX (by simp[hx])] at hW;rw[hx] at hp
    (conv=>whnf);repeat(first|refine Ex.g ?_|refine yaX (hp) ?_);conv=>whnf
    refine⟨d+1,⟨zo,hW⟩,by dsimp only;omega,?_⟩;exact Ex.wO [] []
   ·rw[ygX hx] at hW;rw[hx] at hp
    (conv=>whnf);repeat(first|refine Ex.g ?_|refine yaX (hp) ?_);conv=>whnf
    refine .z [] ?_;rw[←hW];exact ydX rfl
  ·have hde:d=l.length:=zo;rw[hde,y9X] at hW;refine Ex.go ?_;refine .z [] ?_;rw[←hW];exact ydX rfl
theorem zkA (c0:List AV) (P:Nm->Bool) (l:List Nm) (hl:l.length<=100000) (hP:∀x∈l,PureC Tryz.prog 176 [.agg (aNm x), .cp c0 0] (bb (P x))):PureC Tryz.prog 203 [LS 3 aNm Nm.o l, .fn (.func 176) [] [.cp c0 0]] (ib (ixL P l 0)):=by
 obtain⟨W,hW⟩:∃W,ixL P l 0=W:=⟨_,rfl⟩
 rw[hW];have hW:ixL P (l.drop 0) 0=W:=hW;refine ytX zal rfl ?_;refine Ex.go ?_;refine yFX zal (D:=Nat) (λd=>l.length-d) (λd=>d<=l.length/\ixL P (l.drop d) d=W) (λd=>zag [(0,LS 3 aNm Nm.o l),(1, .fn (.func 176) [] [.cp c0 0]),(7,ib l.length),(8,ib d)] 19) (λd=>zan []) 0 ⟨ymX _,hW⟩ ?_ ?_
 ·exact Ex.wO [] []
 ·clear hW;rintro d ⟨hd,hW⟩;refine Ex.go ?_;refine yPX (λh=> ?_) (λh=> ?_)
  ·have hlt:d<l.length:=zo;have hp:=hP _ (at_mem Nm.o l d hlt);rw[drop_at Nm.o l d hlt] at hW;unfold ixL at hW;cases hx:P (at_ Nm.o l d)
   ·rw[yfX (by simp[hx])] at hW;rw[hx] at hp
    (conv=>whnf);repeat(first|refine Ex.g ?_|refine yaX (hp) ?_);conv=>whnf
    refine⟨d+1,⟨zo,hW⟩,by dsimp only;omega,?_⟩;exact Ex.wO [] []
   ·rw[ygX hx] at hW;rw[hx] at hp
    (conv=>whnf);repeat(first|refine Ex.g ?_|refine yaX (hp) ?_);conv=>whnf
    refine .z [] ?_;rw[←hW];exact ydX rfl
  ·have hde:d=l.length:=zo;rw[hde,y9X] at hW;refine Ex.go ?_;refine .z [] ?_;rw[←hW];exact ydX rfl
theorem zgG (c0:List AV) (P:Nm->Bool) (l:List Nm) (hl:l.length<=100000) (hP:∀x∈l,PureC Tryz.prog 176 [.agg (aNm x), .cp c0 0] (bb (P x))):PureC Tryz.prog 175 [LS 3 aNm Nm.o l, .fn (.func 176) [] [.cp c0 0]] (bb (l.any P)):=by
 rw[←zds P l 0];refine ytX zal rfl ?_
 (conv=>whnf);repeat((refine yaX (zkA c0 P l hl hP) ?_;conv=>whnf))
 refine .z [] ?_;exact ydX rfl
theorem ztQ (l:List Nm) (x:Nm) (hl:l.length<=100000):PureC Tryz.prog 179 [LS 3 aNm Nm.o l, .agg (aNm x)] (ib (ixL (λy=>decide (x=y)) l 0)):=by
 obtain⟨W,hW⟩:∃W,ixL (λy=>decide (x=y)) l 0=W:=⟨_,rfl⟩
 rw[hW];have hW:ixL (λy=>decide (x=y)) (l.drop 0) 0=W:=hW;refine ytX zal rfl ?_;refine Ex.go ?_;refine yFX zal (D:=Nat) (λd=>l.length-d) (λd=>d<=l.length/\ixL (λy=>decide (x=y)) (l.drop d) d=W) (λd=>zag [(0,LS 3 aNm Nm.o l),(3, .ptr 0 0),(7,ib l.length),(8,ib d)] 19) (λd=>zan [.row (aNm x) 71 0]) 0 ⟨ymX _,hW⟩ ?_ ?_
 ·(refine yLY [0] [] rfl rfl ?_ ?_<;>(repeat' first|exact zT|refine zA ?_ ?_)<;>(conv=>whnf)<;>(repeat'(exact rfl))<;>(first|(intro _ _;rfl)|(exact Or.inr ⟨rfl,rfl⟩)))
 ·clear hW;rintro d ⟨hd,hW⟩;refine Ex.go ?_;refine yPX (λh=> ?_) (λh=> ?_)
  ·have hlt:d<l.length:=zo;rw[drop_at Nm.o l d hlt] at hW;unfold ixL at hW;by_cases hx:x=at_ Nm.o l d
   ·rw[ygX (by simp[hx])] at hW
    (conv=>whnf);repeat(first|refine yKY (zrw x (at_ Nm.o l d)) ?_|refine KIf.t (ybX hx) ?_|refine Ex.g ?_);conv=>whnf
    refine .z [] ?_;rw[←hW];exact ydX rfl
   ·rw[yfX (by simp[hx])] at hW
    (conv=>whnf);repeat(first|refine yKY (zrw x (at_ Nm.o l d)) ?_|refine KIf.f (ycX hx) ?_|refine Ex.g ?_);conv=>whnf
    refine⟨d+1,⟨zo,hW⟩,by dsimp only;omega,?_⟩
    (refine yLY [0] [] rfl rfl ?_ ?_<;>(repeat' first|exact zT|refine zA ?_ ?_)<;>(conv=>whnf)<;>(repeat'(exact rfl))<;>(first|(intro _ _;rfl)|(exact Or.inr ⟨rfl,rfl⟩)))
  ·have hde:d=l.length:=zo;rw[hde,y9X] at hW;refine Ex.go ?_;refine .z [] ?_;rw[←hW];exact ydX rfl
theorem zcT (l:List Nm) (x:Nm) (hl:l.length<=100000):PureC Tryz.prog 152 [LS 3 aNm Nm.o l, .agg (aNm x)] (bb (l.contains x)):=by
 have hc:l.contains x=decide (0<=ixL (λy=>decide (x=y)) l 0):=by
  rw[zds,List.contains_eq_any_beq];rfl
 rw[hc];refine ytX zal rfl ?_
 (conv=>whnf);repeat((refine yaX (ztQ l x hl) ?_;conv=>whnf))
 refine .z [] ?_;exact ydX rfl
end Go.Proofs.YtgcjejajljhnaaaGreatDoor
namespace Ck
open Go Go.Ex
def zdm (n:List UInt8):Prop:=n.length<=100000
theorem zf0 (n:List UInt8):∀(l:List En) (i:Nat),ixL (λx=>same x.n n) l i=match ixE n l with|none=> -1|some k=>((i+k:Nat):Int)
 |[],i=>rfl
 |x::l,i=>by
  unfold ixL ixE;by_cases h:same x.n n=true
  ·rw[ygX h,ygX h];rfl
  ·rw[yfX h,yfX h,zf0 n l (i+1)]
   cases ixE n l with
   |none=>rfl
   |some k=>show((i+1+k:Nat):Int)=((i+(k+1):Nat):Int);omega
theorem ziJ {n:List UInt8}:∀{l:List En} {k:Nat},ixE n l=some k->k<l.length
 |[],k,h=>by cases h
 |x::l,k,h=>by
  unfold ixE at h;split at h
  ·cases h;simp
  ·cases h2:ixE n l with
   |none=>rw[h2] at h;cases h
   |some j=>rw[h2] at h;cases h;have:=ziJ h2;simp;omega
structure NaOk (v:Pt):Prop where
 rs:v.rs.length<=96
 ns:∀x∈v.rs,x.ns.length<=1000/\∀n∈x.ns,zdm n.n
 es:∀x∈v.rs,x.es.length<=1000/\∀e∈x.es,zdm e.n
theorem NaOk.ns_at {v:Pt} (h:NaOk v) (i:Nat):(at_ Rc.o v.rs i).ns.length<=1000/\∀n∈(at_ Rc.o v.rs i).ns,zdm n.n:=zfK (P:=λx:Rc=>x.ns.length<=1000/\∀n∈x.ns,zdm n.n) ⟨ymX _,λ_ h=>(by cases h)⟩ h.ns i
theorem NaOk.es_at {v:Pt} (h:NaOk v) (i:Nat):(at_ Rc.o v.rs i).es.length<=1000/\∀n∈(at_ Rc.o v.rs i).es,zdm n.n:=zfK (P:=λx:Rc=>x.es.length<=1000/\∀n∈x.es,zdm n.n) ⟨ymX _,λ_ h=>(by cases h)⟩ h.es i
end Ck
namespace Go.Proofs.YtgcjejajljhnaaaGreatDoor
open Go.Ex Ck
set_option maxRecDepth 100000
set_option maxHeartbeats 4000000
theorem zoW (x y:En) (hx:zdm x.n) (hy:zdm y.n):PureC Tryz.prog 172 [.agg (aEn y), .cp (aEn x) 0] (bb (Ck.same x.n y.n)):=by
 refine ytX zal rfl ?_
 (conv=>whnf);repeat((refine yaX (zno x.n y.n hx hy) ?_;conv=>whnf))
 refine .z [] ?_;exact ydX rfl
theorem zq7 (x:En) (n:Nm) (hx:zdm x.n) (hy:zdm n.n):PureC Tryz.prog 178 [.agg (aEn x), .cp (aNm n) 0] (bb (Ck.same x.n n.n)):=by
 refine ytX zal rfl ?_
 (conv=>whnf);repeat((refine yaX (zno x.n n.n hx hy) ?_;conv=>whnf))
 refine .z [] ?_;exact ydX rfl
theorem ztK (x:En) (n:List UInt8) (hx:zdm x.n) (hy:zdm n):PureC Tryz.prog 183 [.agg (aEn x), .cp [tb n] 0] (bb (Ck.same x.n n)):=by
 refine ytX zal rfl ?_
 (conv=>whnf);repeat((refine yaX (zno x.n n hx hy) ?_;conv=>whnf))
 refine .z [] ?_;exact ydX rfl
theorem zq8 (y n:Nm) (hy:zdm y.n) (hn:zdm n.n):PureC Tryz.prog 176 [.agg (aNm y), .cp (aNm n) 0] (bb (decide (y.d=n.d)&&Ck.same y.n n.n)):=by
 refine ytX zal rfl ?_;by_cases h:y.d=n.d
 ·rw[ybX h]
  (conv=>whnf);repeat(first|refine yKY (zaH y.d n.d) ?_|refine KIf.t (ybX h) ?_|refine yaX (zno y.n n.n hy hn) ?_);conv=>whnf
  refine .z [] ?_;exact ydX rfl
 ·rw[ycX h]
  (conv=>whnf);repeat(first|refine yKY (zaH y.d n.d) ?_|refine KIf.f (ycX h) ?_);conv=>whnf
  refine .z [] ?_;exact ydX rfl
theorem zmQ (x:En) (o:Ref) (n:Nm):PureC Tryz.prog 181 [.agg (aEn x), .cp (ze1 o) 0, .cp (aNm n) 0] (bb (decide (x.f=o)&&decide (x.n=n.n))):=by
 refine ytX zal rfl ?_;by_cases h:x.f=o
 ·rw[ybX h]
  (conv=>whnf);repeat(first|refine yKY (zaH x.f o) ?_|refine KIf.t (ybX h) ?_);conv=>whnf
  refine .z [] ?_;exact ydX rfl
 ·rw[ycX h]
  (conv=>whnf);repeat(first|refine yKY (zaH x.f o) ?_|refine KIf.f (ycX h) ?_);conv=>whnf
  refine .z [] ?_;exact ydX rfl
theorem zie (p:Ck.Rp) (i:Nat) (hi:i<p.v.rs.length) (hn:p.v.rs.length<=96):PureC Tryz.prog 174 [.cp (pC p) 0,ib (i:Nat)] (.agg (ze1 (p.ref i))):=by
 have hi0:(0:Int)<=(i:Nat)/\((i:Nat):Int)<(p.v.rs.length:Nat):=⟨zo,zo⟩
 have e:p.ref i=⟨i,(at_ Rc.o p.v.rs i).q⟩:=by unfold Rp.ref;rw[zae]
 rw[e];refine ytX zal rfl ?_
 (conv=>whnf);repeat((refine Need.mk ?_ ?_;exact hi0;conv=>whnf))
 refine .z [] ?_;exact ydX rfl
theorem zuf (d:Int):PureC Tryz.prog 91 [ib d] (ib (zdI d:Nat)):=by
 refine ytX zal rfl ?_;unfold zdI;by_cases h:d=5
 ·rw[ygX h]
  (conv=>whnf);repeat((refine Ex.g ?_;conv=>whnf))
  refine .z [] ?_;exact ydX rfl
 ·rw[yfX h]
  (conv=>whnf);repeat((refine Ex.g ?_;conv=>whnf))
  refine .z [] ?_;exact ydX rfl
end Go.Proofs.YtgcjejajljhnaaaGreatDoor
namespace Ck
open Go Go.Ex
theorem zrL {h:T AO} {z:List Nat} {cs:List AV} {b:Nat} {e:TypeId} {q:Nat} (hr:h.get b=some (.row cs e q)) (hz:b∈z) (hc:Wzl h z cs cs):Wz h z (.cp cs 0) (.ptr b 0):=by
 unfold Wz;exact⟨rfl,hz,cs,e,q,hr,yhX _,by rw[yCY];exact hc⟩
theorem zcs {h:T AO} {z:List Nat} {g:Nat} {cs:List AV} {b:Nat} {e:TypeId} {q:Nat} (hr:h.get b=some (.row cs e q)) (hz:b∈z) (hc:Wzl h z cs cs):Wz h z (.fn (.func g) [] [.cp cs 0]) (.fn (.func g) [] [.ptr b 0]):=by
 unfold Wz;exact⟨rfl,Wzn,Wzc (zrL hr hz hc) Wzn⟩
theorem zrk {h:T AO} {z:List Nat} {g:Nat} {cs cs':List AV} {b b':Nat} {e e':TypeId} {q q':Nat} (hr:h.get b=some (.row cs e q)) (hz:b∈z) (hc:Wzl h z cs cs) (hr':h.get b'=some (.row cs' e' q')) (hz':b'∈z) (hc':Wzl h z cs' cs'):Wz h z (.fn (.func g) [] [.cp cs 0, .cp cs' 0]) (.fn (.func g) [] [.ptr b 0, .ptr b' 0]):=by
 unfold Wz;exact⟨rfl,Wzn,Wzc (zrL hr hz hc) (Wzc (zrL hr' hz' hc') Wzn)⟩
theorem zsd {h:T AO} {z:List Nat} (x:En):Wzl h z (aEn x) (aEn x):=Wzc (ydX rfl) (Wzc (ydX rfl) (Wzc (ydX rfl) (Wzc (ydX rfl) Wzn)))
theorem zbz {h:T AO} {z:List Nat} (x:Nm):Wzl h z (aNm x) (aNm x):=Wzc (ydX rfl) (Wzc (ydX rfl) (Wzc (ydX rfl) Wzn))
theorem zg6 {h:T AO} {z:List Nat} (x:Ref):Wzl h z (ze1 x) (ze1 x):=Wzc (ydX rfl) (Wzc (ydX rfl) Wzn)
theorem zpG {h:T AO} {z:List Nat} (x:List UInt8):Wzl h z [tb x] [tb x]:=Wzc (ydX rfl) Wzn
theorem zyO {v:Pt} {r:Ref} (h:right v r=true):rx v r=rc v r.r:=by
 unfold right at h;simp only[ykX] at h;exact ygX h.1.1
end Ck
namespace Go.Proofs.YtgcjejajljhnaaaGreatDoor
open Go.Ex Ck
set_option maxRecDepth 100000
set_option maxHeartbeats 4000000
theorem znt (v:Pt) (r:Ref) (hn:v.rs.length<=100000) {b:Bool} (h:Ck.right v r=b):PureC Tryz.prog 101 [zbF v, .agg (ze1 r)] (.tup [zpy (rx v r),bb b]):=by
 have:=zmg v r hn;rw[h] at this;exact this
theorem zll (p:Ck.Rp) (d:Nat) (before:List En) (x:En) (hn:NaOk p.v) (hd:d<p.v.rs.length) (hx:zdm x.n) (hbl:before.length<=1000) (hbn:∀e∈before,zdm e.n):PureC Tryz.prog 148 [.cp (pC p) 0,ib (d:Nat),LS 4 aEn En.o before, .agg (aEn x)] (bb (Ck.zdu p d before x)):=by
 have hcon:=zgI (aEn x) (λy=>Ck.same x.n y.n) before zo (λy hy=>zoW x y hx (hbn y hy))
 obtain⟨b1,hb1⟩:∃b,before.any (λy=>Ck.same x.n y.n)=b:=⟨_,rfl⟩
 rw[hb1] at hcon
 have hn96:p.v.rs.length<=100000:=by have:=hn.rs;omega
 obtain⟨b2,hb2⟩:∃b,Ck.right p.v x.f=b:=⟨_,rfl⟩
 have hri:=znt p.v x.f hn96 hb2
 have hrl:(rx p.v x.f).ns.length<=100000:=by
  unfold rx;split
  ·have:=(hn.ns_at x.f.r.toNat).1;unfold Ck.rc;omega
  ·exact ymX _
 unfold Ck.zdu;rw[hb1,hb2];refine ytX zal rfl ?_;cases b1
 ·(conv=>whnf);repeat(first|refine yoY ([0]) (hcon) (Wzc (ydX rfl) (Wzc (zcs rfl (yiX.2 rfl) (zsd x)) Wzn)) ?_|refine yxX (hri) ?_|refine yxX (zie p d hd hn.rs) ?_|refine Ex.g ?_);conv=>whnf
  cases b2
  ·(conv=>whnf);repeat(((refine Ex.g ?_;conv=>whnf)))
   refine .z [] ?_;exact ydX rfl
  ·have hrc:p.rc x.f.r=rx p.v x.f:=(zyO hb2).symm;rw[hrc];have hct:=zcT (rx p.v x.f).ns ⟨p.ref d,x.n⟩ hrl
   obtain⟨b3,hb3⟩:∃b,(rx p.v x.f).ns.contains ⟨p.ref d,x.n⟩=b:=⟨_,rfl⟩
   rw[hb3] at hct⊢;by_cases h16:16<=x.f.r
   ·rw[ybX h16]
    (conv=>whnf);repeat(first|refine KIf.t (ybX h16) ?_|refine yaX (hct) ?_|refine Ex.g ?_);conv=>whnf
    refine .z [] ?_;exact ydX rfl
   ·rw[ycX h16]
    (conv=>whnf);repeat(first|refine KIf.f (ycX h16) ?_|refine Ex.g ?_);conv=>whnf
    refine .z [] ?_;exact ydX rfl
 ·(conv=>whnf);repeat(first|refine yoY ([0]) (hcon) (Wzc (ydX rfl) (Wzc (zcs rfl (yiX.2 rfl) (zsd x)) Wzn)) ?_|refine Ex.g ?_);conv=>whnf
  refine .z [] ?_;exact ydX rfl
theorem znV (p:Ck.Rp) (r:Nat) (before:List Nm) (n:Nm) (hn:NaOk p.v) (hd:r<p.v.rs.length) (hx:zdm n.n) (hbl:before.length<=1000) (hbn:∀e∈before,zdm e.n):PureC Tryz.prog 151 [.cp (pC p) 0,ib (r:Nat),LS 3 aNm Nm.o before, .agg (aNm n)] (.tup [bb (Ck.isName p r before n).1,bb (Ck.isName p r before n).2]):=by
 have hcon:=zgG (aNm n) (λy=>decide (y.d=n.d)&&Ck.same y.n n.n) before zo (λy hy=>zq8 y n (hbn y hy) hx)
 obtain⟨b1,hb1⟩:∃b,before.any (λy=>decide (y.d=n.d)&&Ck.same y.n n.n)=b:=⟨_,rfl⟩
 rw[hb1] at hcon
 have hn96:p.v.rs.length<=100000:=by have:=hn.rs;omega
 have hd0:(0:Int)<=(r:Nat)/\((r:Nat):Int)<(p.v.rs.length:Nat):=⟨zo,zo⟩
 obtain⟨b2,hb2⟩:∃b,Ck.right p.v n.d=b:=⟨_,rfl⟩
 have hri:=znt p.v n.d hn96 hb2
 have hrl:(rx p.v n.d).es.length<=1000/\∀e∈(rx p.v n.d).es,zdm e.n:=by
  unfold rx;split
  ·exact hn.es_at n.d.r.toNat
  ·exact⟨ymX _,λ_ h=>(by cases h)⟩
 obtain⟨x,hxr⟩:∃x,rx p.v n.d=x:=⟨_,rfl⟩
 rw[hxr] at hrl hri;have hix:=zkC (aNm n) (λy=>Ck.same y.n n.n) x.es zo (λy hy=>zq7 y n (hrl.2 y hy) hx);rw[zf0 n.n x.es 0] at hix;have hlend:∀{h:T AO} {z:List Nat} {b:Nat} {e:TypeId} {q:Nat},h.get b=some (.row (aNm n) e q)->b∈z->Wz h z (.fn (.func 176) [] [.cp (aNm n) 0]) (.fn (.func 176) [] [.ptr b 0]):=λhr hz=>zcs hr hz (zbz n)
 obtain⟨R,hR⟩:∃R,Ck.isName p r before n=R:=⟨_,rfl⟩
 rw[hR]
 have hG:R=if(b2&&(p.rc n.d.r).k==0)=true then(if b1=true then(false,false) else if before≠[]/\(p.rc r).k≠1 then(false,false) else match ixE n.n (p.rc n.d.r).es with|none=>(decide ((p.rc n.d.r).es.length<zdI n.d.r),false)|some k=>(decide ((at_ En.o (p.rc n.d.r).es k).f=p.ref r/\(at_ En.o (p.rc n.d.r).es k).n=n.n),true)) else(false,false):=by
  rw[←hR];unfold Ck.isName;rw[hb1,hb2];rfl
 refine ytX zal rfl ?_
 (conv=>whnf);repeat(first|refine yxX (hri) ?_|refine Ex.g ?_);conv=>whnf
 cases b2
 ·replace hG:R=(false,false):=hG
  subst hG
  (conv=>whnf);repeat(((refine Ex.g ?_;conv=>whnf)))
  (refine .z [] ?_;conv=>whnf);(repeat' first|exact zT|exact rfl|refine zA ?_ ?_)<;>(try(conv=>whnf))
 ·have hrc:p.rc n.d.r=x:=by rw[←hxr,zyO hb2];rfl
  rw[hrc] at hG;by_cases hk:x.k=0
  ·have hkb:(x.k==0)=true:=by simp[hk]
   rw[hkb] at hG;cases b1
   ·replace hG:R=if before≠[]/\(p.rc r).k≠1 then(false,false) else match ixE n.n x.es with|none=>(decide (x.es.length<zdI n.d.r),false)|some k=>(decide ((at_ En.o x.es k).f=p.ref r/\(at_ En.o x.es k).n=n.n),true):=hG
    (conv=>whnf);repeat(first|refine KIf.f (yqX Bool.not (ybX hk)) ?_|refine yoY ([0]) (hcon) (Wzc (ydX rfl) (Wzc (zcs rfl (yiX.2 rfl) (zbz n)) Wzn)) ?_|refine Ex.g ?_);conv=>whnf
    by_cases hbe:before=[]
    ·have hb0:¬(0:Int)<(before.length:Nat):=by rw[hbe];decide
     rw[yfX (λh=>h.1 hbe)] at hG
     cases hE:ixE n.n x.es with
     |none=>
      rw[hE] at hix hG
      replace hG:R=(decide (x.es.length<zdI n.d.r),false):=hG
      have hlt0:(-1:Int)<0:=by decide
      (conv=>whnf);repeat(first|refine KIf.f (ycX hb0) ?_|refine yoY ([0]) (hix) (Wzc (ydX rfl) (Wzc (zcs rfl (yiX.2 rfl) (zbz n)) Wzn)) ?_|refine KIf.t (ybX hlt0) ?_|refine yxX (zuf _) ?_|refine Ex.g ?_);conv=>whnf
      have e:decide (x.es.length<zdI n.d.r)=decide (((x.es.length:Nat):Int)<((zdI n.d.r:Nat):Int)):=decide_eq_decide.2 Int.ofNat_lt.symm;rw[e] at hG;subst hG
      (refine .z [] ?_;conv=>whnf);(repeat' first|exact zT|exact rfl|refine zA ?_ ?_)<;>(try(conv=>whnf))
     |some k=>
      rw[hE] at hix hG
      replace hG:R=(decide ((at_ En.o x.es k).f=p.ref r/\(at_ En.o x.es k).n=n.n),true):=hG
      have hkl:=ziJ hE;have hlt0:¬((0+k:Nat):Int)<0:=zo;have hk0:(0:Int)<=((0+k:Nat):Int)/\((0+k:Nat):Int)<(x.es.length:Nat):=zo
      have hy2:at_ En.o x.es k=at_ En.o x.es (((0+k:Nat):Int)).toNat:=by rw[yrX,ylX]
      rw[hy2] at hG;by_cases hf:(at_ En.o x.es (((0+k:Nat):Int)).toNat).f=p.ref r
      ·by_cases hnn:(at_ En.o x.es (((0+k:Nat):Int)).toNat).n=n.n
       ·(conv=>whnf);repeat(first|refine KIf.f (ycX hb0) ?_|refine yoY ([0]) (hix) (Wzc (ydX rfl) (Wzc (zcs rfl (yiX.2 rfl) (zbz n)) Wzn)) ?_|refine KIf.f (ycX hlt0) ?_|refine Need.mk ?_ ?_;exact hk0|refine yxX (zie p r hd hn.rs) ?_|refine yKY (zaH (at_ En.o x.es (((0+k:Nat):Int)).toNat).f (p.ref r)) ?_|refine KIf.t (ybX hf) ?_|refine Ex.g ?_);conv=>whnf
        rw[ybX ⟨hf,hnn⟩] at hG;subst hG
        (refine .z [] ?_;conv=>whnf);(repeat' first|exact zT|exact rfl|refine zA ?_ ?_)<;>(try(conv=>whnf))<;>((exact(ybX hnn).symm))
       ·(conv=>whnf);repeat(first|refine KIf.f (ycX hb0) ?_|refine yoY ([0]) (hix) (Wzc (ydX rfl) (Wzc (zcs rfl (yiX.2 rfl) (zbz n)) Wzn)) ?_|refine KIf.f (ycX hlt0) ?_|refine Need.mk ?_ ?_;exact hk0|refine yxX (zie p r hd hn.rs) ?_|refine yKY (zaH (at_ En.o x.es (((0+k:Nat):Int)).toNat).f (p.ref r)) ?_|refine KIf.t (ybX hf) ?_|refine Ex.g ?_);conv=>whnf
        rw[ycX (λh=>hnn h.2)] at hG;subst hG
        (refine .z [] ?_;conv=>whnf);(repeat' first|exact zT|exact rfl|refine zA ?_ ?_)<;>(try(conv=>whnf))<;>((exact(ycX hnn).symm))
      ·(conv=>whnf);repeat(first|refine KIf.f (ycX hb0) ?_|refine yoY ([0]) (hix) (Wzc (ydX rfl) (Wzc (zcs rfl (yiX.2 rfl) (zbz n)) Wzn)) ?_|refine KIf.f (ycX hlt0) ?_|refine Need.mk ?_ ?_;exact hk0|refine yxX (zie p r hd hn.rs) ?_|refine yKY (zaH (at_ En.o x.es (((0+k:Nat):Int)).toNat).f (p.ref r)) ?_|refine KIf.f (ycX hf) ?_|refine Ex.g ?_);conv=>whnf
       rw[ycX (λh=>hf h.1)] at hG;subst hG
       (refine .z [] ?_;conv=>whnf);(repeat' first|exact zT|exact rfl|refine zA ?_ ?_)<;>(try(conv=>whnf))
    ·have hb0:(0:Int)<(before.length:Nat):=by have:0<before.length:=yXX.2 hbe;omega
     by_cases hk1:(at_ Rc.o p.v.rs r).k=1
     ·rw[yfX (λh=>h.2 (by rw[zae];exact hk1))] at hG
      cases hE:ixE n.n x.es with
      |none=>
       rw[hE] at hix hG
       replace hG:R=(decide (x.es.length<zdI n.d.r),false):=hG
       have hlt0:(-1:Int)<0:=by decide
       (conv=>whnf);repeat(first|refine KIf.t (ybX hb0) ?_|refine Need.mk ?_ ?_;exact hd0|refine KIf.f (yqX Bool.not (ybX hk1)) ?_|refine yoY ([0]) (hix) (Wzc (ydX rfl) (Wzc (zcs rfl (yiX.2 rfl) (zbz n)) Wzn)) ?_|refine KIf.t (ybX hlt0) ?_|refine yxX (zuf _) ?_|refine Ex.g ?_);conv=>whnf
       have e:decide (x.es.length<zdI n.d.r)=decide (((x.es.length:Nat):Int)<((zdI n.d.r:Nat):Int)):=decide_eq_decide.2 Int.ofNat_lt.symm;rw[e] at hG;subst hG
       (refine .z [] ?_;conv=>whnf);(repeat' first|exact zT|exact rfl|refine zA ?_ ?_)<;>(try(conv=>whnf))
      |some k=>
       rw[hE] at hix hG
       replace hG:R=(decide ((at_ En.o x.es k).f=p.ref r/\(at_ En.o x.es k).n=n.n),true):=hG
       have hkl:=ziJ hE;have hlt0:¬((0+k:Nat):Int)<0:=zo;have hk0:(0:Int)<=((0+k:Nat):Int)/\((0+k:Nat):Int)<(x.es.length:Nat):=zo
       have hy2:at_ En.o x.es k=at_ En.o x.es (((0+k:Nat):Int)).toNat:=by rw[yrX,ylX]
       rw[hy2] at hG;by_cases hf:(at_ En.o x.es (((0+k:Nat):Int)).toNat).f=p.ref r
       ·by_cases hnn:(at_ En.o x.es (((0+k:Nat):Int)).toNat).n=n.n
        ·(conv=>whnf);repeat(first|refine KIf.t (ybX hb0) ?_|refine Need.mk ?_ ?_;exact hd0|refine KIf.f (yqX Bool.not (ybX hk1)) ?_|refine yoY ([0]) (hix) (Wzc (ydX rfl) (Wzc (zcs rfl (yiX.2 rfl) (zbz n)) Wzn)) ?_|refine KIf.f (ycX hlt0) ?_|refine Need.mk ?_ ?_;exact hk0|refine yxX (zie p r hd hn.rs) ?_|refine yKY (zaH (at_ En.o x.es (((0+k:Nat):Int)).toNat).f (p.ref r)) ?_|refine KIf.t (ybX hf) ?_|refine Ex.g ?_);conv=>whnf
         rw[ybX ⟨hf,hnn⟩] at hG;subst hG
         (refine .z [] ?_;conv=>whnf);(repeat' first|exact zT|exact rfl|refine zA ?_ ?_)<;>(try(conv=>whnf))<;>((exact(ybX hnn).symm))
        ·(conv=>whnf);repeat(first|refine KIf.t (ybX hb0) ?_|refine Need.mk ?_ ?_;exact hd0|refine KIf.f (yqX Bool.not (ybX hk1)) ?_|refine yoY ([0]) (hix) (Wzc (ydX rfl) (Wzc (zcs rfl (yiX.2 rfl) (zbz n)) Wzn)) ?_|refine KIf.f (ycX hlt0) ?_|refine Need.mk ?_ ?_;exact hk0|refine yxX (zie p r hd hn.rs) ?_|refine yKY (zaH (at_ En.o x.es (((0+k:Nat):Int)).toNat).f (p.ref r)) ?_|refine KIf.t (ybX hf) ?_|refine Ex.g ?_);conv=>whnf
         rw[ycX (λh=>hnn h.2)] at hG;subst hG
         (refine .z [] ?_;conv=>whnf);(repeat' first|exact zT|exact rfl|refine zA ?_ ?_)<;>(try(conv=>whnf))<;>((exact(ycX hnn).symm))
       ·(conv=>whnf);repeat(first|refine KIf.t (ybX hb0) ?_|refine Need.mk ?_ ?_;exact hd0|refine KIf.f (yqX Bool.not (ybX hk1)) ?_|refine yoY ([0]) (hix) (Wzc (ydX rfl) (Wzc (zcs rfl (yiX.2 rfl) (zbz n)) Wzn)) ?_|refine KIf.f (ycX hlt0) ?_|refine Need.mk ?_ ?_;exact hk0|refine yxX (zie p r hd hn.rs) ?_|refine yKY (zaH (at_ En.o x.es (((0+k:Nat):Int)).toNat).f (p.ref r)) ?_|refine KIf.f (ycX hf) ?_|refine Ex.g ?_);conv=>whnf
        rw[ycX (λh=>hf h.1)] at hG;subst hG
        (refine .z [] ?_;conv=>whnf);(repeat' first|exact zT|exact rfl|refine zA ?_ ?_)<;>(try(conv=>whnf))
     ·rw[ygX ⟨hbe,by rw[zae];exact hk1⟩] at hG;subst hG
      (conv=>whnf);repeat(first|refine KIf.t (ybX hb0) ?_|refine Need.mk ?_ ?_;exact hd0|refine KIf.t (yqX Bool.not (ycX hk1)) ?_);conv=>whnf
      (refine .z [] ?_;conv=>whnf);(repeat' first|exact zT|exact rfl|refine zA ?_ ?_)<;>(try(conv=>whnf))
   ·replace hG:R=(false,false):=hG
    subst hG
    (conv=>whnf);repeat(first|refine KIf.f (yqX Bool.not (ybX hk)) ?_|refine yoY ([0]) (hcon) (Wzc (ydX rfl) (Wzc (zcs rfl (yiX.2 rfl) (zbz n)) Wzn)) ?_|refine Ex.g ?_);conv=>whnf
    (refine .z [] ?_;conv=>whnf);(repeat' first|exact zT|exact rfl|refine zA ?_ ?_)<;>(try(conv=>whnf))
  ·have hkb:(x.k==0)=false:=by simp[hk]
   rw[hkb] at hG
   replace hG:R=(false,false):=hG
   subst hG
   (conv=>whnf);repeat(first|refine KIf.t (yqX Bool.not (ycX hk)) ?_|refine Ex.g ?_);conv=>whnf
   (refine .z [] ?_;conv=>whnf);(repeat' first|exact zT|exact rfl|refine zA ?_ ?_)<;>(try(conv=>whnf))
theorem zxD (n:Nat) (ph:Bool) (p:Rp) (hf:Rf n p) (hn:n<=96) (hb:p.fd.length<=100000) (hds:0<p.v.ds.length/\p.v.ds.length<=100000):HG Tryz.prog 2 20 220 106 [.ptr 0 0] (gP ph p) [.row (zaC 20 1 p) 106 0, .row (flatI (rcP ph 20) 0 p.v.rs) 66 10] (.tup [])
  (gP ph (descriptors p)) [.row (zaC 20 1 (descriptors p)) 106 0, .row (flatI (rcP ph 20) 0 (descriptors p).v.rs) 66 10]:=by
 have hpn:p.v.rs.length=n:=hf.n;have h96:p.v.rs.length<=96:=zo;subst hpn;refine HG.of zal zo ?_;refine Ex.go ?_;refine Ex.wl p.v.rs.length (λd=>zag [(0, .ptr 0 0),(8, .so 1 0 p.v.rs.length 0),(9,ib p.v.rs.length),(10,ib d)] 47) (λd=>zaw 20 220 (gP ph (it zas p d)) [.row (zaC 20 1 (it zas p d)) 106 0, .row (flatI (rcP ph 20) 0 (it zas p d).v.rs) 66 10]) ?_ ?_
 ·(exact Ex.wG [0,1] [] [] (⟨pQ rfl rfl,rQ h96,zT⟩))
 ·intro d hd;obtain⟨h1,h2,h3,h4⟩:=zkl hf d hd;have hst:it zas p (d+1)=zas (it zas p d) d:=rfl
  have hfin:d=p.v.rs.length->it zas p d=descriptors p:=λe=>by rw[e];rfl
  generalize it zas p d=q at*
  have hqn:q.v.rs.length=p.v.rs.length:=h1.n;have hq96:q.v.rs.length<=96:=zo
  have hqd:0<q.v.ds.length/\q.v.ds.length<=100000:=by rw[h4];exact hds
  have stay:∀{t:Tm} {s:St} {q':Ck.Rp},zas q d=q'->Weak 2 t s (zag [(0, .ptr 0 0),(8, .so 1 0 p.v.rs.length 0),(9,ib p.v.rs.length),(10,ib (d+1:Nat))] 47) (zaw 20 220 (gP ph q') [.row (zaC 20 1 q') 106 0, .row (flatI (rcP ph 20) 0 q'.v.rs) 66 10])->
    Weak 2 t s (zag [(0, .ptr 0 0),(8, .so 1 0 p.v.rs.length 0),(9,ib p.v.rs.length),(10,ib (d+1:Nat))] 47) (zaw 20 220 (gP ph (it zas p (d+1))) [.row (zaC 20 1 (it zas p (d+1))) 106 0, .row (flatI (rcP ph 20) 0 (it zas p (d+1)).v.rs) 66 10]):=λhe hw=>by rw[hst,he];exact hw
  refine Ex.go ?_;refine yPX (λh=> ?_) (λh=> ?_)
  ·have hltq:d<q.v.rs.length:=zo
   have hoff:0+((d:Nat):Int).toNat*10=d*10:=by simp
   have hls:zas q d=if own (at_ Rc.o q.v.rs d)&& !q.v.ds.contains (at_ Rc.o q.v.rs d).ds then(q.note 2 d 0).setR d {at_ Rc.o q.v.rs d with ds:=at_ 0 q.v.ds 0} else q:=by unfold zas;simp only[zae]
   obtain⟨ob,hob⟩:∃b,own (at_ Rc.o q.v.rs d)=b:=⟨_,rfl⟩
   obtain⟨cb,hcb⟩:∃b,q.v.ds.contains (at_ Rc.o q.v.rs d).ds=b:=⟨_,rfl⟩
   have hown:=zhO (at_ Rc.o q.v.rs d);have hcon:=zlV q.v.ds (at_ Rc.o q.v.rs d).ds hqd.2;rw[hob] at hown;rw[hcb] at hcon;rw[hob,hcb] at hls
   (conv=>whnf);repeat(first|refine RK.of (zch (zab ph 20) Rc.o hoff rfl rfl hltq rfl) ?_|refine zct rfl rfl rfl rfl ?_|refine yRY ([]) (hown) (zgq) ?_|refine Ex.g ?_);conv=>whnf
   cases ob
   ·refine Ex.go ?_;refine⟨d+1,zo,by dsimp only;omega,stay (q':=q) (by rw[hls];rfl) ?_⟩
    (exact Ex.wG [0,1] [] [] (⟨pQ rfl rfl,rQ hq96,zT⟩))
   ·(conv=>whnf);repeat(first|refine yxX (hcon) ?_|refine Ex.g ?_);conv=>whnf
    cases cb
    ·have hls2:zas q d=(q.note 2 d 0).setR d {at_ Rc.o q.v.rs d with ds:=at_ 0 q.v.ds 0}:=by rw[hls];rfl
     have hoff2:0+((d:Nat):Int).toNat*10+6=d*10+6:=by simp
     have hd0:(0:Int)<=(d:Nat)/\((d:Nat):Int)<((q.note 2 d 0).v.rs.length:Nat):=⟨zo,by show((d:Nat):Int)<(q.v.rs.length:Nat);omega⟩
     have hd1:(0:Int)<=0/\(0:Int)<((q.note 2 d 0).v.ds.length:Nat):=⟨zo,by show(0:Int)<(q.v.ds.length:Nat);omega⟩
     (conv=>whnf);repeat(first|refine Need.mk ?_ ?_;(focus(first|exact hd0|exact hd1))|refine Ck.cG (p':=(q.note 2 d 0)) (zdb ph q 2 d 0 hq96 h1.fl zo) hq96 hq96 ?_|refine zaV (zab ph 221) Rc.o (k:=6) [ib (at_ 0 q.v.ds 0)] (rcP ph 221 d {at_ Rc.o q.v.rs d with ds:=at_ 0 q.v.ds 0}) hoff2 rfl rfl rfl rfl rfl rfl hltq (by decide) rfl ?_|refine Ex.g ?_);conv=>whnf
     refine⟨d+1,zo,by dsimp only;omega,stay hls2 ?_⟩;refine yCX [0,1] [] [] rfl rfl rfl rfl ?_ ?_ ?_ ?_
     ·refine⟨⟨rfl,rfl,yzX (zjz (p:=q.note 2 d 0) FR.G ⟨rfl,rfl⟩ ⟨rfl,rfl,yoX,rfl,rfl⟩ ⟨rfl,rfl⟩)⟩,⟨rfl,rfl,yzX (zaI (i:=d) hq96 yoX (λk hk=>zap _ _ _ _ _ (Ne.symm hk)) zN ?_)⟩,zT⟩;show WL _ _ _ (rcP ph 20 d (at_ Rc.o (q.v.rs.set d _) d)) _;rw[zaj _ _ _ _ hltq];exact zit FR.G zo
     ·exact λj o1 h _=>⟨(ywZ (zc4 (p:=q.note 2 d 0) (i:=d) (x:={at_ Rc.o q.v.rs d with ds:=at_ 0 q.v.ds 0}) ⟨rfl,rfl⟩) j).symm.trans h,yQX _ _ j o1 h⟩
     ·exact zN
     ·(repeat' first|exact zT|exact rfl|refine zA ?_ ?_)
    ·refine Ex.go ?_;refine⟨d+1,zo,by dsimp only;omega,stay (q':=q) (by rw[hls];rfl) ?_⟩
     (exact Ex.wG [0,1] [] [] (⟨pQ rfl rfl,rQ hq96,zT⟩))
  ·conv=>whnf
   rw[←hfin zo];refine⟨?_⟩
   (exact Ex.wG [0,1] [] [] (⟨pQ rfl rfl,rQ hq96,zT⟩))
end Go.Proofs.YtgcjejajljhnaaaGreatDoor
namespace Ck
open Go Go.Ex
def zaO (f:Rp->Nat->Rp) (q:Rp) (j:Nat):Rp:=if own (q.rc (16+j:Nat)) then f q (16+j) else q
theorem zbw {h:T AO} {z:List Nat} {R:Nat->Option Nat} {k k0:Nat} (hk:RS R k/\RD R k=k0):WL h z R [.ptr k 0] [.ptr k0 0]:=by
 refine ywX ⟨hk.1,?_⟩ yMX;unfold Wv;exact⟨hk.2.symm,rfl⟩
theorem zpg {ρ:Nat->Nat} {k k0:Nat} (hk:ρ k=k0):Rnl ρ [.ptr k 0] [.ptr k0 0]:=yOX (by unfold Rn;rw[hk]) Rnl.nil
end Ck
namespace Go.Proofs.YtgcjejajljhnaaaGreatDoor
open Go.Ex Ck
set_option maxRecDepth 100000
set_option maxHeartbeats 4000000
theorem zr1 (n:Nat) (ph:Bool) (f:Ck.Rp->Nat->Ck.Rp) (p:Ck.Rp) (I:Nat->Ck.Rp->Prop) (hn:n<=96) (hI:∀j,j<=n-16->I j (it (zaO f) p j)) (hIn:∀j q,I j q->q.v.rs.length=n)
  (hcl:∀j q,16+j<n->I j q->own (at_ Rc.o q.v.rs (16+j))=true->HG Tryz.prog 3 20 220 157 [ib (16+j:Nat), .ptr 2 0] (gP ph q) [.row (zaC 20 1 q) 106 0, .row (flatI (rcP ph 20) 0 q.v.rs) 66 10, .row [.ptr 0 0] 107 0] (.tup [])
   (gP ph (f q (16+j))) [.row (zaC 20 1 (f q (16+j))) 106 0, .row (flatI (rcP ph 20) 0 (f q (16+j)).v.rs) 66 10, .row [.ptr 0 0] 107 0]):
  HG Tryz.prog 3 20 220 149 [.ptr 0 0, .fn (.func 157) [] [.ptr 2 0]] (gP ph p) [.row (zaC 20 1 p) 106 0, .row (flatI (rcP ph 20) 0 p.v.rs) 66 10, .row [.ptr 0 0] 107 0] (.tup [])
   (gP ph (below f p)) [.row (zaC 20 1 (below f p)) 106 0, .row (flatI (rcP ph 20) 0 (below f p).v.rs) 66 10, .row [.ptr 0 0] 107 0]:=by
 have hpn:p.v.rs.length=n:=hIn 0 p (hI 0 (ymX _));have hp96:p.v.rs.length<=96:=zo
 have hbe:below f p=it (zaO f) p (n-16):=by rw[←hpn];rfl
 rw[hbe];refine HG.of zal zo ?_;refine Ex.go ?_;refine Ex.wl (n-16) (λd=>zag [(0, .ptr 0 0),(1, .fn (.func 157) [] [.ptr 2 0]),(4,ib (16+d:Nat))] 27) (λd=>zaw 20 220 (gP ph (it (zaO f) p d)) [.row (zaC 20 1 (it (zaO f) p d)) 106 0, .row (flatI (rcP ph 20) 0 (it (zaO f) p d).v.rs) 66 10, .row [.ptr 0 0] 107 0]) ?_ ?_
 ·(exact Ex.wG [0,1,2] [] [] (⟨pQ rfl rfl,rQ hp96,⟨rfl,rfl,yzX (zbw ⟨rfl,rfl⟩)⟩,zT⟩))
 ·intro d hd;have hId:=hI d hd;have hst:it (zaO f) p (d+1)=zaO f (it (zaO f) p d) d:=rfl
  have hfin:d=n-16->it (zaO f) p d=it (zaO f) p (n-16):=λe=>by rw[e]
  have hIs:d+1<=n-16->I (d+1) (zaO f (it (zaO f) p d) d):=λh=>hst▸hI (d+1) h
  generalize it (zaO f) p d=q at*
  have hqn:q.v.rs.length=n:=hIn d q hId;have hq96:q.v.rs.length<=96:=zo
  have stay:∀{t:Tm} {s:St} {q':Ck.Rp},zaO f q d=q'->Weak 3 t s (zag [(0, .ptr 0 0),(1, .fn (.func 157) [] [.ptr 2 0]),(4,ib (16+(d+1):Nat))] 27) (zaw 20 220 (gP ph q') [.row (zaC 20 1 q') 106 0, .row (flatI (rcP ph 20) 0 q'.v.rs) 66 10, .row [.ptr 0 0] 107 0])->
    Weak 3 t s (zag [(0, .ptr 0 0),(1, .fn (.func 157) [] [.ptr 2 0]),(4,ib (16+(d+1):Nat))] 27) (zaw 20 220 (gP ph (it (zaO f) p (d+1))) [.row (zaC 20 1 (it (zaO f) p (d+1))) 106 0, .row (flatI (rcP ph 20) 0 (it (zaO f) p (d+1)).v.rs) 66 10, .row [.ptr 0 0] 107 0]):=λhe hw=>by rw[hst,he];exact hw
  refine Ex.go ?_;refine yPX (λh=> ?_) (λh=> ?_)
  ·have hltq:16+d<q.v.rs.length:=zo
   have hd0:(0:Int)<=((16+d:Nat):Int)/\((16+d:Nat):Int)<(q.v.rs.length:Nat):=⟨zo,zo⟩
   have hoff:0+((16+d:Nat):Int).toNat*10=(16+d)*10:=by rw[yrX,ylX]
   have hls:zaO f q d=if own (at_ Rc.o q.v.rs (16+d)) then f q (16+d) else q:=by unfold zaO;rw[zae]
   obtain⟨ob,hob⟩:∃b,own (at_ Rc.o q.v.rs (16+d))=b:=⟨_,rfl⟩
   have hown:=zhO (at_ Rc.o q.v.rs (16+d));rw[hob] at hown hls
   (conv=>whnf);repeat(first|refine Need.mk ?_ ?_;exact hd0|refine RK.of (zch (zab ph 20) Rc.o hoff rfl rfl hltq rfl) ?_|refine yoY ([]) (hown) (zgq) ?_);conv=>whnf
   cases ob
   ·refine Ex.go ?_;refine⟨d+1,zo,by dsimp only;omega,stay (q':=q) (by rw[hls];rfl) ?_⟩
    (exact Ex.wG [0,1,2] [] [] (⟨pQ rfl rfl,rQ hq96,⟨rfl,rfl,yzX (zbw ⟨rfl,rfl⟩)⟩,zT⟩))
   ·have hls2:zaO f q d=f q (16+d):=by rw[hls];rfl
    have hIs2:=hIs zo;rw[hls2] at hIs2
    have hf96:(f q (16+d)).v.rs.length<=96:=by rw[hIn _ _ hIs2];exact hn
    have hcl2:=hcl d q zo hId hob
    (conv=>whnf);repeat(first|refine ypY [0,1,2] (.tup []) [.row (zaC 220 1 (f q (16+d))) 106 0, .row (flatI (rcP ph 220) 0 ((f q (16+d))).v.rs) 66 10, .row [.ptr 0 0] 107 0] (hcl2) (⟨pF FR.G ⟨rfl,rfl⟩,rF FR.G hq96,⟨rfl,rfl,yzX (zbw ⟨rfl,rfl⟩)⟩,zT⟩) (⟨⟨rfl,rfl, .inl (zbg rfl)⟩,⟨rfl,rfl, .inl (zaE hf96)⟩,⟨rfl,rfl, .inl (zpg rfl)⟩,zT⟩) ?_ (hargs:=by((repeat' first|exact zT|exact rfl|refine zA ?_ ?_))) (h1:=(by unfold Rn Rnl;trivial))|refine Ex.g ?_);conv=>whnf
    refine⟨d+1,zo,by dsimp only;omega,stay hls2 ?_⟩
    (exact Ex.wG [0,1,2] [] [] (⟨pQ rfl rfl,rQ hf96,⟨rfl,rfl,yzX (zbw ⟨rfl,rfl⟩)⟩,zT⟩))
  ·conv=>whnf
   rw[←hfin zo];refine⟨?_⟩
   (exact Ex.wG [0,1,2] [] [] (⟨pQ rfl rfl,rQ hq96,⟨rfl,rfl,yzX (zbw ⟨rfl,rfl⟩)⟩,zT⟩))
theorem zvD (n:Nat) (ph:Bool) (q:Ck.Rp) (i:Nat) (hf:Rf n q) (hn:n<=96) (hi:i<n) (hb:q.fd.length<=500000) (hns:(at_ Rc.o q.v.rs i).ns.length<=100000):HG Tryz.prog 3 20 220 157 [ib (i:Nat), .ptr 2 0] (gP ph q) [.row (zaC 20 1 q) 106 0, .row (flatI (rcP ph 20) 0 q.v.rs) 66 10, .row [.ptr 0 0] 107 0] (.tup [])
   (gP ph (zb2 q i)) [.row (zaC 20 1 (zb2 q i)) 106 0, .row (flatI (rcP ph 20) 0 (zb2 q i).v.rs) 66 10, .row [.ptr 0 0] 107 0]:=by
 have hqn:=hf.n;have hq96:q.v.rs.length<=96:=zo;have hlt:i<q.v.rs.length:=zo
 have hls:zb2 q i=if(at_ Rc.o q.v.rs i).ln≠(at_ Rc.o q.v.rs i).ns.length then(q.note 8 i 0).setR i {at_ Rc.o q.v.rs i with ln:=(at_ Rc.o q.v.rs i).ns.length} else q:=by unfold zb2;simp only[zae]
 have hd0:(0:Int)<=(i:Nat)/\((i:Nat):Int)<(q.v.rs.length:Nat):=⟨zo,zo⟩
 have hd1:(0:Int)<=(i:Nat)/\((i:Nat):Int)<((q.note 8 i 0).v.rs.length:Nat):=hd0
 have h7:0+((i:Nat):Int).toNat*10+7=i*10+7:=by simp
 have h5:0+((i:Nat):Int).toNat*10+5=i*10+5:=by simp
 refine HG.of zal zo ?_
 (conv=>whnf);repeat(first|refine Need.mk ?_ ?_;exact hd0|refine RK.of (zam (zab ph 20) Rc.o (k:=7) h7 rfl rfl hlt (by decide) rfl) ?_|refine RK.of (zam (zab ph 20) Rc.o (k:=5) h5 rfl rfl hlt (by decide) rfl) ?_);conv=>whnf
 by_cases hl:(at_ Rc.o q.v.rs i).ln=(at_ Rc.o q.v.rs i).ns.length
 ·have hls2:zb2 q i=q:=by rw[hls,yfX (by simp[hl])]
  rw[hls2]
  (conv=>whnf);repeat((refine KIf.f (yqX Bool.not (ybX hl)) ?_;conv=>whnf))
  refine⟨?_⟩
  (exact Ex.wG [0,1,2] [] [] (⟨pQ rfl rfl,rQ hq96,⟨rfl,rfl,yzX (zbw ⟨rfl,rfl⟩)⟩,zT⟩))
 ·have hls2:zb2 q i=(q.note 8 i 0).setR i {at_ Rc.o q.v.rs i with ln:=(at_ Rc.o q.v.rs i).ns.length}:=by rw[hls,ygX hl]
  rw[hls2]
  (conv=>whnf);repeat(first|refine Need.mk ?_ ?_;exact hd1|refine KIf.t (yqX Bool.not (ycX hl)) ?_|refine Ck.cG (p':=(q.note 8 i 0)) (zdb ph q 8 i 0 hq96 hf.fl zo) hq96 hq96 ?_|refine zaV (zab ph 220) Rc.o (k:=5) [ib (at_ Rc.o q.v.rs i).ns.length] (rcP ph 220 i {at_ Rc.o q.v.rs i with ln:=(at_ Rc.o q.v.rs i).ns.length}) h5 rfl rfl rfl rfl rfl rfl hlt (by decide) rfl ?_);conv=>whnf
  refine⟨?_⟩;refine yCX [0,1,2] [] [] rfl rfl rfl rfl ?_ ?_ ?_ ?_
  ·refine⟨⟨rfl,rfl,yzX (zjz (p:=q.note 8 i 0) FR.G ⟨rfl,rfl⟩ ⟨rfl,rfl,yoX,rfl,rfl⟩ ⟨rfl,rfl⟩)⟩,⟨rfl,rfl,yzX (zaI (i:=i) hq96 yoX (λk hk=>zap _ _ _ _ _ (Ne.symm hk)) zN ?_)⟩,⟨rfl,rfl,yzX (zbw ⟨rfl,rfl⟩)⟩,zT⟩;show WL _ _ _ (rcP ph 20 i (at_ Rc.o (q.v.rs.set i _) i)) _;rw[zaj _ _ _ _ hlt];exact zit FR.G zo
  ·exact λj o1 h _=>⟨(ywZ (zc4 (p:=q.note 8 i 0) (i:=i) (x:={at_ Rc.o q.v.rs i with ln:=(at_ Rc.o q.v.rs i).ns.length}) ⟨rfl,rfl⟩) j).symm.trans h,yQX _ _ j o1 h⟩
  ·exact zN
  ·(repeat' first|exact zT|refine zA ?_ ?_)
theorem zvC (n:Nat) (ph:Bool) (p:Ck.Rp) (hf:Rf n p) (hn:n<=96) (hb:p.fd.length<=400000) (hns:NsOk p):HG Tryz.prog 2 20 220 111 [.ptr 0 0] (gP ph p) [.row (zaC 20 1 p) 106 0, .row (flatI (rcP ph 20) 0 p.v.rs) 66 10] (.tup [])
  (gP ph (links p)) [.row (zaC 20 1 (links p)) 106 0, .row (flatI (rcP ph 20) 0 (links p).v.rs) 66 10]:=by
 have hp96:p.v.rs.length<=96:=by rw[hf.n];exact hn
 have hI:=zjS hf hns;have hbl:=zr1 n ph zb2 p (λj q=>Rf n q/\q.fd.length<=p.fd.length+j/\NsOk q) hn hI (λj q h=>h.1.n) (λj q hj h _=>zvD n ph q (16+j) h.1 hn hj (by have:=h.2.1;omega) (ns_at h.2.2 _))
 have hl96:(links p).v.rs.length<=96:=by
  have:=(hI (n-16) (yhX _)).1.n;unfold links below;rw[hf.n,this];exact hn
 refine HG.of zal zo ?_
 (conv=>whnf);repeat((refine ypY [0,1,220] (.tup []) [.row (zaC 221 1 (links p)) 106 0, .row (flatI (rcP ph 221) 0 ((links p)).v.rs) 66 10, .row [.ptr 0 0] 107 0] (hbl) (⟨pF FR.G ⟨rfl,rfl⟩,rF FR.G hp96,⟨rfl,rfl,yzX (zbw ⟨rfl,rfl⟩)⟩,zT⟩) (⟨⟨rfl,rfl, .inl (zbg rfl)⟩,⟨rfl,rfl, .inl (zaE hl96)⟩,⟨rfl,rfl, .inl (zpg rfl)⟩,zT⟩) ?_ (hargs:=by((repeat' first|exact zT|exact rfl|refine zA ?_ ?_))) (h1:=(by unfold Rn Rnl;trivial));conv=>whnf))
 refine⟨?_⟩
 (exact Ex.wG [0,1] [] [] (⟨pQ rfl rfl,rQ hl96,zT⟩))
end Go.Proofs.YtgcjejajljhnaaaGreatDoor
namespace Ck
open Go Go.Ex
def zih (g:Nat->Option AO) (j:Nat):Option AO:=if j=192∨j=193 then none else g j
theorem zev {g:Nat->Option AO} {j:Nat} (h1:j≠192) (h2:j≠193):zih g j=g j:=yfX zo
theorem zba {ph:Bool} {p:Rp}:∀j o,zih (gP ph p) j=some o->zaZ o:=λj o h=>by
 unfold zih at h;split at h
 ·cases h
 ·exact yQX _ _ j o h
def ziB (k a b:Nat) (p:Rp):List AV:=[ib p.v.c,LS 2 zaP Run.o p.v.al, .so k 0 p.v.rs.length 0,LS 1 aI 0 p.v.ds,tb p.v.mp, .so a 0 p.fd.length 0, .so b 0 p.fl.length 0]
theorem zfU {R:Nat->Option Nat} {h:T AO} {z:List Nat} {k k0 n m:Nat} (hk:RS R k/\RD R k=k0) (hm:m=n):NmP (RS R) (.so k 0 n 0)/\Wv h z (RD R) (.so k 0 n 0) (.so k0 0 m 0):=by
 refine⟨by unfold NmP;exact hk.1,?_⟩;unfold Wv;exact⟨hk.2.symm,rfl,hm,rfl⟩
theorem zgr {ρ:Nat->Nat} {p:Rp} {k a b k0 a0 b0:Nat} (hk:ρ k=k0) (ha:ρ a=a0) (hb:ρ b=b0):Rnl ρ (ziB k a b p) (ziB k0 a0 b0 p):=by
 unfold ziB;exact yOX Rn.sc (yOX Rn.lst (yOX (by unfold Rn;rw[hk]) (yOX Rn.lst (yOX Rn.sc (yOX (by unfold Rn;rw[ha]) (yOX (by unfold Rn;rw[hb]) Rnl.nil))))))
end Ck
namespace Go.Proofs.YtgcjejajljhnaaaGreatDoor
open Go.Ex Ck
set_option maxRecDepth 100000
set_option maxHeartbeats 4000000
theorem znJ (ph:Bool) (p:Ck.Rp) (k r i:Int) (hn:p.v.rs.length<=96) (hl:p.fl.length=p.fd.length) (hb:p.fd.length<=1000000):HK Tryz.prog 2 144 [.ptr 200 0,ib k,ib r,ib i] (gP ph p) [.row (zaC 0 201 p) 106 0, .row (flatI (rcP ph 0) 0 p.v.rs) 66 10] (.tup [])
  (zih (gP ph p)) [.row (ziB 201 202 203 (p.note k r i)) 106 0, .row (flatI (rcP ph 0) 0 p.v.rs) 66 10, .row ((p.note k r i).fd.flatMap aFd) 86 3, .row ((p.note k r i).fl.map ib) 3 1]:=by
 have hfd:(p.note k r i).fd=p.fd++[⟨k,r,i⟩]:=rfl;have hfl:(p.note k r i).fl=p.fl++[-1]:=rfl;refine HK.of zal zo ?_
 by_cases h0:p.fd=[]
 ·have hl0:p.fl=[]:=yeX (by rw[hl,h0];rfl)
  have e1:slF 0 p.fd= .sc (.slice none 0 0):=by rw[h0];rfl
  have e2:slL 0 p.fl= .sc (.slice none 0 0):=by rw[hl0];rfl
  (conv=>whnf);repeat(first|refine Ex.g ?_|rw[e1]|rw[e2]);conv=>whnf
  refine⟨?_⟩;refine y7Y [200,201,221,223] [] rfl rfl rfl rfl ?_ ?_ ?_
  ·refine⟨⟨rfl,rfl,yzX (WL.sc rfl (WL.sc rfl (ywX (zfU ⟨rfl,rfl⟩ rfl) (WL.sc rfl (WL.sc rfl (ywX (zfU ⟨rfl,rfl⟩ (by rw[hfd,h0];rfl)) (ywX (zfU ⟨rfl,rfl⟩ (by rw[hfl,hl0];rfl)) yMX)))))))⟩,rF FR.K hn,⟨rfl,rfl, .same (by rw[hfd,h0];rfl) rfl⟩,⟨rfl,rfl, .same (by rw[hfl,hl0];rfl) rfl⟩,zT⟩
  ·exact λj o1 h=>⟨by unfold zih at h;split at h;cases h;exact h,zba j o1 h⟩
  ·(repeat' first|exact zT|refine zA ?_ ?_)
 ·have hl0:p.fl≠[]:=λe=>h0 (yeX (by rw[←hl,e];rfl));have e1:slF 0 p.fd= .so (fam 0 192) 0 p.fd.length 0:=zgm h0;have e2:slL 0 p.fl= .so (fam 0 193) 0 p.fl.length 0:=zkR hl0
  have hb1:(p.fd.length+1)*24<=2^47/\p.fd.length+1<=2^60:=by constructor<;>omega
  have hb2:(p.fl.length+1)*8<=2^47/\p.fl.length+1<=2^60:=by constructor<;>omega
  (conv=>whnf);repeat(first|refine Need.mk ?_ ?_;(focus(first|exact hb1|exact hb2|exact zn6 _|exact zun _))|rw[e1]|rw[e2]|refine RK.of (zel ((zah zo).trans (zj8 h0))) ?_|refine RK.of (zel ((zah zo).trans ((zbm zo).trans (zrh hl0)))) ?_|rw[zbT (j:=192) (show 192<200-0 by omega)]|rw[zbT (j:=193) (show 193<200-0 by omega)]|refine Ex.g ?_);conv=>whnf
  refine⟨?_⟩;refine y7Y [200,201,221,223] [] rfl rfl rfl rfl ?_ ?_ ?_
  ·refine⟨⟨rfl,rfl,yzX (WL.sc rfl (WL.sc rfl (ywX (zfU ⟨rfl,rfl⟩ rfl) (WL.sc rfl (WL.sc rfl (ywX (zfU ⟨rfl,rfl⟩ (by rw[hfd];simp)) (ywX (zfU ⟨rfl,rfl⟩ (by rw[hfl];simp)) yMX)))))))⟩,rF FR.K hn,⟨rfl,rfl, .same (by rw[hfd,yJX];rfl) (note_ov.nmc (zbW _) rfl)⟩,⟨rfl,rfl, .same (by rw[hfl,yJY];rfl) (note_ov.nmc (zbV _) rfl)⟩,zT⟩
  ·exact λj o1 h=>⟨by unfold zih at h;split at h;cases h;rename_i hne;rw[zbm zo,zbm zo];exact h,zba j o1 h⟩
  ·(repeat' first|exact zT|refine zA ?_ ?_)
end Go.Proofs.YtgcjejajljhnaaaGreatDoor
namespace Ck
open Go Go.Ex
theorem zbO {α:Type} (enc:α->List AV):∀(l:List α) (i:Nat),flatI (λ_ x=>enc x) i l=l.flatMap enc
 |[],_=>rfl
 |x::l,i=>by
  unfold flatI;rw[zbO enc l (i+1),y0X]
theorem zlr {α:Type} (enc:α->List AV) (x':α):∀(l:List α) (i j:Nat),flatI (zfS (λ_ x=>enc x) (i+j) (enc x')) i l=(l.set j x').flatMap enc
 |[],_,_=>rfl
 |x::l,i,0=>by
  unfold flatI;rw[show i+0=i from rfl,zbR,y3Z,y0X]
  congr 1
  have:flatI (zfS (λ_ x=>enc x) i (enc x')) (i+1) l=flatI (λ_ x=>enc x) (i+1) l:=zeX x' l (i+1) (λj _=>zg9 zo _ _);rw[this,zbO]
 |x::l,i,j+1=>by
  unfold flatI;rw[zg9 zo,y4Z,y0X]
  congr 1
  rw[show i+(j+1)=i+1+j by omega];exact zlr enc x' l (i+1) j
section
variable {P : Program} {s : St} {K : KC} {α : Type} {enc : α -> List AV} {sz : Nat}
theorem zcP (hf:∀x,(enc x).length=sz) (o:α) {l:List α} {T:TypeId} {b j off:Nat} {e:TypeId} {q:Nat} (hoff:off=j*sz) (hT:tyS P T= .ok (true,sz)) (hr:s.h.get b=some (.row (l.flatMap enc) e q)) (hj:j<l.length):zcw P s T b off= .ok (.agg (enc (at_ o l j))):=
 zch (f:=λ_ x=>enc x) (λ_ x=>hf x) o hoff hT (by rw[zbO];exact hr) hj rfl
theorem ze4 (hf:∀x,(enc x).length=sz) (o:α) {l:List α} {T:TypeId} {b j k n off:Nat} {v:AV} {e:TypeId} {q:Nat} {a:Bool} (x':α) (hoff:off=j*sz+k) (hn:zeH v=true) (hT:tyS P T= .ok (a,n)) (hl:v.cells.length=n) (h1:∀y∈v.cells,zgW y=true) (hr:s.h.get b=some (.row (l.flatMap enc) e q)) (hj:j<l.length) (hk:k+n<=sz)
  (hc:(enc (at_ o l j)).take k++(v.cells++(enc (at_ o l j)).drop (k+n))=enc x') (hk2:(s.set b (.row ((l.set j x').flatMap enc) e q)).nfK λs=>K AV.undef s):zdQ (zcY P s T (.ptr b off) v) K:=by
 subst hoff
 have hlt:j*sz+sz<=l.length*sz:=by rw[←ybZ];exact yEX _ hj
 refine zdP (zdR (c':=(l.set j x').flatMap enc) hn hT hl h1 hr (by rw[←zbO enc l 0,zbE (λ_ x=>hf x)];omega) ?_) hk2;have:=zlt (f:=λ_ x=>enc x) (λ_ x=>hf x) o hj hk hl hc;rw[zbO] at this;rw[this];have h2:=zlr enc x' l 0 j;rw[ylX] at h2;exact h2
end
theorem zu6 {A i:Nat} {x y:Rc} (h:x.es.length=y.es.length):seE A i x=seE A i y:=by
 unfold seE
 by_cases hx:x.es=[]
 ·have hy:y.es=[]:=yeX (by rw[←h,hx];rfl);rw[ygX hx,ygX hy]
 ·have hy:y.es≠[]:=λe=>hx (yeX (by rw[h,e];rfl));rw[yfX hx,yfX hy,h]
theorem zcD {α:Type} (f:Nat->α->List AV) (o:α):∀(l:List α) (i j:Nat) (x:α),f (i+j) x=f (i+j) (at_ o l j)->flatI f i (l.set j x)=flatI f i l
 |[],_,_,_,_=>rfl
 |y::l,i,0,x,h=>by
  rw[y3Z];unfold flatI;rw[show f i x=f i y from h]
 |y::l,i,j+1,x,h=>by
  rw[y4Z];unfold flatI;rw[zcD f o l (i+1) j x (by rw[show i+1+j=i+(j+1) by omega];exact h)]
theorem zt4 {ph:Bool} {A i:Nat} {x:Rc} {es:List En} (h:es.length=x.es.length):rcP ph A i {x with es:=es}=rcP ph A i x:=by
 unfold rcP;rw[show seE A i {x with es:=es}=seE A i x from zu6 h];rfl
theorem zrg {ph:Bool} {q:Rp} {d:Nat} {es:List En} (hd:d<q.v.rs.length) (h96:d<96) (hne:es≠[]):gP ph (q.setR d {at_ Rc.o q.v.rs d with es:=es})=zpD (gP ph q) (2*d+1) (some (.row (es.flatMap aEn) 73 4)):=by
 funext j
 have hat:at_ Rc.o (q.setR d {at_ Rc.o q.v.rs d with es:=es}).v.rs d={at_ Rc.o q.v.rs d with es:=es}:=zaj _ _ _ _ hd;by_cases h1:j=2*d+1
 ·subst h1;rw[zcF,ygX rfl];have:=zfA (ph:=ph) (p:=q.setR d {at_ Rc.o q.v.rs d with es:=es}) (i:=d) (by show d<(q.v.rs.set _ _).length;rw[yoX];exact hd) h96 (by rw[hat];exact hne);rw[hat] at this;exact this
 ·rw[zbm h1];by_cases h2:j=2*d
  ·subst h2;rw[zcQ zo,zcQ zo];have e:2*d/2=d:=zo;rw[e];show(match(q.v.rs.set d _)[d]? with|none=>none|some x=>_)=_;rw[yzY hd,ysX hd,←zaS Rc.o _ _ hd];have e2:2*d%2=0:=zo;simp only[e2,if_true]
  ·exact ztk (p:=q) (q:=q.setR d {at_ Rc.o q.v.rs d with es:=es}) (i:=d) yoX rfl rfl (λk hk=>zap _ _ _ _ _ (Ne.symm hk)) h2 h1
theorem zud {h:T AO} {z:List Nat} {A a b k0:Nat} {r:List Nat} {q q':Rp} {x:Fd} {y:Int} {l:List Fd} {m:List Int} (hk:RS (RG A [(192,a),(193,b)] r) 1/\RD (RG A [(192,a),(193,b)] r) 1=k0) (hv:q'.v.c=q.v.c/\q'.v.al=q.v.al/\q.v.rs.length=q'.v.rs.length/\q'.v.ds=q.v.ds/\q'.v.mp=q.v.mp)
  (h1:q'.fd=q.fd) (h2:q'.fl=q.fl) (h3:q.fd=l++[x]) (h4:q.fl=m++[y]):WL h z (RG A [(192,a),(193,b)] r) (zaC 20 1 q') (ziB k0 a b q):=by
 unfold zaC ziB;rw[hv.1,hv.2.1,hv.2.2.2.1,hv.2.2.2.2,hv.2.2.1,h1,h2,h3,h4];exact WL.sc rfl (WL.sc rfl (ywX (zgl hk) (WL.sc rfl (WL.sc rfl (ywX (znk (by simp)) (ywX (zp3 (by simp)) yMX))))))
end Ck
namespace Go.Proofs.YtgcjejajljhnaaaGreatDoor
open Go.Ex Ck
set_option maxRecDepth 100000
set_option maxHeartbeats 8000000
theorem znl (x:Rc) (hs:x.ss.length<=100000):PureC Tryz.prog 158 [.agg [.any, .any,ib x.k, .any, .any, .any, .any, .any,LS 2 aSm Sm.o x.ss, .any]] (ib (Ck.sizeOf x)):=by
 unfold Ck.sizeOf;by_cases hk:x.k=1
 ·by_cases hl:0<x.ss.length
  ·have hl':(0:Int)<((x.ss.length:Nat):Int):=zo;rw[ygX ⟨hk,hl⟩];refine ytX zal rfl ?_
   (conv=>whnf);repeat(first|refine KIf.t (ybX hk) ?_|refine KIf.t (ybX hl') ?_|refine Ex.g ?_);conv=>whnf
   refine .z [] ?_;exact ydX rfl
  ·have hl':¬(0:Int)<((x.ss.length:Nat):Int):=zo;rw[yfX (λh=>hl h.2)];refine ytX zal rfl ?_
   (conv=>whnf);repeat(first|refine KIf.t (ybX hk) ?_|refine KIf.f (ycX hl') ?_);conv=>whnf
   refine .z [] ?_;exact ydX rfl
 ·rw[yfX (λh=>hk h.1)];refine ytX zal rfl ?_
  (conv=>whnf);repeat(first|refine KIf.f (ycX hk) ?_|refine Ex.g ?_);conv=>whnf
  refine .z [] ?_;exact ydX rfl
structure LiesS (h:T AO) (z:List Nat) (A:Nat) (ph:Bool) (p:Ck.Rp):Prop where
 z:∀j,j<192->fam A j∈z
 g:∀j,j<192->h.get (fam A j)=gP ph p j
theorem zkM {h:T AO} {z:List Nat} {A i:Nat} {ph:Bool} {p:Ck.Rp} {x:Rc} (H:LiesS h z A ph p) (hi:i<p.v.rs.length) (h96:i<96) (hx:at_ Rc.o p.v.rs i=x):Wzl h z [.agg [.any, .any,ib x.k, .any, .any, .any, .any, .any,LS 2 aSm Sm.o x.ss, .any]] [.agg (rcP ph A i x)]:=by
 subst hx
 have hs:Wz h z (LS 2 aSm Sm.o (at_ Rc.o p.v.rs i).ss) (seS ph A i (at_ Rc.o p.v.rs i)):=by
  unfold seS
  by_cases hs:ph=true∨(at_ Rc.o p.v.rs i).ss=[]
  ·rw[ygX hs];exact ydX rfl
  ·rw[yfX hs]
   have hph:ph=false:=by cases ph with|false=>rfl|true=>exact absurd (.inl rfl) hs
   subst hph;exact zl8 (λ_=>rfl) (λ_=>rfl) ((H.g _ zo).trans (zoZ hi h96 (λe=>hs (.inr e)))) (H.z _ zo) rfl
 exact Wzc (by unfold Wz;exact Wzc Wza (Wzc Wza (Wzc (ydX rfl) (Wzc Wza (Wzc Wza (Wzc Wza (Wzc Wza (Wzc Wza (Wzc hs (Wzc Wza Wzn)))))))))) Wzn
theorem right_in {v:Pt} {r:Ref} (h:Ck.right v r=true):wi r.r 0 (v.rs.length-1)=true/\r.r.toNat<v.rs.length/\own (at_ Rc.o v.rs r.r.toNat)=true:=by
 unfold Ck.right at h;simp only[ykX] at h;have:=h.1.1;refine⟨this,?_,h.1.2⟩;simp[wi] at this;omega
theorem zwX {ph:Bool} {A:Nat} {v:Pt} {r:Ref} (h:Ck.right v r=true):rgC ph A v r=rcP ph A r.r.toNat (at_ Rc.o v.rs r.r.toNat):=ygX (right_in h).1
theorem zuX (n:Nat) (ph:Bool) (p:Ck.Rp) (hf:Rg n p) (hn:n<=96) (hb:p.fd.length<=450000):HG Tryz.prog 2 20 220 112 [.ptr 0 0] (gP ph p) [.row (zaC 20 1 p) 106 0, .row (flatI (rcP ph 20) 0 p.v.rs) 66 10] (.tup [])
  (gP ph (sizes p)) [.row (zaC 20 1 (sizes p)) 106 0, .row (flatI (rcP ph 20) 0 (sizes p).v.rs) 66 10]:=by
 have hpn:p.v.rs.length=n:=hf.rf.n;have h96:p.v.rs.length<=96:=zo
 obtain⟨B,hB⟩:∃B,B=1000:=⟨_,rfl⟩
 subst hpn;refine HG.of zal zo ?_;refine Ex.go ?_;refine Ex.wl p.v.rs.length (λd=>zag [(0, .ptr 0 0),(12, .so 1 0 p.v.rs.length 0),(13,ib p.v.rs.length),(14,ib d)] 61) (λd=>zaw 20 220 (gP ph (it zai p d)) [.row (zaC 20 1 (it zai p d)) 106 0, .row (flatI (rcP ph 20) 0 (it zai p d).v.rs) 66 10]) ?_ ?_
 ·(exact Ex.wG [0,1] [] [] (⟨pQ rfl rfl,rQ h96,zT⟩))
 ·intro d hd;obtain⟨h1,h2⟩:=ze8 hB hf d hd;have hst:it zai p (d+1)=zai (it zai p d) d:=rfl
  have hfin:d=p.v.rs.length->it zai p d=sizes p:=λe=>by rw[e];rfl
  have hmul:d*B<=96*B:=yEX _ zo
  generalize it zai p d=q0 at*
  have hqn:q0.v.rs.length=p.v.rs.length:=h1.rf.n;have hq96:q0.v.rs.length<=96:=zo
  have stay:∀{t:Tm} {s:St} {q':Ck.Rp},zai q0 d=q'->Weak 2 t s (zag [(0, .ptr 0 0),(12, .so 1 0 p.v.rs.length 0),(13,ib p.v.rs.length),(14,ib (d+1:Nat))] 61) (zaw 20 220 (gP ph q') [.row (zaC 20 1 q') 106 0, .row (flatI (rcP ph 20) 0 q'.v.rs) 66 10])->
    Weak 2 t s (zag [(0, .ptr 0 0),(12, .so 1 0 p.v.rs.length 0),(13,ib p.v.rs.length),(14,ib (d+1:Nat))] 61) (zaw 20 220 (gP ph (it zai p (d+1))) [.row (zaC 20 1 (it zai p (d+1))) 106 0, .row (flatI (rcP ph 20) 0 (it zai p (d+1)).v.rs) 66 10]):=λhe hw=>by rw[hst,he];exact hw
  refine Ex.go ?_;refine yPX (λh=> ?_) (λh=> ?_)
  ·have hltp:d<p.v.rs.length:=zo;have hltq:d<q0.v.rs.length:=zo
   have hoff:0+((d:Nat):Int).toNat*10=d*10:=by simp
   have hls:zai q0 d=if dir (at_ Rc.o q0.v.rs d) then it (zak d) q0 (at_ Rc.o q0.v.rs d).es.length else q0:=by unfold zai;simp only[zae]
   obtain⟨ob,hob⟩:∃b,dir (at_ Rc.o q0.v.rs d)=b:=⟨_,rfl⟩
   have hdir:=zmD (at_ Rc.o q0.v.rs d);rw[hob] at hdir hls
   (conv=>whnf);repeat(first|refine RK.of (zch (zab ph 20) Rc.o hoff rfl rfl hltq rfl) ?_|refine zct rfl rfl rfl rfl ?_|refine yoY ([]) (hdir) (zgq) ?_|refine Ex.g ?_);conv=>whnf
   cases ob
   ·refine Ex.go ?_;refine⟨d+1,zo,by dsimp only;omega,stay (q':=q0) (by rw[hls];rfl) ?_⟩
    (exact Ex.wG [0,1] [] [] (⟨pQ rfl rfl,rQ hq96,zT⟩))
   ·have hls2:zai q0 d=it (zak d) q0 (at_ Rc.o q0.v.rs d).es.length:=by rw[hls];rfl
    by_cases he0:(at_ Rc.o q0.v.rs d).es=[]
    ·have e1:seE 20 d (at_ Rc.o q0.v.rs d)=LS 4 aEn En.o []:=zbM he0
     have hls3:zai q0 d=q0:=by rw[hls2,he0];rfl
     (conv=>whnf);repeat(first|rw[e1]|refine Ex.g ?_);conv=>whnf
     refine yFX zal (D:=Unit) (λ_=>0) (λ_=>True) (λ_=>zag [(0, .ptr 0 0),(12, .so 1 0 p.v.rs.length 0),(13,ib p.v.rs.length),(14,ib d),(24,ib (0:Nat)),(25,ib (0:Nat))] 61)
      (λ_=>zaw 20 220 (gP ph q0) [.row (zaC 20 1 q0) 106 0, .row (flatI (rcP ph 20) 0 q0.v.rs) 66 10]) () trivial ?_ ?_
     ·(exact Ex.wG [0,1] [] [] (⟨pQ rfl rfl,rQ hq96,zT⟩))
     ·intro _ _
      (conv=>whnf);repeat(((refine Ex.g ?_;conv=>whnf)))
      refine⟨d+1,zo,by dsimp only;omega,stay hls3 ?_⟩
      (exact Ex.wG [0,1] [] [] (⟨pQ rfl rfl,rQ hq96,zT⟩))
    ·have e1:seE 20 d (at_ Rc.o q0.v.rs d)= .so (fam 20 (2*d+1)) 0 (at_ Rc.o q0.v.rs d).es.length 0:=zbB he0;have h9:2*d+1<200:=zo;have hd96:d<96:=zo
     (conv=>whnf);repeat(first|rw[e1]|refine Ex.g ?_);conv=>whnf
     have hin:=zjd h1 hltp;have hL:(at_ Rc.o q0.v.rs d).es.length<=1000:=(h1.at hltp).2
     obtain⟨x0,hx0⟩:∃x,at_ Rc.o q0.v.rs d=x:=⟨_,rfl⟩
     rw[hx0] at e1 hls2 he0 hin hL⊢;refine Ex.wl x0.es.length (λk=>zag [(0, .ptr 0 0),(2,ib d),(3, .ptr 2 0),(12, .so 1 0 p.v.rs.length 0),(13,ib p.v.rs.length),(14,ib d),(23, .so (fam 20 (2*d+1)) 0 x0.es.length 0),(24,ib x0.es.length),(25,ib k)] 61) (λk=>zaw 20 220 (gP ph (it (zak d) q0 k)) [.row (zaC 20 1 (it (zak d) q0 k)) 106 0, .row (flatI (rcP ph 20) 0 (it (zak d) q0 k).v.rs) 66 10, .row (rcP ph 20 d x0) 66 0]) ?_ ?_
     ·refine yCX [0,1,220] [] [] rfl rfl rfl rfl ?_ ?_ ?_ ?_
      ·exact⟨pQ rfl rfl,rQ hq96,⟨rfl,rfl,yzX (zcv hd96 zN)⟩,zT⟩
      ·exact gQ
      ·exact zN
      ·(repeat' first|exact zT|exact zio h9 zN|exact rfl|refine zA ?_ ?_)
     ·intro k hk;obtain⟨h3,h4,h5⟩:=hin k;have hst2:it (zak d) q0 (k+1)=zak d (it (zak d) q0 k) k:=rfl
      have hfin2:k=x0.es.length->it (zak d) q0 k=zai q0 d:=λe=>by rw[hls2,e]
      generalize it (zak d) q0 k=q at*
      have hqqn:q.v.rs.length=p.v.rs.length:=h3.rf.n;have hqq96:q.v.rs.length<=96:=zo;have hqd:d<q.v.rs.length:=zo;have hne:(at_ Rc.o q.v.rs d).es≠[]:=λe=>he0 (yeX (by rw[←h5,e];rfl));have hge:gP ph q (2*d+1)=some (.row ((at_ Rc.o q.v.rs d).es.flatMap aEn) 73 4):=zfA hqd hd96 hne
      have stay2:∀{t:Tm} {s:St} {q':Ck.Rp},zak d q k=q'->Weak 2 t s (zag [(0, .ptr 0 0),(2,ib d),(3, .ptr 2 0),(12, .so 1 0 p.v.rs.length 0),(13,ib p.v.rs.length),(14,ib d),(23, .so (fam 20 (2*d+1)) 0 x0.es.length 0),(24,ib x0.es.length),(25,ib (k+1:Nat))] 61) (zaw 20 220 (gP ph q') [.row (zaC 20 1 q') 106 0, .row (flatI (rcP ph 20) 0 q'.v.rs) 66 10, .row (rcP ph 20 d x0) 66 0])->
       Weak 2 t s (zag [(0, .ptr 0 0),(2,ib d),(3, .ptr 2 0),(12, .so 1 0 p.v.rs.length 0),(13,ib p.v.rs.length),(14,ib d),(23, .so (fam 20 (2*d+1)) 0 x0.es.length 0),(24,ib x0.es.length),(25,ib (k+1:Nat))] 61) (zaw 20 220 (gP ph (it (zak d) q0 (k+1))) [.row (zaC 20 1 (it (zak d) q0 (k+1))) 106 0, .row (flatI (rcP ph 20) 0 (it (zak d) q0 (k+1)).v.rs) 66 10, .row (rcP ph 20 d x0) 66 0]):=λhe hw=>by rw[hst2,he];exact hw
      refine Ex.go ?_;refine yPX (λhkl=> ?_) (λhkl=> ?_)
      ·have hkx:k<(at_ Rc.o q.v.rs d).es.length:=by rw[h5];omega
       have hk0:(0:Int)<=(k:Nat)/\((k:Nat):Int)<(x0.es.length:Nat):=⟨zo,zo⟩
       have hoffk:0+((k:Nat):Int).toNat*4=k*4:=by simp
       have hss:zak d q k=if right q.v (at_ En.o (at_ Rc.o q.v.rs d).es k).f&&(at_ En.o (at_ Rc.o q.v.rs d).es k).z !=Ck.sizeOf (at_ Rc.o q.v.rs (at_ En.o (at_ Rc.o q.v.rs d).es k).f.r.toNat) then(q.note 9 d k).setR d {at_ Rc.o q.v.rs d with es:=(at_ Rc.o q.v.rs d).es.set k {at_ En.o (at_ Rc.o q.v.rs d).es k with z:=Ck.sizeOf (at_ Rc.o q.v.rs (at_ En.o (at_ Rc.o q.v.rs d).es k).f.r.toNat)}} else q:=by
        unfold zak;simp only[zae];rfl
       obtain⟨x,hx⟩:∃x,at_ En.o (at_ Rc.o q.v.rs d).es k=x:=⟨_,rfl⟩
       rw[hx] at hss
       obtain⟨ob2,hob2⟩:∃b,right q.v x.f=b:=⟨_,rfl⟩
       rw[hob2] at hss
       have hq2:q.v.rs.length=p.v.rs.length/\p.v.rs.length<=96:=⟨hqqn,h96⟩
       (conv=>whnf);repeat(first|refine Need.mk ?_ ?_;exact hk0|refine RK.of (zcP (enc:=aEn) (sz:=4) (λ_=>rfl) En.o hoffk rfl ((zah (show 2*d+1<220-20 from h9)).trans hge) hkx) ?_|rw[hx]|refine DCall.lK [1] (.tup [.agg (rgC ph 20 q.v x.f),bb ob2]) [.row (flatI (rcP ph 20) 0 q.v.rs) 66 10] (zjm ph q x.f hob2 ⟨rfl,hqq96⟩) (⟨rF FR.L hqq96,zT⟩) (⟨⟨rfl,rfl, .inl (zcm FN.L hqq96)⟩,zT⟩) ?_ (hargs:=by((repeat' first|exact zT|exact rfl|(intro _ _;exact rfl)|refine zA ?_ ?_))) (h1:=zpF (zvb FN.L hqq96))|refine zeh (c':=rgC ph 20 q.v x.f) rfl rfl (zmi _ _ _ _) (zmh _ _ _ _) rfl rfl ?_|refine Ex.g ?_);conv=>whnf
       cases ob2
       ·have hss2:zak d q k=q:=by rw[hss];rfl
        (conv=>whnf);repeat(((refine Ex.g ?_;conv=>whnf)))
        refine⟨k+1,zo,by dsimp only;omega,stay2 (q':=q) hss2 ?_⟩
        (exact Ex.wG [0,1,2] [] [] ⟨pQ rfl rfl,rQ hqq96,⟨rfl,rfl,yzX (zcv hd96 zN)⟩,zT⟩ (hsl:=by(repeat' first|exact zT|exact zio h9 zN|exact rfl|refine zA ?_ ?_)))
       ·have hrg:rgC ph 20 q.v x.f=rcP ph 20 x.f.r.toNat (at_ Rc.o q.v.rs x.f.r.toNat):=zwX hob2
        obtain⟨y,hy⟩:∃y,at_ Rc.o q.v.rs x.f.r.toNat=y:=⟨_,rfl⟩
        rw[hy] at hss hrg;have hxl:=(right_in hob2).2.1;have hx96:x.f.r.toNat<96:=zo;have hsz:=znl y (by rw[←hy];exact(h3.at (by rw[←hqqn];exact(right_in hob2).2.1)).1);by_cases hz:x.z=Ck.sizeOf y
        ·have hss2:zak d q k=q:=by rw[hss];simp[hz]
         (conv=>whnf);repeat(first|rw[hrg]|refine yRY (zF 20 []) (hsz) (zkM (LiesS.mk (λj hj=>za3 (y1Y hj (by decide))) (λj hj=>zah (show j<220-20 from y1Y hj (by decide)))) hxl hx96 hy) ?_|refine KIf.f (yqX Bool.not (ybX hz)) ?_|refine Ex.g ?_);conv=>whnf
         refine⟨k+1,zo,by dsimp only;omega,stay2 (q':=q) hss2 ?_⟩
         (exact Ex.wG [0,1,2] [] [] ⟨pQ rfl rfl,rQ hqq96,⟨rfl,rfl,yzX (zcv hd96 zN)⟩,zT⟩ (hsl:=by(repeat' first|exact zT|exact zio h9 zN|exact rfl|refine zA ?_ ?_)))
        ·have hss2:zak d q k=(q.note 9 d k).setR d {at_ Rc.o q.v.rs d with es:=(at_ Rc.o q.v.rs d).es.set k {x with z:=Ck.sizeOf y}}:=by rw[hss];simp[hz]
         have hb9:q.fd.length<=1000000:=zo
         have hoff3:0+((k:Nat):Int).toNat*4+3=k*4+3:=by simp
         have hgh:zih (gP ph q) (2*d+1)=some (.row ((at_ Rc.o q.v.rs d).es.flatMap aEn) 73 4):=(zev zo zo).trans hge
         (conv=>whnf);repeat(first|refine Need.mk ?_ ?_;exact hk0|rw[hrg]|refine yRY (zF 20 []) (hsz) (zkM (LiesS.mk (λj hj=>za3 (y1Y hj (by decide))) (λj hj=>zah (show j<220-20 from y1Y hj (by decide)))) hxl hx96 hy) ?_|refine yRY (zF 20 []) (hsz) (zkM (LiesS.mk (λj hj=>za3 (y1Y hj (by decide))) (λj hj=>(zah (show j<220-20 from y1Y hj (by decide))).trans (zev (Nat.ne_of_lt hj) (Nat.ne_of_lt (y1Y hj (by decide)))))) hxl hx96 hy) ?_|refine KIf.t (yqX Bool.not (ycX hz)) ?_|refine yBZ [0,1] (.tup []) [.row (ziB 1 241 242 (q.note 9 d k)) 106 0, .row (flatI (rcP ph 20) 0 (q).v.rs) 66 10, .row (((q.note 9 d k)).fd.flatMap aFd) 86 3, .row (((q.note 9 d k)).fl.map ib) 3 1] (znJ ph q 9 d k hqq96 h3.rf.fl hb9) rfl (yQX _ _) zba ?_ ?_ ?_ ?_;exact⟨pF FR.L ⟨rfl,rfl⟩,rF FR.L hqq96,zT⟩;(focus((repeat' first|exact zT|exact rfl|refine zA ?_ ?_)));exact⟨(by unfold Rn Rnl;trivial),rfl,⟨rfl,rfl, .inl (zgr rfl rfl rfl)⟩,⟨rfl,rfl, .inl (zcm FN.L hqq96)⟩,⟨rfl,rfl, .inr ⟨rfl,zbW _⟩⟩,⟨rfl,rfl, .inr ⟨rfl,zbV _⟩⟩,zT⟩|rw[e1]|refine ze4 (enc:=aEn) (sz:=4) (λ_=>rfl) En.o (k:=3) {x with z:=Ck.sizeOf y} hoff3 rfl rfl rfl (λy hy=>by rcases yiX.1 hy with rfl;rfl) ((zah (show 2*d+1<220-20 from h9)).trans hgh) hkx (by decide) (by rw[hx];rfl) ?_;(conv=>whnf);rw[zbT (j:=2*d+1) (show 2*d+1<220-20 from h9)]|refine Ex.g ?_);conv=>whnf
         have hp2:∀p∈[(192,241),(193,242)],2*d≠p.1/\2*d+1≠p.1:=by simp;omega
         have hp1:∀p∈[(192,241),(193,242)],2*d+1≠p.1:=λp hp=>(hp2 p hp).2
         have hp3:∀p∈[(192,241),(193,242)],191<p.1:=by simp
         obtain⟨es',hes⟩:∃es',(at_ Rc.o q.v.rs d).es.set k {x with z:=Ck.sizeOf y}=es':=⟨_,rfl⟩
         have hesl:es'.length=(at_ Rc.o q.v.rs d).es.length:=by rw[←hes];exact yoX
         have hesn:es'≠[]:=λe=>by rw[e] at hesl;exact hne (yeX hesl.symm)
         rw[hes] at hss2⊢;have hgs:=zrg (ph:=ph) (q:=q.note 9 d k) (d:=d) (es:=es') hqd hd96 hesn;refine⟨k+1,zo,by dsimp only;omega,stay2 hss2 ?_⟩;refine yCX [0,1,2] [] [(192,241),(193,242)] rfl rfl rfl rfl ?_ ?_ ?_ ?_
         ·refine⟨⟨rfl,rfl,yzX (zud ⟨rfl,rfl⟩ ⟨rfl,rfl,(yoX).symm,rfl,rfl⟩ rfl rfl rfl rfl)⟩,⟨rfl,rfl,?_⟩,⟨rfl,rfl,yzX (zcv hd96 hp2)⟩,zT⟩;show WRowG _ _ _ (flatI (rcP ph 20) 0 (q.v.rs.set d _)) _;rw[zcD (rcP ph 20) Rc.o q.v.rs 0 d _ (by rw[ylX];exact zt4 hesl)];exact yzX (zb3 hqq96 hp3)
         ·intro j o1 ho hj;have e1:j≠192:=hj (192,241) (by simp);have e2:j≠193:=hj (193,242) (by simp);refine⟨?_,yQX _ _ j o1 ho⟩;rw[←ho];refine Eq.trans ?_ (ywZ hgs j).symm;by_cases h1:j=2*d+1
          ·rw[zcF,zcF,ygX h1,ygX h1]
          ·rw[zbm h1,zbm h1,zev e1 e2];exact(zj7 (ph:=ph) (p:=q) (q:=q.note 9 d k) rfl e1 e2).symm
         ·intro p9 hp9 o1 ho;refine note_ov (ph:=ph) (p:=q) (k:=9) (r0:=d) (i:=k) rfl (yJX ..) rfl (yJY ..) p9 hp9 o1 ?_;rw[←ho];refine Eq.trans ?_ (ywZ hgs _).symm;rw[zbm (hp1 p9 hp9).symm]
         ·(repeat' first|exact zT|exact zio h9 hp1|exact rfl|refine zA ?_ ?_)
      ·(conv=>whnf);repeat(((refine Ex.g ?_;conv=>whnf)))
       refine⟨d+1,zo,by dsimp only;omega,stay (q':=q) ((hfin2 zo).symm) ?_⟩
       (exact Ex.wG [0,1] [] [] (⟨pQ rfl rfl,rQ hqq96,zT⟩))
  ·conv=>whnf
   rw[←hfin zo];refine⟨?_⟩
   (exact Ex.wG [0,1] [] [] (⟨pQ rfl rfl,rQ hq96,zT⟩))
end Go.Proofs.YtgcjejajljhnaaaGreatDoor
namespace Ck
open Go Go.Ex
theorem zwu (a b:UInt8):zfH .xor .u8 (a.toNat:Int) (b.toNat:Int)=((a^^^b).toNat:Int):=by
 have ha:BitVec.ofInt 8 (a.toNat:Int)=a.toBitVec:=by rw[BitVec.ofInt_natCast];exact BitVec.ofNat_toNat _ _▸by simp
 have hb:BitVec.ofInt 8 (b.toNat:Int)=b.toBitVec:=by rw[BitVec.ofInt_natCast];exact BitVec.ofNat_toNat _ _▸by simp
 have hl:(a^^^b).toNat<256:=(a^^^b).toNat_lt;show IntKind.u8.wrap (((BitVec.ofInt 8 (a.toNat:Int)^^^BitVec.ofInt 8 (b.toNat:Int)).toNat:Nat):Int)=_;rw[ha,hb];show IntKind.u8.wrap (((a^^^b).toNat:Nat):Int)=_
 have key:∀x:Fin 256,IntKind.u8.wrap ((x.1:Nat):Int)=x.1:=by decide+kernel
 exact key ⟨_,hl⟩
theorem zxe (a:UInt8) (k:Nat) (hk:k<8):zfH .and .u8 (zoy .u8 (a.toNat:Int) (k:Int)) 1=((a.toNat/2^k%2:Nat):Int):=by
 have key:∀k:Fin 8,∀a:Fin 256,zfH .and .u8 (zoy .u8 ((a:Nat):Int) ((k:Nat):Int)) 1=((a.1/2^k.1%2:Nat):Int):=by decide+kernel
 exact key ⟨k,hk⟩ ⟨a.toNat,a.toNat_lt⟩
theorem zuH (a b k:Nat):(a^^^b)/2^k%2=1↔a/2^k%2≠b/2^k%2:=by
 have h:=Nat.testBit_xor a b k;rw[yfY,yfY,yfY] at h;have h1:a/2^k%2<2:=Nat.mod_lt _ zo;have h2:b/2^k%2<2:=Nat.mod_lt _ zo
 generalize a/2^k%2=x at*
 generalize b/2^k%2=y at*
 generalize (a^^^b)/2^k%2=z at*
 have hx:x=0∨x=1:=zo;have hy:y=0∨y=1:=zo
 rcases hx with rfl|rfl<;>rcases hy with rfl|rfl<;>simp at h⊢<;>omega
theorem zxG (a b:UInt8) (k:Nat) (hk:k<8):zfH .and .u8 (zoy .u8 (zfH .xor .u8 (a.toNat:Int) (b.toNat:Int)) (k:Int)) 1=1↔a.toNat/2^k%2≠b.toNat/2^k%2:=by
 rw[zwu,zxe _ _ hk,←zuH,UInt8.toNat_xor];omega
theorem zyF (want:List UInt8) (p:Rp) (c:Nat):(zaB want p c).v=p.v/\(zaB want p c).fd.length<=p.fd.length+1/\((zaB want p c).fl.length=(zaB want p c).fd.length↔p.fl.length=p.fd.length):=by
 unfold zaB Rp.note;split
 ·exact⟨rfl,by simp,by simp⟩
 ·exact⟨rfl,zo,Iff.rfl⟩
theorem zcA (want:List UInt8) (p:Rp) (hl:p.fl.length=p.fd.length):∀k,(it (zaB want) p k).v=p.v/\(it (zaB want) p k).fd.length<=p.fd.length+k/\(it (zaB want) p k).fl.length=(it (zaB want) p k).fd.length
 |0=>⟨rfl,yhX _,hl⟩
 |k+1=>by
  obtain⟨h1,h2,h3⟩:=zcA want p hl k;obtain⟨h4,h5,h6⟩:=zyF want (it (zaB want) p k) k;exact⟨h4.trans h1,by show(zaB want _ k).fd.length<=_;omega,h6.2 h3⟩
end Ck
namespace Go.Proofs.YtgcjejajljhnaaaGreatDoor
open Go.Ex Ck
set_option maxRecDepth 100000
set_option maxHeartbeats 8000000
theorem zxF (n N:Nat) (ph:Bool) (p:Ck.Rp) (hf:Rf n p) (hn:n<=96) (ho:Okv p.v) (hm:p.v.mp.length=N) (hN:N=((p.v.c+7)/8).toNat) (hb:p.fd.length<=600000):HG Tryz.prog 2 20 220 113 [.ptr 0 0] (gP ph p) [.row (zaC 20 1 p) 106 0, .row (flatI (rcP ph 20) 0 p.v.rs) 66 10] (.tup [])
  (gP ph (Ck.bits p)) [.row (zaC 20 1 (Ck.bits p)) 106 0, .row (flatI (rcP ph 20) 0 (Ck.bits p).v.rs) 66 10]:=by
 have hpn:p.v.rs.length=n:=hf.n;have h96:p.v.rs.length<=96:=zo;have hc:=ho.c
 have hul:(Ck.used p.v).length=N:=by
  unfold Ck.used;rw[zd1,zgY,hN];simp
 refine HG.of zal zo ?_
 (conv=>whnf);repeat((refine yoY (zF 20 [1]) (zwv p.v ho) (Wzc (zeG (Lies.mk (λj hj=>za3 hj) (λj hj=>zah zo)) h96 rfl (zbt (yiX.2 rfl)) rfl) Wzn) ?_;conv=>whnf))
 obtain⟨W,hW⟩:∃W,Ck.used p.v=W:=⟨_,rfl⟩
 rw[hW] at hul⊢;refine Ex.wl p.v.c.toNat (λd=>zag [(0, .ptr 0 0),(2,tb W),(13,ib p.v.c),(14,ib d)] 44) (λd=>zaw 20 220 (gP ph (it (zaB W) p d)) [.row (zaC 20 1 (it (zaB W) p d)) 106 0, .row (flatI (rcP ph 20) 0 (it (zaB W) p d).v.rs) 66 10]) ?_ ?_
 ·(exact Ex.wG [0,1] [] [] (⟨pQ rfl rfl,rQ h96,zT⟩))
 ·intro d hd;obtain⟨h1,h2,h3⟩:=zcA W p hf.fl d;have hst:it (zaB W) p (d+1)=zaB W (it (zaB W) p d) d:=rfl
  have hfin:d=p.v.c.toNat->{it (zaB W) p d with v:={(it (zaB W) p d).v with mp:=W}}=Ck.bits p:=λe=>by rw[e,←hW];rfl
  generalize it (zaB W) p d=q at*
  have hq96:q.v.rs.length<=96:=by rw[h1];exact h96
  have stay:∀{t:Tm} {s:St} {q':Ck.Rp},zaB W q d=q'->Weak 2 t s (zag [(0, .ptr 0 0),(2,tb W),(13,ib p.v.c),(14,ib (d+1:Nat))] 44) (zaw 20 220 (gP ph q') [.row (zaC 20 1 q') 106 0, .row (flatI (rcP ph 20) 0 q'.v.rs) 66 10])->
    Weak 2 t s (zag [(0, .ptr 0 0),(2,tb W),(13,ib p.v.c),(14,ib (d+1:Nat))] 44) (zaw 20 220 (gP ph (it (zaB W) p (d+1))) [.row (zaC 20 1 (it (zaB W) p (d+1))) 106 0, .row (flatI (rcP ph 20) 0 (it (zaB W) p (d+1)).v.rs) 66 10]):=λhe hw=>by rw[hst,he];exact hw
  refine Ex.go ?_;refine yPX (λh=> ?_) (λh=> ?_)
  ·have hd8:((d:Nat):Int).tdiv 8=((d/8:Nat):Int):=zkL zo;have hm8:((d:Nat):Int).tmod 8=((d%8:Nat):Int):=zl4 zo
   have hq:(8:Int)≠0/\Small (((d:Nat):Int).tdiv 8):=⟨zo,by unfold Small;rw[hd8];omega⟩
   have hix:(0:Int)<=((d:Nat):Int).tdiv 8/\((d:Nat):Int).tdiv 8<(W.length:Nat):=by rw[hd8,hul];omega
   have hix2:(0:Int)<=((d:Nat):Int).tdiv 8/\((d:Nat):Int).tdiv 8<(q.v.mp.length:Nat):=by rw[hd8,h1,hm];omega
   have hm80:(0:Int)<=((d:Nat):Int).tmod 8:=by rw[hm8];omega
   (conv=>whnf);repeat(first|refine Need.mk ?_ ?_;(focus(first|exact hix|exact hix2|exact hq|exact hm80|exact hq.1))|refine Ex.g ?_);conv=>whnf
   have hbit:zfH .and .u8 (zoy .u8 (zfH .xor .u8 ((gd 0 W (((d:Nat):Int).tdiv 8).toNat).toNat:Int) ((gd 0 q.v.mp (((d:Nat):Int).tdiv 8).toNat).toNat:Int)) (((d:Nat):Int).tmod 8)) 1=1↔zc6 W d≠zc6 q.v.mp d:=by
    rw[hd8,hm8,yrX];exact zxG (gd 0 W (d/8)) (gd 0 q.v.mp (d/8)) (d%8) zo
   by_cases hbb:zc6 W d≠zc6 q.v.mp d
   ·have hb1:q.fd.length<=1000000:=zo;have hss:zaB W q d=q.note 10 d 0:=ygX hbb
    (conv=>whnf);repeat(first|refine KIf.t (ybX (hbit.2 hbb)) ?_|refine Ck.cG (p':=(q.note 10 d 0)) (zdb ph q 10 d 0 hq96 h3 hb1) hq96 hq96 ?_|refine Ex.g ?_);conv=>whnf
    refine⟨d+1,zo,by dsimp only;omega,stay (q':=q.note 10 d 0) hss ?_⟩
    (exact Ex.wG [0,1] [] [] (⟨pQ rfl rfl,rQ hq96,zT⟩))
   ·have hss:zaB W q d=q:=yfX hbb
    (conv=>whnf);repeat(first|refine KIf.f (ycX (λe=>hbb (hbit.1 e))) ?_|refine Ex.g ?_);conv=>whnf
    refine⟨d+1,zo,by dsimp only;omega,stay (q':=q) hss ?_⟩
    (exact Ex.wG [0,1] [] [] (⟨pQ rfl rfl,rQ hq96,zT⟩))
  ·conv=>whnf
   rw[←hfin zo];refine⟨?_⟩
   (exact Ex.wG [0,1] [] [] (⟨pQ rfl rfl,rQ hq96,zT⟩))
end Go.Proofs.YtgcjejajljhnaaaGreatDoor
namespace Ck
open Go Go.Ex
theorem zkb (t:List Bool) (s:Int):∀k,(fill t s k).length=t.length
 |0=>rfl
 |k+1=>by unfold fill;rw[yoX,zkb t s k]
theorem zlv (l:List Run) (t:List Bool) (n:Nat):(it (λt i=>fill t (at_ Run.o l i).s (at_ Run.o l i).l.toNat) t n).length=t.length:=by
 induction n with
 |zero=>rfl
 |succ n ih=>
  show(fill (it (λt i=>fill t (at_ Run.o l i).s (at_ Run.o l i).l.toNat) t n) _ _).length=_;rw[zkb,ih]
def zwm (v:Pt):Prop:=∀r∈v.al,0<=r.s/\0<=r.l/\r.s+r.l<=v.c
end Ck
namespace Go.Proofs.YtgcjejajljhnaaaGreatDoor
open Go.Ex Ck
set_option maxRecDepth 100000
set_option maxHeartbeats 8000000
theorem zuN (ph:Bool) (p:Ck.Rp) (hn:p.v.rs.length<=96) (hc:0<=p.v.c/\p.v.c<=100000) (hal:zwm p.v) (hall:p.v.al.length<=100000):HK Tryz.prog 2 145 [.ptr 200 0] (gP ph p) [.row (zaC 0 201 p) 106 0, .row (flatI (rcP ph 0) 0 p.v.rs) 66 10] (.sl 202 0 p.v.c.toNat p.v.c.toNat)
  (gP ph p) [.row (zaC 0 201 p) 106 0, .row (flatI (rcP ph 0) 0 p.v.rs) 66 10, .row ((Ck.taken p.v).map bb) 4 0]:=by
 obtain⟨N,hN⟩:∃N,N=p.v.c.toNat:=⟨_,rfl⟩
 have hNc:p.v.c=(N:Int):=zo
 have hmk:0<=p.v.c/\p.v.c<=p.v.c/\p.v.c.toNat*1<=2^47/\p.v.c<=2^60:=by refine⟨?_,?_,?_,?_⟩<;>omega
 have hz:zc8 p.v.c.toNat (.bool false)=(List.replicate N false).map bb:=by
  rw[←hN,zcE (x:= .sc (.bool false)) _ _ rfl];simp[bb]
 rw[←hN];refine HK.of zal zo ?_
 (conv=>whnf);repeat((refine Ex.g ?_;conv=>whnf))
 obtain⟨F,hF⟩:∃F:List Bool->Nat->List Bool,F=λt i=>fill t (at_ Run.o p.v.al i).s (at_ Run.o p.v.al i).l.toNat:=⟨_,rfl⟩
 have hFl:∀n,(it F (List.replicate N false) n).length=N:=λn=>by rw[hF,zlv];simp
 have hT:Ck.taken p.v=it F (List.replicate N false) p.v.al.length:=by rw[hF,hN];rfl
 refine Ex.wl p.v.al.length (λd=>zag [(3, .sl 202 0 N N),(17,LS 2 zaP Run.o p.v.al),(18,ib p.v.al.length),(19,ib d)] 37) (λd=>zlu (gP ph p) [.row (zaC 0 201 p) 106 0, .row (flatI (rcP ph 0) 0 p.v.rs) 66 10, .row ((it F (List.replicate N false) d).map bb) 4 0]) ?_ ?_
 ·refine y7Y [200,201,220] [] rfl rfl rfl rfl ?_ ?_ ?_
  ·exact⟨pF FR.K ⟨rfl,rfl⟩,rF FR.K hn,⟨rfl,rfl, .same hz.symm (hz▸y4X (enc:=bb) (λ_=>rfl) _)⟩,zT⟩
  ·exact(λj o1 h=>⟨h,yQX _ _ j o1 h⟩)
  ·rw[hNc];(repeat' first|exact zT|exact rfl|(intro _ _;exact rfl)|refine zA ?_ ?_)
 ·intro d hd
  have hst:it F (List.replicate N false) (d+1)=fill (it F (List.replicate N false) d) (at_ Run.o p.v.al d).s (at_ Run.o p.v.al d).l.toNat:=by rw[hF];rfl
  have hl:=hFl d
  have hTd:d=p.v.al.length->Ck.taken p.v=it F (List.replicate N false) d:=λe=>by rw[e,hT]
  generalize it F (List.replicate N false) d=t0 at*
  refine Ex.go ?_;refine yPX (λh=> ?_) (λh=> ?_)
  ·have hlt:d<p.v.al.length:=zo;have hr:=hal _ (at_mem Run.o _ d hlt)
   obtain⟨r,hr0⟩:∃r,at_ Run.o p.v.al d=r:=⟨_,rfl⟩
   rw[hr0] at hr hst
   have hd0:(0:Int)<=(d:Nat)/\((d:Nat):Int)<(p.v.al.length:Nat):=⟨zo,zo⟩
   (conv=>whnf);repeat((refine Need.mk ?_ ?_;exact hd0;conv=>whnf))
   refine Ex.wl r.l.toNat (λk=>zag [(3, .sl 202 0 N N),(5, .ptr 203 0),(17,LS 2 zaP Run.o p.v.al),(18,ib p.v.al.length),(19,ib d),(24,ib r.l),(25,ib k)] 37) (λk=>zlu (gP ph p) [.row (zaC 0 201 p) 106 0, .row (flatI (rcP ph 0) 0 p.v.rs) 66 10, .row ((fill t0 r.s k).map bb) 4 0, .row [ib r.s,ib r.l] 78 0]) ?_ ?_
   ·subst hr0
    (exact Ex.wK [200,201,202,220] [] (⟨pF FR.K ⟨rfl,rfl⟩,rF FR.K hn,⟨rfl,rfl, .same rfl (y4X (enc:=bb) (λ_=>rfl) _)⟩,⟨rfl,rfl, .same rfl rfl⟩,zT⟩))
   ·intro k hk
    have hfl:(fill t0 r.s k).length=N:=by rw[zkb,hl]
    have hfs:fill t0 r.s (k+1)=(fill t0 r.s k).set (r.s+k).toNat true:=rfl
    generalize hft:fill t0 r.s k=t1 at*
    refine Ex.go ?_;refine yPX (λh2=> ?_) (λh2=> ?_)
    ·have hix:(0:Int)<=r.s+(k:Nat)/\r.s+((k:Nat):Int)<(N:Nat):=⟨zo,zo⟩
     have hsm:Small (r.s+(k:Nat)):=⟨zo,zo⟩
     have hoff:0+(r.s+((k:Nat):Int)).toNat*1=(r.s+k).toNat:=zo;have hj:(r.s+(k:Int)).toNat<t1.length:=zo
     (conv=>whnf);repeat(first|refine Need.mk ?_ ?_;(focus(first|exact hix|exact hsm))|refine ytY bb true rfl hoff rfl rfl rfl rfl rfl hj ?_|refine Ex.g ?_);conv=>whnf
     refine⟨k+1,zo,by dsimp only;omega,?_⟩;dsimp only;rw[hfs]
     (exact Ex.wK [200,201,202,203] [] (⟨pF FR.K ⟨rfl,rfl⟩,rF FR.K hn,⟨rfl,rfl, .same rfl (y4X (enc:=bb) (λ_=>rfl) _)⟩,⟨rfl,rfl, .same rfl rfl⟩,zT⟩))
    ·(conv=>whnf);repeat(((refine Ex.g ?_;conv=>whnf)))
     refine⟨d+1,zo,by dsimp only;omega,?_⟩;dsimp only;rw[hst,←show k=r.l.toNat by omega,hft]
     (exact Ex.wK [200,201,202] [] (⟨pF FR.K ⟨rfl,rfl⟩,rF FR.K hn,⟨rfl,rfl, .same rfl (y4X (enc:=bb) (λ_=>rfl) _)⟩,zT⟩))
  ·conv=>whnf
   rw[hTd zo];refine⟨?_⟩
   (exact Ex.wK [200,201,202] [] (⟨pF FR.K ⟨rfl,rfl⟩,rF FR.K hn,⟨rfl,rfl, .same rfl (y4X (enc:=bb) (λ_=>rfl) _)⟩,zT⟩))
end Go.Proofs.YtgcjejajljhnaaaGreatDoor
namespace Ck
open Go Go.Ex
theorem zfT {h:T AO} {z:List Nat} {α:Type} {enc:α->List AV} {o:α} {l:List α} {sz i:Nat} (hi:i<=l.length):Wz h z (LS sz enc o (l.take i)) (.lst sz i λj=>enc (at_ o l (0+j))):=by
 unfold Wz;refine⟨rfl,by simp;omega,λj hj=> ?_⟩
 have hj2:j<i:=by simp at hj;omega
 show enc (at_ o (l.take i) j)=enc (at_ o l (0+j));rw[ylX];unfold at_;rw[List.getElem?_take_of_lt hj2]
theorem zga {t:List Bool} {acc l:List Run} {r:Run} (h:r.s= -1):zcy t acc (r::l)=zcy t (acc++[r]) l:=by
 conv=>lhs;unfold zcy
 rw[ygX h]
theorem zko {t t':List Bool} {acc l:List Run} {r:Run} (h:r.s≠-1) (h2:zc9 t r.s 0 r.l.toNat=(t',none)):zcy t acc (r::l)=zcy t' (acc++[r]) l:=by
 conv=>lhs;unfold zcy
 rw[yfX h,h2]
theorem zfD {t t':List Bool} {acc l:List Run} {r:Run} {k:Nat} (h:r.s≠-1) (h2:zc9 t r.s 0 r.l.toNat=(t',some k)):zcy t acc (r::l)=(t',some (acc++if 0<k then [⟨r.s,k⟩] else [])):=by
 conv=>lhs;unfold zcy
 rw[yfX h,h2]
theorem znb {t:List Bool} {s:Int} {k n:Nat} (h:s+k<t.length/\at_ false t (s+k).toNat=false):zc9 t s k (n+1)=zc9 (t.set (s+k).toNat true) s (k+1) n:=by
 conv=>lhs;unfold zc9
 rw[ygX h]
theorem ze3 {t:List Bool} {s:Int} {k n:Nat} (h:¬(s+k<t.length/\at_ false t (s+k).toNat=false)):zc9 t s k (n+1)=(t,some k):=by
 conv=>lhs;unfold zc9
 rw[yfX h]
theorem zha {h:T AO} {z:List Nat} {R:Nat->Option Nat} {x w:AV} {v:Value} (hn:NmP (RS R) x) (hw:Wv h z (RD R) x w):NmP (RS R) (.tup [x, .sc v])/\Wv h z (RD R) (.tup [x, .sc v]) (.tup [w, .sc v]):=by
 refine⟨?_,?_⟩
 ·unfold NmP;exact⟨hn,trivial,zT⟩
 ·unfold Wv Wvl;refine⟨hw,?_⟩;unfold Wvl;refine⟨?_,?_⟩
  ·exact(zdh (p:=λ_=>True) rfl).2
  ·unfold Wvl;trivial
theorem zku (l:List Run) (i:Nat) (h:i<l.length):l.take (i+1)=l.take i++[at_ Run.o l i]/\l.drop i=at_ Run.o l i::l.drop (i+1):=by
 rw[zaS _ _ _ h];exact⟨(List.take_append_getElem h).symm,yqZ h⟩
end Ck
namespace Go.Proofs.YtgcjejajljhnaaaGreatDoor
open Go.Ex Ck
set_option maxRecDepth 100000
set_option maxHeartbeats 4000000
theorem zi6 :Ex.zyT Tryz.prog zlM 2000 139 [.slice none 0 0] (.slice none 0 0)=true:=by decide+kernel
theorem zlW :PureC Tryz.prog 139 [LS 2 zaP Run.o []] (.lst 0 0 λi=>zaP (at_ Run.o [] i)):=by
 refine mt2 zal (λs=>yvY (args:=[.slice none 0 0]) λw=>yOY zed zc2 (args:=[.slice none 0 0]) zi6 w) (λa cap=> ?_)
 (conv=>whnf);repeat((refine Ex.g ?_;conv=>whnf))
 refine .z [0] ?_;exact yzZ rfl (by simp) rfl (yhX _) (λi hi=>absurd hi (ypX _)) rfl (λi hi=>absurd hi (ypX _))
theorem zi5 (l:List Run) (hl:l.length<=100000) (h0:0<l.length):HC Tryz.prog 0 139 [LS 2 zaP Run.o l] [] (.so 0 0 l.length 0) [.row (l.flatMap zaP) 78 2]:=by
 have hb:Nat.ble (0+l.length) 0=false:=by cases h:Nat.ble (0+l.length) 0 with|false=>rfl|true=>have:=ynX h;omega
 refine HC.of zal (yhX 0) ?_
 (conv=>whnf);repeat(first|refine Ex.g ?_|refine Need.mk (λ_ _=>rfl) ?_|refine RK.of (zeY rfl rfl h0) ?_);conv=>whnf
 have e:([]++(List.range l.length).flatMap λi=>zaP (at_ Run.o l i))=l.flatMap zaP:=by exact zaA zaP Run.o l
 rw[e];refine⟨[1],[],rfl,⟨⟨rfl,rfl,Or.inr ⟨rfl,zay (λ_=>rfl) _⟩⟩,zT⟩,?_⟩
 (repeat' first|exact zT|exact rfl|refine zA ?_ ?_)
 exact ylX _
theorem zfO (l:List Run) (hl:l.length<=100000):PureC Tryz.prog 139 [LS 2 zaP Run.o l] (LS 2 zaP Run.o l):=by
 by_cases h0:l.length=0
 ·obtain rfl:l=[]:=yeX h0;refine mt2 zal (λs=>yvY (args:=[.slice none 0 0]) λw=>yOY zed zc2 (args:=[.slice none 0 0]) zi6 w) (λa cap=> ?_)
  ·(conv=>whnf);repeat((refine Ex.g ?_;conv=>whnf))
   refine .z [0] ?_;exact yzZ rfl (by simp) rfl (yhX _) (λi hi=>absurd hi (ypX _)) rfl (λi hi=>absurd hi (ypX _))
 ·have hb:Nat.ble (0+l.length) 0=false:=by cases h:Nat.ble (0+l.length) 0 with|false=>rfl|true=>have:=ynX h;omega
  refine ytX zal rfl ?_
  (conv=>whnf);repeat(first|refine Ex.g ?_|refine Need.mk (λ_ _=>rfl) ?_|refine RK.of (zeY rfl rfl (Nat.pos_of_ne_zero h0)) ?_);conv=>whnf
  refine .z [1] ?_;exact Wz.list (λ_=>rfl) (λ_=>rfl) rfl (by simp) (ylX _) (by exact zaA zaP Run.o l)
def zy2 (l:List Run) (x:Option (List Run)):List Run:=match x with|none=>l|some l'=>l'
theorem zyB (ph:Bool) (p:Ck.Rp) (l:List Run) (t0:List Bool) (M:Nat) (hl:l.length<=100000) (hr:∀r∈l,-1<=r.s/\r.s<=2147483647/\0<=r.l/\r.l<=100000) (ht:t0.length=M) (hM:M<=100000):HK Tryz.prog 1 146 [LS 2 zaP Run.o l, .sl 200 0 M M] (gP ph p) [.row (t0.map bb) 4 0]
  (.tup [LS 2 zaP Run.o (zy2 l (Ck.cut l t0).2),bb (Ck.cut l t0).2.isSome]) (gP ph p) [.row ((Ck.cut l t0).1.map bb) 4 0]:=by
 refine HK.of zal zo ?_
 obtain⟨C,hC⟩:∃C,Ck.cut l t0=C:=⟨_,rfl⟩
 rw[hC];refine Ex.go ?_
 refine yFX zal (D:=Nat×List Bool) (λd=>l.length-d.1) (λd=>d.1<=l.length/\d.2.length=M/\C=zcy d.2 (l.take d.1) (l.drop d.1)) (λd=>zag [(0,LS 2 zaP Run.o l),(1, .sl 200 0 M M),(11,LS 2 zaP Run.o l),(12,ib l.length),(13,ib d.1)] 61)
  (λd=>zlu (gP ph p) [.row (d.2.map bb) 4 0]) (0,t0) ⟨ymX _,ht,hC.symm⟩ ?_ ?_
 ·(exact Ex.wK [200] [] (⟨⟨rfl,rfl, .same rfl (y4X (enc:=bb) (λ_=>rfl) _)⟩,zT⟩))
 ·rintro⟨i,t⟩ ⟨hi,htl,hCi⟩;dsimp only at hi htl hCi;dsimp only;refine Ex.go ?_;refine yPX (λh=> ?_) (λh=> ?_)
  ·have hlt:i<l.length:=zo
   have hi0:(0:Int)<=(i:Nat)/\((i:Nat):Int)<(l.length:Nat):=⟨zo,zo⟩
   obtain⟨e1,e2⟩:=zku l i hlt;have hri:=hr _ (at_mem Run.o l i hlt);rw[e2] at hCi;by_cases hs:(at_ Run.o l i).s= -1
   ·(conv=>whnf);repeat(first|refine Need.mk ?_ ?_;exact hi0|refine KIf.t (ybX hs) ?_|refine Ex.g ?_);conv=>whnf
    refine⟨(i+1,t),⟨by dsimp only;omega,htl,by rw[hCi,zga hs];dsimp only;rw[e1]⟩,by dsimp only;omega,?_⟩
    (exact Ex.wK [200] [] (⟨⟨rfl,rfl, .same rfl (y4X (enc:=bb) (λ_=>rfl) _)⟩,zT⟩))
   ·(conv=>whnf);repeat(first|refine Need.mk ?_ ?_;exact hi0|refine KIf.f (ycX hs) ?_);conv=>whnf
    obtain⟨r,hr0⟩:∃r,at_ Run.o l i=r:=⟨_,rfl⟩
    refine yFX zal (D:=Nat×List Bool) (λd=>r.l.toNat-d.1) (λd=>d.1<=r.l.toNat/\d.2.length=M/\zc9 t r.s 0 r.l.toNat=zc9 d.2 r.s d.1 (r.l.toNat-d.1)) (λd=>zag [(0,LS 2 zaP Run.o l),(1, .sl 200 0 M M),(6,ib i),(7, .ptr 201 0),(11,LS 2 zaP Run.o l),(12,ib l.length),(13,ib i),(22,ib r.l),(23,ib d.1)] 61)
     (λd=>zlu (gP ph p) [.row (d.2.map bb) 4 0, .row [ib r.s,ib r.l] 78 0]) (0,t) ⟨ymX _,htl,rfl⟩ ?_ ?_
    ·subst hr0
     (exact Ex.wK [200,220] [] (⟨⟨rfl,rfl, .same rfl (y4X (enc:=bb) (λ_=>rfl) _)⟩,⟨rfl,rfl, .same rfl rfl⟩,zT⟩))
    ·rintro⟨k,t1⟩ ⟨hk,ht1,hT⟩;dsimp only at hk ht1 hT;dsimp only;rw[hr0] at hs hri hCi e1;refine Ex.go ?_;refine yPX (λh2=> ?_) (λh2=> ?_)
     ·obtain⟨n,hn⟩:∃n,r.l.toNat-k=n+1:=⟨r.l.toNat-k-1,zo⟩
      rw[hn] at hT
      have hsm:Small (r.s+(k:Nat)):=⟨zo,zo⟩
      by_cases hlt2:r.s+(k:Nat)<(M:Nat)
      ·have hix:(0:Int)<=r.s+(k:Nat)/\r.s+((k:Nat):Int)<(M:Nat):=⟨zo,hlt2⟩
       have hj:(r.s+(k:Int)).toNat<t1.length:=zo;have hoff:0+(r.s+((k:Nat):Int)).toNat*1=(r.s+(k:Int)).toNat:=zo
       obtain⟨bt,hbt⟩:∃b,at_ false t1 (r.s+(k:Int)).toNat=b:=⟨_,rfl⟩
       cases bt
       ·have hT2:=znb (t:=t1) (s:=r.s) (k:=k) (n:=n) ⟨zo,hbt⟩
        (conv=>whnf);repeat(first|refine Need.mk ?_ ?_;(focus(first|exact hix|exact hsm))|refine KIf.t (ybX hlt2) ?_|refine RK.of (yjY bb false false hbt hoff rfl rfl hj) ?_|refine ytY bb true rfl hoff rfl rfl rfl rfl rfl hj ?_|refine Ex.g ?_);conv=>whnf
        refine⟨(k+1,t1.set (r.s+(k:Int)).toNat true),⟨by dsimp only;omega,by rw[yoX];exact ht1,by rw[hT,hT2];dsimp only;rw[show r.l.toNat-(k+1)=n by omega]⟩,by dsimp only;omega,?_⟩
        (exact Ex.wK [200,201] [] (⟨⟨rfl,rfl, .same rfl (y4X (enc:=bb) (λ_=>rfl) _)⟩,⟨rfl,rfl, .same rfl rfl⟩,zT⟩))
       ·have hT2:=ze3 (t:=t1) (s:=r.s) (k:=k) (n:=n) (λe=>by rw[hbt] at e;exact absurd e.2 (by decide))
        have hi1:(0:Int)<=(i:Nat)/\((i:Nat):Int)<=(l.length:Nat):=⟨zo,zo⟩
        have hCs:C=(t1,some (l.take i++if 0<k then [⟨r.s,k⟩] else [])):=by rw[hCi,zfD hs (hT.trans hT2)]
        by_cases hk0:k=0
        ·have hk1:¬(0:Int)<(k:Nat):=zo;rw[yfX zo,yKX] at hCs;rw[hCs]
         (conv=>whnf);repeat(first|refine Need.mk ?_ ?_;(focus(first|exact hix|exact hsm|exact hi1))|refine KIf.t (ybX hlt2) ?_|refine RK.of (yjY bb false true hbt hoff rfl rfl hj) ?_|refine KIf.f (ycX hk1) ?_|refine KCall.frz [] (zfO (l.take i) (by rw[yYX];omega)) ⟨zfT zo,zT⟩ ?_|refine Ex.g ?_);conv=>whnf
         refine⟨?_⟩;refine y7Y [200] [] rfl rfl rfl rfl ?_ ?_ ?_
         ·exact⟨⟨rfl,rfl, .same rfl (y4X (enc:=bb) (λ_=>rfl) _)⟩,zT⟩
         ·exact(λj o1 h=>⟨h,yQX _ _ j o1 h⟩)
         ·exact⟨zha (by unfold NmP;trivial) (zdD rfl),zT⟩
        ·have hk1:(0:Int)<(k:Nat):=zo;rw[ygX zo] at hCs;rw[hCs]
         have hb1:(0+1)*16<=2^47/\0+1<=2^60:=by decide
         rcases Nat.eq_zero_or_pos i with rfl|hip
         ·(conv=>whnf);repeat(first|refine Need.mk ?_ ?_;(focus(first|exact hix|exact hsm|exact hi1|exact hb1))|refine KIf.t (ybX hlt2) ?_|refine RK.of (yjY bb false true hbt hoff rfl rfl hj) ?_|refine KIf.t (ybX hk1) ?_|refine KCall.frz [] (zlW) ⟨zfT (ymX _),zT⟩ ?_|refine Ex.g ?_);conv=>whnf
          refine⟨?_⟩;refine y7Y [200] [221] rfl rfl rfl rfl ?_ ?_ ?_
          ·exact⟨⟨rfl,rfl, .same rfl (y4X (enc:=bb) (λ_=>rfl) _)⟩,zT⟩
          ·exact(λj o1 h=>⟨h,yQX _ _ j o1 h⟩)
          ·exact⟨zha (by unfold NmP;trivial) (yjZ (enc:=zaP) (o:=Run.o) (l:=[⟨r.s,k⟩]) (λ_=>rfl) (λ_=>rfl) rfl (by simp) rfl rfl),zT⟩
         ·have hb2:((l.take i).length+1)*16<=2^47/\(l.take i).length+1<=2^60:=by rw[yYX];omega
          have hb3:((l.take i).flatMap zaP).length=0+(l.take i).length*2:=by rw[ynZ (sz:=2) (λ_=>rfl),ylX]
          have hcl:=zi5 (l.take i) (by rw[yYX];omega) (by rw[yYX];omega)
          (conv=>whnf);repeat(first|refine Need.mk ?_ ?_;(focus(first|exact hix|exact hsm|exact hi1|exact hb2|exact hb3))|refine KIf.t (ybX hlt2) ?_|refine RK.of (yjY bb false true hbt hoff rfl rfl hj) ?_|refine KIf.t (ybX hk1) ?_|refine KCall.lift [] [] (.so 220 0 (l.take i).length 0) [.row ((l.take i).flatMap zaP) 78 2] hcl rfl trivial ⟨rfl,zfT zo,zT⟩ ⟨(by unfold Rn;rfl),rfl,⟨rfl,rfl, .inr ⟨rfl,zay (λ_=>rfl) _⟩⟩,zT⟩ ?_|refine Ex.g ?_);conv=>whnf
          refine⟨?_⟩;refine y7Y [200] [222] rfl rfl rfl rfl ?_ ?_ ?_
          ·exact⟨⟨rfl,rfl, .same rfl (y4X (enc:=bb) (λ_=>rfl) _)⟩,zT⟩
          ·exact(λj o1 h=>⟨h,yQX _ _ j o1 h⟩)
          ·exact⟨zha (by unfold NmP;trivial) (yjZ (enc:=zaP) (o:=Run.o) (l:=l.take i++[⟨r.s,k⟩]) (λ_=>rfl) (λ_=>rfl) rfl (by simp) (by simp) (by rw[yJX];rfl)),zT⟩
      ·have hT2:=ze3 (t:=t1) (s:=r.s) (k:=k) (n:=n) (λe=>hlt2 zo)
       have hi1:(0:Int)<=(i:Nat)/\((i:Nat):Int)<=(l.length:Nat):=⟨zo,zo⟩
       have hCs:C=(t1,some (l.take i++if 0<k then [⟨r.s,k⟩] else [])):=by rw[hCi,zfD hs (hT.trans hT2)]
       by_cases hk0:k=0
       ·have hk1:¬(0:Int)<(k:Nat):=zo;rw[yfX zo,yKX] at hCs;rw[hCs]
        (conv=>whnf);repeat(first|refine Need.mk ?_ ?_;(focus(first|exact hsm|exact hi1))|refine KIf.f (ycX hlt2) ?_|refine KIf.f (ycX hk1) ?_|refine KCall.frz [] (zfO (l.take i) (by rw[yYX];omega)) ⟨zfT zo,zT⟩ ?_|refine Ex.g ?_);conv=>whnf
        refine⟨?_⟩;refine y7Y [200] [] rfl rfl rfl rfl ?_ ?_ ?_
        ·exact⟨⟨rfl,rfl, .same rfl (y4X (enc:=bb) (λ_=>rfl) _)⟩,zT⟩
        ·exact(λj o1 h=>⟨h,yQX _ _ j o1 h⟩)
        ·exact⟨zha (by unfold NmP;trivial) (zdD rfl),zT⟩
       ·have hk1:(0:Int)<(k:Nat):=zo;rw[ygX zo] at hCs;rw[hCs]
        have hb1:(0+1)*16<=2^47/\0+1<=2^60:=by decide
        rcases Nat.eq_zero_or_pos i with rfl|hip
        ·(conv=>whnf);repeat(first|refine Need.mk ?_ ?_;(focus(first|exact hsm|exact hi1|exact hb1))|refine KIf.f (ycX hlt2) ?_|refine KIf.t (ybX hk1) ?_|refine KCall.frz [] (zlW) ⟨zfT (ymX _),zT⟩ ?_|refine Ex.g ?_);conv=>whnf
         refine⟨?_⟩;refine y7Y [200] [221] rfl rfl rfl rfl ?_ ?_ ?_
         ·exact⟨⟨rfl,rfl, .same rfl (y4X (enc:=bb) (λ_=>rfl) _)⟩,zT⟩
         ·exact(λj o1 h=>⟨h,yQX _ _ j o1 h⟩)
         ·exact⟨zha (by unfold NmP;trivial) (yjZ (enc:=zaP) (o:=Run.o) (l:=[⟨r.s,k⟩]) (λ_=>rfl) (λ_=>rfl) rfl (by simp) rfl rfl),zT⟩
        ·have hb2:((l.take i).length+1)*16<=2^47/\(l.take i).length+1<=2^60:=by rw[yYX];omega
         have hb3:((l.take i).flatMap zaP).length=0+(l.take i).length*2:=by rw[ynZ (sz:=2) (λ_=>rfl),ylX]
         have hcl:=zi5 (l.take i) (by rw[yYX];omega) (by rw[yYX];omega)
         (conv=>whnf);repeat(first|refine Need.mk ?_ ?_;(focus(first|exact hsm|exact hi1|exact hb2|exact hb3))|refine KIf.f (ycX hlt2) ?_|refine KIf.t (ybX hk1) ?_|refine KCall.lift [] [] (.so 220 0 (l.take i).length 0) [.row ((l.take i).flatMap zaP) 78 2] hcl rfl trivial ⟨rfl,zfT zo,zT⟩ ⟨(by unfold Rn;rfl),rfl,⟨rfl,rfl, .inr ⟨rfl,zay (λ_=>rfl) _⟩⟩,zT⟩ ?_|refine Ex.g ?_);conv=>whnf
         refine⟨?_⟩;refine y7Y [200] [222] rfl rfl rfl rfl ?_ ?_ ?_
         ·exact⟨⟨rfl,rfl, .same rfl (y4X (enc:=bb) (λ_=>rfl) _)⟩,zT⟩
         ·exact(λj o1 h=>⟨h,yQX _ _ j o1 h⟩)
         ·exact⟨zha (by unfold NmP;trivial) (yjZ (enc:=zaP) (o:=Run.o) (l:=l.take i++[⟨r.s,k⟩]) (λ_=>rfl) (λ_=>rfl) rfl (by simp) (by simp) (by rw[yJX];rfl)),zT⟩
     ·have hke:k=r.l.toNat:=zo
      have hT2:zc9 t r.s 0 r.l.toNat=(t1,none):=by rw[hT,hke,yQY];rfl
      (conv=>whnf);repeat(((refine Ex.g ?_;conv=>whnf)))
      refine⟨(i+1,t1),⟨by dsimp only;omega,ht1,by rw[hCi,zko hs hT2];dsimp only;rw[e1]⟩,by dsimp only;omega,?_⟩
      (exact Ex.wK [200] [] (⟨⟨rfl,rfl, .same rfl (y4X (enc:=bb) (λ_=>rfl) _)⟩,zT⟩))
  ·have hil:i=l.length:=zo
   have hCe:C=(t,none):=by rw[hCi,hil,y9X];rfl
   conv=>whnf
   rw[hCe];refine⟨?_⟩;refine y7Y [200] [] rfl rfl rfl rfl ?_ ?_ ?_
   ·exact⟨⟨rfl,rfl, .same rfl (y4X (enc:=bb) (λ_=>rfl) _)⟩,zT⟩
   ·exact(λj o1 h=>⟨h,yQX _ _ j o1 h⟩)
   ·exact⟨zha (by unfold NmP;trivial) (zdD rfl),zT⟩
end Go.Proofs.YtgcjejajljhnaaaGreatDoor
namespace Ck
open Go Go.Ex
def zm3 (r:Run):Prop:= -1<=r.s/\r.s<=2147483647/\0<=r.l/\r.l<=100000
theorem zgK (t:List Bool) (s:Int):∀(n k:Nat),(zc9 t s k n).1.length=t.length/\∀j,(zc9 t s k n).2=some j->j<k+n
 |0,k=>⟨rfl,λj h=>by unfold zc9 at h;cases h⟩
 |n+1,k=>by
  unfold zc9;split
  ·obtain⟨h1,h2⟩:=zgK (t.set (s+k).toNat true) s n (k+1);exact⟨by rw[h1,yoX],λj h=>by have:=h2 j h;omega⟩
  ·exact⟨rfl,λj h=>by cases h;omega⟩
theorem zkp :∀(l:List Run) (t:List Bool) (acc:List Run),(∀r∈l,zm3 r)->(∀r∈acc,zm3 r)->(zcy t acc l).1.length=t.length/\∀l',(zcy t acc l).2=some l'->l'.length<=acc.length+l.length/\∀r∈l',zm3 r
 |[],t,acc,_,_=>⟨rfl,λl' h=>by unfold zcy at h;cases h⟩
 |r::l,t,acc,hl,ha=>by
  have hr:=hl r (yxY ..);have hl':∀r∈l,zm3 r:=λx hx=>hl x (ycY _ hx)
  have hacc:∀x∈acc++[r],zm3 x:=λx hx=>by
   rcases yRX.1 hx with hx|hx
   ·exact ha x hx
   ·rw[yiX.1 hx];exact hr
  by_cases hs:r.s= -1
  ·rw[zga hs];obtain⟨h1,h2⟩:=zkp l t (acc++[r]) hl' hacc;exact⟨h1,λl' h=>⟨by have:=(h2 l' h).1;simp at this⊢;omega,(h2 l' h).2⟩⟩
  ·obtain⟨h3,h4⟩:=zgK t r.s r.l.toNat 0
   cases ht:zc9 t r.s 0 r.l.toNat with
   |mk t' o=>
    rw[ht] at h3 h4
    cases o with
    |none=>
     rw[zko hs ht];obtain⟨h1,h2⟩:=zkp l t' (acc++[r]) hl' hacc;exact⟨h1.trans h3,λl' h=>⟨by have:=(h2 l' h).1;simp at this⊢;omega,(h2 l' h).2⟩⟩
    |some k=>
     rw[zfD hs ht];have hk:=h4 k rfl;refine⟨h3,λl' h=> ?_⟩;cases h;obtain⟨p1,p2,p3,p4⟩:=hr;refine⟨by split<;>simp<;>omega,λx hx=> ?_⟩
     rcases yRX.1 hx with hx|hx
     ·exact ha x hx
     ·split at hx
      ·rw[yiX.1 hx];exact⟨p1,p2,by show(0:Int)<=(k:Nat);omega,by show((k:Nat):Int)<=100000;omega⟩
      ·cases hx
theorem zrJ (l:List Run) (t:List Bool) (hl:∀r∈l,zm3 r):(cut l t).1.length=t.length/\∀l',(cut l t).2=some l'->l'.length<=l.length/\∀r∈l',zm3 r:=by
 obtain⟨h1,h2⟩:=zkp l t [] hl (λ_ h=>(by cases h));exact⟨h1,λl' h=>⟨by have:=(h2 l' h).1;simpa using this,(h2 l' h).2⟩⟩
theorem zdA (l:List Run) (hl:∀r∈l,zm3 r):∀k,k<=l.length->0<=it (λn i=>n+(at_ Run.o l i).l) (0:Int) k/\it (λn i=>n+(at_ Run.o l i).l) (0:Int) k<=k*100000
 |0,_=>⟨yEZ _,yEZ _⟩
 |k+1,hk=>by
  obtain⟨h1,h2⟩:=zdA l hl k zo;obtain⟨_,_,h3,h4⟩:=hl _ (at_mem Run.o l k zo);show 0<=it (λn i=>n+(at_ Run.o l i).l) (0:Int) k+_/\it (λn i=>n+(at_ Run.o l i).l) (0:Int) k+_<=_;omega
structure Rb (n M:Nat) (s:Rp×List Bool):Prop where
 rf:Rf n s.1
 tl:s.2.length=M
 ss:∀x∈s.1.v.rs,x.ss.length<=1000/\∀y∈x.ss,y.r.length<=100000/\0<=y.z/\y.z<=100000000000/\∀r∈y.r,zm3 r
theorem Rb.at {n M:Nat} {s:Rp×List Bool} (h:Rb n M s) {i:Nat} (hi:i<n):(at_ Rc.o s.1.v.rs i).ss.length<=1000/\∀y∈(at_ Rc.o s.1.v.rs i).ss,y.r.length<=100000/\0<=y.z/\y.z<=100000000000/\∀r∈y.r,zm3 r:=h.ss _ (at_mem Rc.o _ i (by rw[h.rf.n];exact hi))
theorem Rb.sm {n M:Nat} {s:Rp×List Bool} (h:Rb n M s) {i:Nat} (hi:i<n) (k:Nat):(at_ Sm.o (at_ Rc.o s.1.v.rs i).ss k).r.length<=100000/\0<=(at_ Sm.o (at_ Rc.o s.1.v.rs i).ss k).z/\(at_ Sm.o (at_ Rc.o s.1.v.rs i).ss k).z<=100000000000/\∀r∈(at_ Sm.o (at_ Rc.o s.1.v.rs i).ss k).r,zm3 r:=
 zfK (P:=λy:Sm=>y.r.length<=100000/\0<=y.z/\y.z<=100000000000/\∀r∈y.r,zm3 r) ⟨ymX _,yEZ _,by decide,λ_ h=>(by cases h)⟩ (h.at hi).2 k
theorem zpa {n M i:Nat} {s:Rp×List Bool} (h:Rb n M s) (hi:i<n) (k:Nat):Rb n M (zaq i s k)/\(zaq i s k).1.fd.length<=s.1.fd.length+1/\(at_ Rc.o (zaq i s k).1.v.rs i).ss.length=(at_ Rc.o s.1.v.rs i).ss.length:=by
 obtain⟨h1,h2,h3,h4⟩:=h.sm hi k;obtain⟨c1,c2⟩:=zrJ _ s.2 h4;unfold zaq;simp only[zae]
 cases hc:cut (at_ Sm.o (at_ Rc.o s.1.v.rs i).ss k).r s.2 with
 |mk t o=>
  rw[hc] at c1 c2
  cases o with
  |none=>exact⟨⟨h.rf,c1.trans h.tl,h.ss⟩,by simp,rfl⟩
  |some l=>
   obtain⟨c3,c4⟩:=c2 l rfl;have hcl:=(zdA l c4 l.length (yhX _)).1;refine⟨⟨(h.rf.note 1 i k).setR i _ (h.rf.at hi),c1.trans h.tl,λx hx=> ?_⟩,?_,?_⟩
   ·rcases mem_set hx with hx|rfl
    ·exact h.ss x hx
    ·refine⟨by rw[yoX];exact(h.at hi).1,λy hy=> ?_⟩
     rcases mem_set hy with hy|rfl
     ·exact(h.at hi).2 y hy
     ·have hcl2:0<=za0 l:=hcl;exact⟨by show l.length<=_;omega,by show(0:Int)<=min _ _;omega,by show min _ _<=_;omega,c4⟩
   ·have:=zca s.1 1 i k;show(s.1.note 1 i k).fd.length<=_;omega
   ·show(at_ Rc.o (s.1.v.rs.set i _) i).ss.length=_;rw[zaj _ _ _ _ (by rw[h.rf.n];exact hi)];exact yoX
theorem zlB {n M i:Nat} {s:Rp×List Bool} (h:Rb n M s) (hi:i<n):∀k,Rb n M (it (zaq i) s k)/\(it (zaq i) s k).1.fd.length<=s.1.fd.length+k/\(at_ Rc.o (it (zaq i) s k).1.v.rs i).ss.length=(at_ Rc.o s.1.v.rs i).ss.length
 |0=>⟨h,yhX _,rfl⟩
 |k+1=>by
  obtain⟨h1,h2,h3⟩:=zlB h hi k;obtain⟨h4,h5,h6⟩:=zpa h1 hi k;exact⟨h4,by show(zaq i _ k).1.fd.length<=_;omega,h6.trans h3⟩
theorem zgO {n M B:Nat} {s:Rp×List Bool} (hB:B=1000) (h:Rb n M s):∀k,k<=n->Rb n M (it zac s k)/\(it zac s k).1.fd.length<=s.1.fd.length+k*B
 |0,_=>⟨h,by show s.1.fd.length<=_;omega⟩
 |k+1,hk=>by
  obtain⟨h1,h2⟩:=zgO hB h k zo;have e:it zac s (k+1)=zac (it zac s k) k:=rfl;rw[e]
  generalize it zac s k=q at*
  have hm:(k+1)*B=k*B+B:=by rw[yZX,yuZ]
  unfold zac;simp only[zae];split
  ·obtain⟨h3,h4,_⟩:=zlB h1 (show k<n by omega) (at_ Rc.o q.1.v.rs k).ss.length;have h5:=(h1.at (show k<n by omega)).1;exact⟨h3,zo⟩
  ·exact⟨h1,zo⟩
theorem zwI {ρ:Nat->Nat} {a A:Nat} (H:FN ρ a A) {l:List Fd}:Rn ρ (slF a l) (slF A l):=by
 unfold slF
 by_cases h:l=[]
 ·rw[ygX h,ygX h];exact Rn.sc
 ·rw[yfX h,yfX h];exact zpV H zo
theorem zwG {ρ:Nat->Nat} {a A:Nat} (H:FN ρ a A) {l:List Int}:Rn ρ (slL a l) (slL A l):=by
 unfold slL
 by_cases h:l=[]
 ·rw[ygX h,ygX h];exact Rn.sc
 ·rw[yfX h,yfX h];exact zpV H zo
theorem zvm {ρ:Nat->Nat} {a A:Nat} (H:FN ρ a A) {p:Rp} {k k0:Nat} (hk:ρ k=k0):Rnl ρ (zaC a k p) (zaC A k0 p):=by
 unfold zaC;exact yOX Rn.sc (yOX Rn.lst (yOX (by unfold Rn;rw[hk]) (yOX Rn.lst (yOX Rn.sc (yOX (zwI H) (yOX (zwG H) Rnl.nil))))))
theorem ziI {P:Program} {s:St} {α:Type} {enc:α->List AV} {sz:Nat} (hf:∀x,(enc x).length=sz) (o:α) {l:List α} {T:TypeId} {b j k n off:Nat} {e:TypeId} {q:Nat} {v:AV} (hoff:off=j*sz+k) (hT:tyS P T= .ok (false,n)) (hr:s.h.get b=some (.row (l.flatMap enc) e q)) (hj:j<l.length) (hk:k<sz) (hv:(enc (at_ o l j))[k]? =some v):zcw P s T b off= .ok v:=
 zam (f:=λ_ x=>enc x) (λ_ x=>hf x) o hoff hT (by rw[zbO];exact hr) hj hk hv
theorem zw5 {h:T AO} {z:List Nat} {A j o:Nat} {ov:List (Nat×Nat)} {r:List Nat} (hj:j<200) (hp:∀p∈ov,j≠p.1):NmP (RS (RG A ov r)) (.ptr (fam 20 j) o)/\Wv h z (RD (RG A ov r)) (.ptr (fam 20 j) o) (.ptr (fam A j) o):=by
 refine⟨by unfold NmP;exact zlT hj,?_⟩;unfold Wv;exact⟨(zsj hj hp).symm,rfl⟩
theorem zue {h:T AO} {z:List Nat} {A k a b k0 a0 b0:Nat} {ov:List (Nat×Nat)} {r:List Nat} {p:Rp} (hk:RS (RG A ov r) k/\RD (RG A ov r) k=k0) (ha:RS (RG A ov r) a/\RD (RG A ov r) a=a0) (hb:RS (RG A ov r) b/\RD (RG A ov r) b=b0):WL h z (RG A ov r) (ziB k a b p) (ziB k0 a0 b0 p):=by
 unfold ziB;exact WL.sc rfl (WL.sc rfl (ywX (zgl hk) (WL.sc rfl (WL.sc rfl (ywX (zgl ha) (ywX (zgl hb) yMX))))))
theorem zqR (a b:Int):zfu a b=min a b:=by unfold zfu;omega
theorem zu4 {ph:Bool} {A i:Nat} {x y:Rc} (hph:ph=false) (h:x.ss.length=y.ss.length):seS ph A i x=seS ph A i y:=by
 subst hph;unfold seS
 by_cases hx:x.ss=[]
 ·have hy:y.ss=[]:=yeX (by rw[←h,hx];rfl);rw[ygX (.inr hx),ygX (.inr hy),hx,hy]
 ·have hy:y.ss≠[]:=λe=>hx (yeX (by rw[h,e];rfl));rw[yfX (by simp[hx]),yfX (by simp[hy]),h]
theorem zqp {A i:Nat} {x:Rc} {ss:List Sm} (h:ss.length=x.ss.length):rcP false A i {x with ss:=ss}=rcP false A i x:=by
 unfold rcP;rw[show seS false A i {x with ss:=ss}=seS false A i x from zu4 rfl h];rfl
theorem zmH {q:Rp} {d:Nat} {ss:List Sm} (hd:d<q.v.rs.length) (h96:d<96) (hne:ss≠[]):gP false (q.setR d {at_ Rc.o q.v.rs d with ss:=ss})=zpD (gP false q) (2*d) (some (.row (ss.flatMap aSm) 80 2)):=by
 funext j
 have hat:at_ Rc.o (q.setR d {at_ Rc.o q.v.rs d with ss:=ss}).v.rs d={at_ Rc.o q.v.rs d with ss:=ss}:=zaj _ _ _ _ hd;by_cases h1:j=2*d
 ·subst h1;rw[zcF,ygX rfl];have:=zoZ (p:=q.setR d {at_ Rc.o q.v.rs d with ss:=ss}) (i:=d) (by show d<(q.v.rs.set _ _).length;rw[yoX];exact hd) h96 (by rw[hat];exact hne);rw[hat] at this;exact this
 ·rw[zbm h1];by_cases h2:j=2*d+1
  ·subst h2;rw[zcQ zo,zcQ zo];have e:(2*d+1)/2=d:=zo;rw[e];show(match(q.v.rs.set d _)[d]? with|none=>none|some x=>_)=_;rw[yzY hd,ysX hd,←zaS Rc.o _ _ hd];have e2:¬(2*d+1)%2=0:=zo;simp only[e2,if_false]
  ·exact ztk (p:=q) (q:=q.setR d {at_ Rc.o q.v.rs d with ss:=ss}) (i:=d) yoX rfl rfl (λk hk=>zap _ _ _ _ _ (Ne.symm hk)) h1 h2
theorem CallOk.clip {P:Program} {f:FuncId} {s:St} {b n:Nat} (h:∀a cap,n<=cap->PureC P f [.sc (.slice (some a) n cap)] (.sc (.slice (some a) n n))):CallOk P f [.so b 0 n 0] s (.sl b 0 n n) s:=by
 intro m w args' hR hok hfr;obtain⟨x,_,rfl,⟨k,o,c,hm,hc,rfl⟩,rfl⟩:=hR;refine Calls.mono (h ⟨k,o+0,none⟩ (c-0) zo s m w _ ⟨_,_,rfl,rfl,rfl⟩ hok hfr) ?_;rintro e w' ⟨y,m',rfl,hg,hy⟩;cases hy;refine⟨_,m',rfl,hg,k,o,c,?_,rfl⟩;rw[←hm];exact hg.ext b (by rcases yeY b s.n with h|h;exact .inl h;exact .inr h)
theorem DCall.clip {P:Program} {f:FuncId} {s:St} {b n:Nat} {light:AV->Prop} {heavy:AV->St->Prop} (h:∀a cap,n<=cap->PureC P f [.sc (.slice (some a) n cap)] (.sc (.slice (some a) n n))) (hk:heavy (.sl b 0 n n) s):DCall P f [.so b 0 n 0] light heavy s:=⟨.inr ⟨_,s,CallOk.clip h,hk⟩⟩
theorem zoU {s:St} {α:Type} {enc:α->List AV} {sz:Nat} (hf:∀x,(enc x).length=sz) {l:List α} {b n:Nat} {e:TypeId} {q:Nat} (hr:s.h.get b=some (.row (l.flatMap enc) e q)) (hn:n=l.length*sz):zeF s b 0 n= .ok (l.flatMap enc):=by
 subst hn
 have hl:(l.flatMap enc).length=l.length*sz:=by rw[ynZ hf]
 unfold zeF Ex.rowAt;rw[hr];show takeN (l.flatMap enc) 0 (l.length*sz)=_;unfold takeN;rw[y8Z,ze2 zo,yqY zo]
theorem zde {ph:Bool} {q:Rp} {d j:Nat} {x:Rc} (hd:d<q.v.rs.length) (hx:x.ss=(at_ Rc.o q.v.rs d).ss) (hj:j≠2*d+1):gP ph (q.setR d x) j=gP ph q j:=by
 by_cases h1:j=2*d
 ·subst h1;by_cases h2:2*d<192
  ·rw[zcQ h2,zcQ h2,show 2*d/2=d by omega];show(match(q.v.rs.set d x)[d]? with|none=>none|some x=>_)=_;rw[yzY hd,ysX hd,←zaS Rc.o _ _ hd];simp only[show 2*d%2=0 by omega,if_true,hx]
  ·unfold gP;by_cases h3:2*d=192
   ·rw[ygX h3,ygX h3];rfl
   ·rw[yfX h3,yfX h3,yfX zo,yfX zo,show 2*d/2=d by omega];show(match(q.v.rs.set d x)[d]? with|none=>none|some x=>_)=_;rw[yzY hd,ysX hd,←zaS Rc.o _ _ hd];simp only[show 2*d%2=0 by omega,if_true,hx]
 ·exact ztk (p:=q) (q:=q.setR d x) (i:=d) yoX rfl rfl (λk hk=>zap _ _ _ _ _ (Ne.symm hk)) h1 hj
theorem zbC {A k i:Nat} {p:Rp} {x:Rc}:zaC A k (p.setR i x)=zaC A k p:=by
 unfold zaC Rp.setR;simp only[yoX]
noncomputable def rcE (A i:Nat) (x:Rc) (v:AV):List AV:=[bb x.u,ib x.q,ib x.k,ib x.b.r,ib x.b.q,ib x.ln,ib x.ds,LS 3 aNm Nm.o x.ns,seS false A i x,v]
theorem zkZ {h:T AO} {z:List Nat} {A i k n:Nat} {r:List Nat} {x:Rc} {es:List En} (hi:i<96) (hn:n=es.length) (hne:es≠[]):WL h z (RG A [(2*i+1,k)] r) (rcP false 20 i {x with es:=es}) (rcE A i x (.so k 0 n 0)):=by
 unfold rcP rcE;rw[zbB hne,hn];have e:seS false 20 i {x with es:=es}=seS false 20 i x:=rfl;rw[e]
 repeat refine WL.sc rfl ?_
 exact ywX (zmc hi (λp hp=>by rcases yiX.1 hp with rfl;show 2*i≠2*i+1;omega)) (ywX (zkO zo) yMX)
theorem zjB {d k:Nat} (hd:d<96):∀p∈[(2*d+1,k)],192≠p.1/\193≠p.1:=λp hp=>by rcases yiX.1 hp with rfl;show 192≠2*d+1/\193≠2*d+1;omega
theorem zqx {d k:Nat}:∀p∈[(2*d+1,k)],∀j,j<96->j≠d->2*j≠p.1/\2*j+1≠p.1:=λp hp j _ hj=>by rcases yiX.1 hp with rfl;show 2*j≠2*d+1/\2*j+1≠2*d+1;omega
theorem zx2 {p:Rp} {d k:Nat} {x:Rc} (hd:d<p.v.rs.length) (hx:x.ss=(at_ Rc.o p.v.rs d).ss):∀j o1,gP false (p.setR d x) j=some o1->(∀q∈[(2*d+1,k)],j≠q.1)->gP false p j=some o1/\zaZ o1:=λj o1 ho hj=>⟨by rw[←zde hd hx (hj (2*d+1,k) (by simp))];exact ho,yQX _ _ j o1 ho⟩
theorem zjA {h:T AO} {z:List Nat} {R:Nat->Option Nat} {p:Rp} {d k:Nat} {es:List En} {c:List AV} (hd:d<p.v.rs.length) (hd96:d<96) (hne:es≠[]) (hk:h.get k=some (.row c 73 4)) (hc:∃t,c=es.flatMap aEn++t):∀q∈[(2*d+1,k)],∀o1,gP false (p.setR d {at_ Rc.o p.v.rs d with es:=es}) q.1=some o1->∃o,h.get q.2=some o/\WOG h z R o1 o:=λq hq o1 ho=>by
 rcases yiX.1 hq with rfl
 have hat:at_ Rc.o (p.setR d {at_ Rc.o p.v.rs d with es:=es}).v.rs d={at_ Rc.o p.v.rs d with es:=es}:=zaj _ _ _ _ hd;have hge:=zfA (ph:=false) (p:=p.setR d {at_ Rc.o p.v.rs d with es:=es}) (i:=d) (by show d<(p.v.rs.set _ _).length;rw[yoX];exact hd) hd96 (by rw[hat];exact hne);rw[hat] at hge;have ho:gP false (p.setR d {at_ Rc.o p.v.rs d with es:=es}) (2*d+1)=some o1:=ho;rw[hge] at ho;cases ho;obtain⟨t,ht⟩:=hc;exact⟨_,hk,rfl,rfl, .inr ⟨t,ht,zbp _⟩⟩
theorem zif {h:T AO} {z:List Nat} {A:Nat} {ph:Bool} {p:Rp} (H:Lies h z A ph p) {b k:Nat} {e e':TypeId} {q q':Nat} (h96:p.v.rs.length<=96) (hp:h.get b=some (.row (zaC A k p) e q)) (hb:b∈z) (hr:h.get k=some (.row (flatI (rcP ph A) 0 p.v.rs) e' q')) (hk:k∈z):Wz h z (.cp (pC p) 0) (.ptr b 0):=by
 unfold Wz;refine⟨rfl,hb,_,_,_,hp,(by show 7<=7;omega),?_⟩;show Wzl h z (pC p) (zaC A k p);exact Wzc (ydX rfl) (Wzc (ydX rfl) (Wzc (zqn H h96 hr hk rfl) (Wzc (ydX rfl) (Wzc (ydX rfl) (Wzc Wza (Wzc Wza Wzn))))))
end Ck
namespace Go.Proofs.YtgcjejajljhnaaaGreatDoor
open Go.Ex Ck
set_option maxRecDepth 100000
set_option maxHeartbeats 8000000
theorem ztT (n:Nat) (a:Addr) (cap:Nat) (h:n<=cap):PureC Tryz.prog 182 [.sc (.slice (some a) n cap)] (.sc (.slice (some a) n n)):=by
 refine ytX zal rfl ?_;refine Ex.go ?_;refine .z [] ?_;exact ydX rfl
theorem zwk :PureC Tryz.prog 182 [LS 4 aEn En.o []] (.lst 0 0 λi=>aEn (at_ En.o [] i)):=by
 refine ytX zal rfl ?_;refine Ex.go ?_;refine .z [] ?_;exact ydX rfl
theorem zmP (n:Nat) (p:Ck.Rp) (d r:Nat) (nm:List UInt8) (hf:Rf n p) (hn:n<=96) (hd:d<n) (hr:r<n) (hse:∀x∈p.v.rs,x.ss.length<=100000/\x.es.length<=1000):HG Tryz.prog 2 20 220 154 [.ptr 0 0,ib (d:Nat),tb nm,ib (r:Nat)] (gP false p) [.row (zaC 20 1 p) 106 0, .row (flatI (rcP false 20) 0 p.v.rs) 66 10] (.tup [])
  (gP false (Ck.enter p d nm r)) [.row (zaC 20 1 (Ck.enter p d nm r)) 106 0, .row (flatI (rcP false 20) 0 (Ck.enter p d nm r).v.rs) 66 10]:=by
 have hpn:p.v.rs.length=n:=hf.n;have h96:p.v.rs.length<=96:=zo
 have hd0:(0:Int)<=(d:Nat)/\((d:Nat):Int)<(p.v.rs.length:Nat):=⟨zo,zo⟩
 have hr0:(0:Int)<=(r:Nat)/\((r:Nat):Int)<(p.v.rs.length:Nat):=⟨zo,zo⟩
 have hdl:d<p.v.rs.length:=zo;have hrl:r<p.v.rs.length:=zo;have hd96:d<96:=zo;have hr96:r<96:=zo
 have hoff9:0+((d:Nat):Int).toNat*10+9=d*10+9:=by simp
 have hoffr:0+((r:Nat):Int).toNat*10=r*10:=by simp
 have href:=zie p r hrl h96
 obtain⟨y,hy⟩:∃y,at_ Rc.o p.v.rs r=y:=⟨_,rfl⟩
 have hsz:=znl y (by rw[←hy];exact(hse _ (at_mem Rc.o p.v.rs r hrl)).1);have hxe:(at_ Rc.o p.v.rs d).es.length<=1000:=(hse _ (at_mem Rc.o p.v.rs d hdl)).2
 have hent:Ck.enter p d nm r=p.setR d {at_ Rc.o p.v.rs d with es:=(at_ Rc.o p.v.rs d).es++[⟨nm,p.ref r,Ck.sizeOf y⟩]}:=by
  unfold Ck.enter;rw[zae,zae,hy,yrX]
 rw[hent]
 have hrow:∀{h:T AO} {z:List Nat} {k m:Nat} {X:Rc},m=X.es.length->X.es≠[]->X={at_ Rc.o p.v.rs d with es:=X.es}->WRowG h z (RG 20 [(2*d+1,k)] [0,1]) (flatI (rcP false 20) 0 (p.setR d X).v.rs) (flatI (zfS (rcP false 20) d (rcE 20 d (at_ Rc.o p.v.rs d) (.so k 0 m 0))) 0 p.v.rs):=λhm hne hX=>by
  refine yzX (zaI (i:=d) h96 yoX (λk hk=>zap _ _ _ _ _ (Ne.symm hk)) zqx ?_);show WL _ _ _ (rcP false 20 d (at_ Rc.o (p.v.rs.set d _) d)) _;rw[zaj _ _ _ _ hdl,hX];exact zkZ hd96 hm hne
 have hne:(at_ Rc.o p.v.rs d).es++[(⟨nm,p.ref r,Ck.sizeOf y⟩:En)]≠[]:=by simp
 refine HG.of zal zo ?_
 by_cases he:(at_ Rc.o p.v.rs d).es=[]
 ·have e1:seE 20 d (at_ Rc.o p.v.rs d)=LS 4 aEn En.o []:=zbM he
  (conv=>whnf);repeat(first|refine Need.mk ?_ ?_;(focus(first|exact hd0|exact hr0))|refine RK.of (zam (zab false 20) Rc.o (k:=9) hoff9 rfl rfl hdl (by decide) rfl) ?_|rw[e1]|refine yxX (zwk) ?_|refine yRY (zF 20 [0,1]) (href) (Wzc (zif (Lies.mk (λj hj=>za3 hj) (λj hj=>zah zo)) h96 rfl (zbt (by simp)) rfl (zbt (by simp))) (Wzc (ydX rfl) Wzn)) ?_|refine RK.of (zch (zab false 20) Rc.o hoffr rfl rfl hrl rfl) ?_|rw[hy]|refine yRY (zF 20 []) (hsz) (zkM (LiesS.mk (λj hj=>za3 (y1Y hj (by decide))) (λj hj=>zah (show j<220-20 from y1Y hj (by decide)))) hrl hr96 hy) ?_|refine zaV (zab false 20) Rc.o (k:=9) [.so 221 0 1 0] (rcE 20 d (at_ Rc.o p.v.rs d) (.so 221 0 1 0)) hoff9 rfl rfl rfl rfl rfl rfl hdl (by decide) rfl ?_|refine Ex.g ?_);conv=>whnf
  refine⟨?_⟩;refine yCX [0,1] [] [(2*d+1,221)] rfl rfl rfl rfl ?_ ?_ ?_ ?_
  ·refine⟨⟨rfl,rfl,?_⟩,⟨rfl,rfl,hrow (by rw[he];rfl) hne rfl⟩,zT⟩;rw[zbC];exact yzX (zdY ⟨rfl,rfl⟩ (zjB hd96))
  ·exact zx2 hdl rfl
  ·exact zjA hdl hd96 hne rfl ⟨[],by rw[he];rfl⟩
  ·(repeat' first|exact zT|refine zA ?_ ?_)
 ·have e1:seE 20 d (at_ Rc.o p.v.rs d)= .so (fam 20 (2*d+1)) 0 (at_ Rc.o p.v.rs d).es.length 0:=zbB he
  have hble:Nat.ble ((at_ Rc.o p.v.rs d).es.length+1) (at_ Rc.o p.v.rs d).es.length=false:=by cases h:Nat.ble ((at_ Rc.o p.v.rs d).es.length+1) (at_ Rc.o p.v.rs d).es.length with|false=>rfl|true=>have:=ynX h;omega
  have hge:gP false p (2*d+1)=some (.row ((at_ Rc.o p.v.rs d).es.flatMap aEn) 73 4):=zfA hdl hd96 he;have h9:2*d+1<220-20:=zo
  (conv=>whnf);repeat(first|refine Need.mk ?_ ?_;(focus(first|exact hd0|exact hr0))|refine RK.of (zam (zab false 20) Rc.o (k:=9) hoff9 rfl rfl hdl (by decide) rfl) ?_|rw[e1]|refine DCall.clip (λa cap h=>ztT _ a cap h) ?_|refine yRY (zF 20 [0,1]) (href) (Wzc (zif (Lies.mk (λj hj=>za3 hj) (λj hj=>zah zo)) h96 rfl (zbt (by simp)) rfl (zbt (by simp))) (Wzc (ydX rfl) Wzn)) ?_|refine RK.of (zch (zab false 20) Rc.o hoffr rfl rfl hrl rfl) ?_|rw[hy]|refine yRY (zF 20 []) (hsz) (zkM (LiesS.mk (λj hj=>za3 (y1Y hj (by decide))) (λj hj=>zah (show j<220-20 from y1Y hj (by decide)))) hrl hr96 hy) ?_|refine KIf.f hble ?_|refine RK.of (zoU (enc:=aEn) (sz:=4) (λ_=>rfl) ((zah h9).trans hge) rfl) ?_|refine zaV (zab false 20) Rc.o (k:=9) [.so 221 0 ((at_ Rc.o p.v.rs d).es.length+1) 0] (rcE 20 d (at_ Rc.o p.v.rs d) (.so 221 0 ((at_ Rc.o p.v.rs d).es.length+1) 0)) hoff9 rfl rfl rfl rfl rfl rfl hdl (by decide) rfl ?_|refine Ex.g ?_);conv=>whnf
  refine⟨?_⟩;refine yCX [0,1] [] [(2*d+1,221)] rfl rfl rfl rfl ?_ ?_ ?_ ?_
  ·refine⟨⟨rfl,rfl,?_⟩,⟨rfl,rfl,hrow (by simp) hne rfl⟩,zT⟩;rw[zbC];exact yzX (zdY ⟨rfl,rfl⟩ (zjB hd96))
  ·exact zx2 hdl rfl
  ·exact zjA hdl hd96 hne rfl ⟨[],by rw[yJX,yKX];rfl⟩
  ·(repeat' first|exact zT|refine zA ?_ ?_)
end Go.Proofs.YtgcjejajljhnaaaGreatDoor
