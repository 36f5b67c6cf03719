/- Own text, part Trnk 6: walks of the package acl and of its reference, and the plain laws that they lean on; no statement of the seat is here. -/
import Derived.Test.YtgcjejajljhnaaaGreatDoorTrnk5
import Derived.Test.YtgcjejajljhnaaaGreatDoorTrnk4
set_option linter.all false
namespace Ck
open Go Go.Ex
def butL :List UInt8:=[34,42,47,58,60,62,63,92,124]
theorem legal_f {c:UInt8} {d:Nat} (hd:d<9) (h:gd 0 butL d=c):zaI c=false:=by
 have hm:c∈butL:=by
  rw[←h];have:gd 0 butL d=at_ 0 butL d:=rfl;rw[this];exact at_mem 0 butL d hd
 unfold zaI
 have:butL.contains c=true:=by simpa using hm
 unfold butL at this;rw[this];simp
theorem legal_t {c:UInt8} (h1:32≤c.toNat∧c.toNat≤126) (h:∀d,d<9→gd 0 butL d≠c):zaI c=true:=by
 unfold zaI;rw[decide_eq_true h1.1,decide_eq_true h1.2]
 have:butL.contains c=false:=by
  cases e:butL.contains c
  ·rfl
  ·have hm:c∈butL:=by simpa using e
   obtain⟨i,hi,hx⟩:=List.getElem_of_mem hm;exfalso;refine h i hi ?_;have:gd 0 butL i=at_ 0 butL i:=rfl;rw[this,zaG _ _ _ hi];exact hx
 unfold butL at this;rw[this];rfl
theorem legalE_nil :legal []=false:=rfl
theorem legalE_eq {s:List UInt8} (h0:s≠[]) (hl:s.length≤32):legal s=(s.all zaI&&(!decide (s=[46,46])&&(!decide (gd 0 s (s.length-1)=32)&& !decide (gd 0 s (s.length-1)=46)))):=by
 have hp:0<s.length:=List.length_pos_iff.2 h0
 have hlast:s.getLast? =some (gd 0 s (s.length-1)):=by
  have:gd 0 s (s.length-1)=at_ 0 s (s.length-1):=rfl;rw[List.getLast?_eq_getElem?,this,zaG _ _ _ (by omega),List.getElem?_eq_getElem (by omega)]
 unfold legal;rw[hlast];generalize gd 0 s (s.length-1)=g
 have e1:(s !=[])=true:=by simpa using h0
 have e2:(s !=[46,46])= !decide (s=[46,46]):=by
  by_cases h:s=[46,46]
  ·simp[h]
  ·simp[h]
 have e3:∀c:UInt8,(some g !=some c)= !decide (g=c):=fun c=>by
  by_cases h:g=c
  ·simp[h]
  ·simp[h]
 rw[e1,e2,e3,e3,decide_eq_true hl];simp only[Bool.true_and,Bool.and_assoc]
end Ck
namespace Go.Proofs.YtgcjejajljhnaaaGreatDoor
open Go.Ex Ck
set_option maxRecDepth 100000
set_option maxHeartbeats 8000000
theorem nlegal_k (c:UInt8):PureC Tryz.prog 138 [.sc (.int .u8 c.toNat)] (bb (zaI c)):=by
 refine PureC.of kmix rfl ?_;by_cases h1:c.toNat<32
 ·have hf:zaI c=false:=by unfold zaI;rw[decide_eq_false (by omega)];rfl
  rw[hf]
  (conv=>whnf);repeat(first|refine KIf.t rfl ?_|refine KIf.t (decide_eq_true (by omega)) ?_);conv=>whnf
  refine .z [] ?_;exact zaa rfl
 by_cases h2:126<c.toNat
 ·have hf:zaI c=false:=by unfold zaI;rw[decide_eq_false (show ¬c.toNat≤126 by omega),Bool.and_false];rfl
  rw[hf]
  (conv=>whnf);repeat((first|(refine KIf.t (decide_eq_true (by omega)) ?_;conv=>whnf)|(refine KIf.f (decide_eq_false (by omega)) ?_;conv=>whnf)))
  refine .z [] ?_;exact zaa rfl
 (conv=>whnf);repeat(((refine KIf.f (decide_eq_false (by omega)) ?_;conv=>whnf)))
 refine WLoop.inv kmix (D:=Nat) (fun d=>9-d) (fun d=>d≤9∧∀j,j<d→gd 0 butL j≠c) (fun d=>slots [(0, .sc (.int .u8 c.toNat)),(2,bb false),(3,ib d)] 18) (fun d=>zaj []) 0 ⟨Nat.zero_le _,fun j hj=>absurd hj (Nat.not_lt_zero _)⟩ ?_ ?_
 ·(refine Weak.of [] [] rfl rfl ?_ ?_<;>(repeat' first|exact zT|refine zA ?_ ?_)<;>(conv=>whnf)<;>(repeat'(exact rfl)))
 rintro d ⟨hd,hI⟩;by_cases hlt:d<9
 ·have hix:(0:Int)≤d∧(d:Int)<([34,42,47,58,60,62,63,92,124]:List UInt8).length:=by
   show(0:Int)≤d∧(d:Int)<9;omega
  by_cases he:gd 0 butL d=c
  ·rw[legal_f hlt he]
   have he2:((gd 0 butL d).toNat:Int)=(c.toNat:Int):=by rw[he]
   (conv=>whnf);repeat(first|refine KIf.dt ?_ ?_;assumption|refine Need.mk ?_ ?_;trivial|refine KIf.t (decide_eq_true (by omega)) ?_);conv=>whnf
   refine .z [] ?_;exact zaa rfl
  ·have he2:¬((gd 0 butL d).toNat:Int)=(c.toNat:Int):=fun e=>he (UInt8.toNat_inj.1 (by omega))
   (conv=>whnf);repeat(first|refine KIf.df ?_ ?_;assumption|refine Need.mk ?_ ?_;(first|trivial|(constructor<;>omega))|refine KIf.t (decide_eq_true (by omega)) ?_);conv=>whnf
   refine⟨d+1,⟨hlt,fun j hj=> ?_⟩,by dsimp only;omega,?_⟩
   ·by_cases e:j=d
    ·rw[e];exact he
    ·exact hI j (by omega)
   ·(refine Weak.of [] [] rfl rfl ?_ ?_<;>(repeat' first|exact zT|refine zA ?_ ?_)<;>(conv=>whnf)<;>(repeat'(exact rfl)))
 ·rw[legal_t (by omega) fun j hj=>hI j (by omega)]
  (conv=>whnf);repeat(((refine KIf.f (decide_eq_false (by omega)) ?_;conv=>whnf)))
  refine .z [] ?_;exact zaa rfl
theorem zhy (s:List UInt8) (hs:s.length≤100000):PureC Tryz.prog 99 [tb s] (ib (zaw s)):=by
 unfold zaw;refine PureC.of kmix rfl ?_;by_cases h:32<s.length
 ·rw[if_pos h]
  (conv=>whnf);repeat(((refine KIf.t (decide_eq_true (by omega)) ?_;conv=>whnf)))
  refine .z [] ?_;exact zaa rfl
 rw[if_neg h]
 by_cases h0:s=[]
 ·rw[h0,legalE_nil]
  (conv=>whnf);repeat(first|refine KIf.t rfl ?_|refine KIf.f rfl ?_);conv=>whnf
  refine .z [] ?_;exact zaa rfl
 have hL:=legalE_eq h0 (by omega);have hp:0<s.length:=List.length_pos_iff.2 h0
 by_cases h1:s=[46]
 ·have hf:legal s=false:=by rw[h1];rfl
  rw[hf]
  (conv=>whnf);repeat(first|refine KIf.dt ?_ ?_;assumption|refine KIf.df ?_ ?_;assumption|refine KIf.t rfl ?_|refine KIf.f (decide_eq_false (by omega)) ?_);conv=>whnf
  refine .z [] ?_;exact zaa rfl
 by_cases h2:s=[46,46]
 ·have hf:legal s=false:=by rw[h2];rfl
  rw[hf]
  (conv=>whnf);repeat(first|refine KIf.dt ?_ ?_;assumption|refine KIf.df ?_ ?_;assumption|refine KIf.t rfl ?_|refine KIf.f (decide_eq_false (by omega)) ?_);conv=>whnf
  refine .z [] ?_;exact zaa rfl
 have hix:0≤(s.length:Int)-1∧(s.length:Int)-1<s.length:=by omega
 have hn:((s.length:Int)-1).toNat=s.length-1:=by omega
 have hcmp:∀(c:UInt8) (n:Int),n=(c.toNat:Int)→((((gd 0 s ((s.length:Int)-1).toNat).toNat:Nat):Int)=n↔gd 0 s (s.length-1)=c):=fun c n e=>by
  rw[hn,e];constructor
  ·exact fun e=>UInt8.toNat_inj.1 (by omega)
  ·exact fun e=>by rw[e]
 have c32:=hcmp 32 32 rfl;have c46:=hcmp 46 46 rfl;by_cases h3:gd 0 s (s.length-1)=32
 ·have hf:legal s=false:=by rw[hL,decide_eq_true h3];simp
  rw[hf]
  (conv=>whnf);repeat(first|refine KIf.df ?_ ?_;assumption|refine KIf.t rfl ?_|refine Need.mk ?_ ?_;(first|trivial|(constructor<;>omega))|refine KIf.t (decide_eq_true (c32.2 h3)) ?_|refine KIf.f (decide_eq_false (by omega)) ?_);conv=>whnf
  refine .z [] ?_;exact zaa rfl
 by_cases h4:gd 0 s (s.length-1)=46
 ·have hf:legal s=false:=by rw[hL,decide_eq_true h4];simp
  rw[hf]
  (conv=>whnf);repeat(first|refine KIf.df ?_ ?_;assumption|refine Need.mk ?_ ?_;(first|trivial|(constructor<;>omega))|refine KIf.f (decide_eq_false (fun e=>h3 (c32.1 e))) ?_|refine KIf.t (decide_eq_true (c46.2 h4)) ?_|refine KIf.f (decide_eq_false (by omega)) ?_);conv=>whnf
  refine .z [] ?_;exact zaa rfl
 rw[decide_eq_false h2,decide_eq_false h3,decide_eq_false h4] at hL
 (conv=>whnf);repeat(first|refine KIf.df ?_ ?_;assumption|refine Need.mk ?_ ?_;(first|trivial|(constructor<;>omega))|refine KIf.f (decide_eq_false (fun e=>h3 (c32.1 e))) ?_|refine KIf.f (decide_eq_false (fun e=>h4 (c46.1 e))) ?_|refine KIf.f (decide_eq_false (by omega)) ?_);conv=>whnf
 refine WLoop.inv kmix (D:=Nat) (fun d=>s.length-d) (fun d=>d≤s.length∧∀j,j<d→zaI (gd 0 s j)=true) (fun d=>slots [(0,tb s),(2,ib 0),(3,ib d)] 44) (fun d=>zaj []) 0 ⟨Nat.zero_le _,fun j hj=>absurd hj (Nat.not_lt_zero _)⟩ ?_ ?_
 ·(refine Weak.of [] [] rfl rfl ?_ ?_<;>(repeat' first|exact zT|refine zA ?_ ?_)<;>(conv=>whnf)<;>(repeat'(exact rfl)))
 rintro d ⟨hd,hI⟩;by_cases hlt:d<s.length
 ·have hE:=nlegal_k (gd 0 s d)
  obtain⟨b,hb⟩:∃b,zaI (gd 0 s d)=b:=⟨_,rfl⟩
  have hid:(0:Int)≤d∧(d:Int)<s.length:=by omega
  rw[hb] at hE;cases b
  ·have ha:s.all zaI=false:=by
    rw[List.all_eq_false];exact⟨_,at_mem 0 s d hlt,by rw[show at_ 0 s d=gd 0 s d from rfl,hb];decide⟩
   rw[hL,ha]
   (conv=>whnf);repeat(first|refine KIf.t rfl ?_|refine Need.mk ?_ ?_;trivial|refine KCall.pure (hE) ?_|refine KIf.t (decide_eq_true (by omega)) ?_);conv=>whnf
   refine .z [] ?_;exact zaa rfl
  ·(conv=>whnf);repeat(first|refine KIf.f rfl ?_|refine Need.mk ?_ ?_;(first|trivial|(constructor<;>omega))|refine KCall.pure (hE) ?_|refine KIf.t (decide_eq_true (by omega)) ?_);conv=>whnf
   refine⟨d+1,⟨hlt,fun j hj=> ?_⟩,by dsimp only;omega,?_⟩
   ·by_cases e:j=d
    ·rw[e];exact hb
    ·exact hI j (by omega)
   ·(refine Weak.of [] [] rfl rfl ?_ ?_<;>(repeat' first|exact zT|refine zA ?_ ?_)<;>(conv=>whnf)<;>(repeat'(exact rfl)))
 ·have ha:s.all zaI=true:=by
   rw[List.all_eq_true];intro x hx;obtain⟨i,hi,rfl⟩:=List.getElem_of_mem hx;have:=hI i (by omega);rw[show gd 0 s i=at_ 0 s i from rfl,zaG _ _ _ hi] at this;exact this
  rw[hL,ha]
  (conv=>whnf);repeat(((refine KIf.f (decide_eq_false (by omega)) ?_;conv=>whnf)))
  refine .z [] ?_;exact zaa rfl
theorem zeH (r:Ref):PureC Tryz.prog 97 [.agg (aRef r)] (ib (zaC r)):=by
 unfold zaC;have h1:=zaR r.r 0 95;have h2:=zaR r.q 1 65535;refine PureC.of kmix rfl ?_;cases e:wi r.r 0 95
 ·rw[e] at h1
  (conv=>whnf);repeat(first|refine KIf.t rfl ?_|refine KCall.pure (h1) ?_);conv=>whnf
  refine .z [] ?_;exact zaa rfl
 ·rw[e] at h1;cases e2:wi r.q 1 65535
  ·rw[e2] at h2
   (conv=>whnf);repeat(first|refine KIf.t rfl ?_|refine KIf.f rfl ?_|refine KCall.pure (h1) ?_|refine KCall.pure (h2) ?_);conv=>whnf
   refine .z [] ?_;exact zaa rfl
  ·rw[e2] at h2
   (conv=>whnf);repeat(first|refine KIf.f rfl ?_|refine KCall.pure (h1) ?_|refine KCall.pure (h2) ?_);conv=>whnf
   refine .z [] ?_;exact zaa rfl
theorem zk8 (n:Int):PureC Tryz.prog 96 [ib n] (bb (num n)):=by
 refine PureC.of kmix rfl ?_
 (conv=>whnf);repeat((refine KCall.pure (zaR _ _ _) ?_;conv=>whnf))
 refine .z [] ?_;exact zaa rfl
theorem zke (n:Int):PureC Tryz.prog 98 [ib n] (ib (most n)):=by
 unfold most;refine PureC.of kmix rfl ?_;by_cases h:n=5
 ·rw[if_pos h]
  (conv=>whnf);repeat((refine KIf.dt ?_ ?_;assumption;conv=>whnf))
  refine .z [] ?_;exact zaa rfl
 ·rw[if_neg h]
  (conv=>whnf);repeat((refine KIf.df ?_ ?_;assumption;conv=>whnf))
  refine .z [] ?_;exact zaa rfl
theorem nstreamErr_k (x:Sm) (hx:x.r.length≤100000):PureC Tryz.prog 100 [.agg (aSm x)] (ib (zbU x)):=by
 unfold zbU;refine PureC.of kmix rfl ?_;by_cases h:24<x.r.length
 ·rw[if_pos h]
  (conv=>whnf);repeat(((refine KIf.t (decide_eq_true (by omega)) ?_;conv=>whnf)))
  refine .z [] ?_;exact zaa rfl
 rw[if_neg h]
 (conv=>whnf);repeat(((refine KIf.f (decide_eq_false (by omega)) ?_;conv=>whnf)))
 refine WLoop.inv kmix (D:=Nat) (fun d=>x.r.length-d) (fun d=>d≤x.r.length∧∀j,j<d→zaW (at_ Run.o x.r j)=false) (fun d=>slots [(1, .ptr 0 0),(2,ib 0),(3,ib d)] 37) (fun d=>zaj [.row (aSm x) 80 0]) 0 ⟨Nat.zero_le _,fun j hj=>absurd hj (Nat.not_lt_zero _)⟩ ?_ ?_
 ·(refine Weak.of [0] [] rfl rfl ?_ ?_<;>(repeat' first|exact zT|refine zA ?_ ?_)<;>(conv=>whnf)<;>(repeat'(exact rfl))<;>((exact Or.inr ⟨rfl,rfl⟩)))
 rintro d ⟨hd,hI⟩;by_cases hlt:d<x.r.length
 ·have h1:=zaR (at_ Run.o x.r d).s (-1) 2147483647;have h2:=zaR (at_ Run.o x.r d).l 1 512
  have hany:zaW (at_ Run.o x.r d)=true→x.r.any zaW=true:=fun e=>List.any_eq_true.2 ⟨_,at_mem Run.o x.r d hlt,e⟩
  obtain⟨a,ha⟩:∃a,wi (at_ Run.o x.r d).s (-1) 2147483647=a:=⟨_,rfl⟩
  obtain⟨b,hb⟩:∃a,wi (at_ Run.o x.r d).l 1 512=a:=⟨_,rfl⟩
  rw[ha] at h1;rw[hb] at h2;cases a
  ·rw[hany (by unfold zaW;rw[ha];rfl)]
   (conv=>whnf);repeat(first|refine KIf.t rfl ?_|refine Need.mk ?_ ?_;omega|refine KCall.pure (h1) ?_|refine KIf.t (decide_eq_true (by omega)) ?_);conv=>whnf
   refine .z [] ?_;exact zaa rfl
  cases b
  ·rw[hany (by unfold zaW;rw[ha,hb];rfl)]
   (conv=>whnf);repeat(first|refine KIf.t rfl ?_|refine KIf.f rfl ?_|refine Need.mk ?_ ?_;omega|refine KCall.pure (h1) ?_|refine KCall.pure (h2) ?_|refine KIf.t (decide_eq_true (by omega)) ?_);conv=>whnf
   refine .z [] ?_;exact zaa rfl
  (conv=>whnf);repeat(first|refine KIf.f rfl ?_|refine Need.mk ?_ ?_;(first|omega|(constructor<;>omega))|refine KCall.pure (h1) ?_|refine KCall.pure (h2) ?_|refine KIf.t (decide_eq_true (by omega)) ?_);conv=>whnf
  refine⟨d+1,⟨hlt,fun j hj=> ?_⟩,by dsimp only;omega,?_⟩
  ·by_cases e:j=d
   ·rw[e];unfold zaW;rw[ha,hb];rfl
   ·exact hI j (by omega)
  ·(refine Weak.of [0] [] rfl rfl ?_ ?_<;>(repeat' first|exact zT|refine zA ?_ ?_)<;>(conv=>whnf)<;>(repeat'(exact rfl))<;>((exact Or.inr ⟨rfl,rfl⟩)))
 ·have hno:x.r.any zaW=false:=by
   rw[List.any_eq_false];intro y hy;obtain⟨i,hi,rfl⟩:=List.getElem_of_mem hy;have:=hI i (by omega);rw[zaG _ _ _ hi] at this;rw[this];decide
  have hN:=zk8 x.z;rw[hno];cases e:num x.z
  ·rw[e] at hN
   (conv=>whnf);repeat(first|refine KIf.t rfl ?_|refine KCall.pure (hN) ?_|refine KIf.f (decide_eq_false (by omega)) ?_);conv=>whnf
   refine .z [] ?_;exact zaa rfl
  ·rw[e] at hN
   (conv=>whnf);repeat(first|refine KIf.f rfl ?_|refine KCall.pure (hN) ?_|refine KIf.f (decide_eq_false (by omega)) ?_);conv=>whnf
   refine .z [] ?_;exact zaa rfl
theorem nrecordErr_k (i:Int) (x:Rc) (h1:x.ns.length≤100000) (h2:x.ss.length≤100000) (h3:x.es.length≤100000) (h4:∀y∈x.ss,y.r.length≤100000) (h5:∀y∈x.ns,y.n.length≤100000) (h6:∀y∈x.es,y.n.length≤100000):PureC Tryz.prog 51 [aRcs x,ib i] (ib (zbg i x)):=by
 have hA:=zaR x.q 1 65535;have hB:=zaR x.k 0 3;have hC:=zk8 x.ln;have hD:=zk8 x.ds
 have hk:wi x.k 0 3=true→0≤x.k∧x.k≤3:=fun e=>by unfold wi at e;simpa using e
 have hln:num x.ln=true→0≤x.ln∧x.ln≤2147483647:=fun e=>by unfold num wi at e;simpa using e
 have hds:num x.ds=true→0≤x.ds∧x.ds≤2147483647:=fun e=>by unfold num wi at e;simpa using e
 unfold zbg;rw[zhI];unfold Rc.parts
 generalize wi x.q 1 65535=a at*
 generalize wi x.k 0 3=b at*
 generalize num x.ln=c at*
 generalize num x.ds=d at*
 refine PureC.of kmix rfl ?_;cases a
 ·(conv=>whnf);repeat(first|refine KIf.t rfl ?_|refine KCall.pure (hA) ?_);conv=>whnf
  refine .z [] ?_;exact zaa rfl
 cases b
 ·(conv=>whnf);repeat(first|refine KIf.t rfl ?_|refine KIf.f rfl ?_|refine KCall.pure (hA) ?_|refine KCall.pure (hB) ?_);conv=>whnf
  refine .z [] ?_;exact zaa rfl
 cases c
 ·(conv=>whnf);repeat(first|refine KIf.t rfl ?_|refine KIf.f rfl ?_|refine KCall.pure (hA) ?_|refine KCall.pure (hB) ?_|refine KCall.pure (hC) ?_);conv=>whnf
  refine .z [] ?_;exact zaa rfl
 cases d
 ·(conv=>whnf);repeat(first|refine KIf.t rfl ?_|refine KIf.f rfl ?_|refine KCall.pure (hA) ?_|refine KCall.pure (hB) ?_|refine KCall.pure (hC) ?_|refine KCall.pure (hD) ?_);conv=>whnf
  refine .z [] ?_;exact zaa rfl
 have hk:=hk rfl;have hln:=hln rfl;have hds:=hds rfl;have e0:(!true||(!true||(!true|| !true)))=false:=rfl;rw[if_neg (by rw[e0];decide)]
 have hS:((x.ns.length+x.ss.length+x.es.length:Nat):Int)=(x.ns.length:Int)+(x.ss.length:Int)+(x.es.length:Int):=by omega
 have hcase:(x.u=false∧¬x.b=Ref.o)∨(x.u=false∧x.b=Ref.o∧0<x.ln+x.ds+((x.ns.length+x.ss.length+x.es.length:Nat):Int)+x.k)∨(x.u=true∧x.k=3∧¬zaC x.b=0)∨(x.u=true∧¬x.k=3∧¬x.b=Ref.o)∨(x.u=false∧x.b=Ref.o∧¬0<x.ln+x.ds+((x.ns.length+x.ss.length+x.es.length:Nat):Int)+x.k∧¬x.k=3)∨(x.u=true∧x.k=3∧zaC x.b=0)∨(x.u=true∧¬x.k=3∧x.b=Ref.o):=by
  cases hu:x.u
  ·by_cases hb:x.b=Ref.o
   ·by_cases hs:0<x.ln+x.ds+((x.ns.length+x.ss.length+x.es.length:Nat):Int)+x.k
    ·exact .inr (.inl ⟨rfl,hb,hs⟩)
    ·exact .inr (.inr (.inr (.inr (.inl ⟨rfl,hb,hs,by omega⟩))))
   ·exact .inl ⟨rfl,hb⟩
  ·by_cases h3:x.k=3
   ·by_cases hr:zaC x.b=0
    ·exact .inr (.inr (.inr (.inr (.inr (.inl ⟨rfl,h3,hr⟩)))))
    ·exact .inr (.inr (.inl ⟨rfl,h3,hr⟩))
   ·by_cases hb:x.b=Ref.o
    ·exact .inr (.inr (.inr (.inr (.inr (.inr ⟨rfl,h3,hb⟩)))))
    ·exact .inr (.inr (.inr (.inl ⟨rfl,h3,hb⟩)))
 have hgood:x.u=true→¬(!x.u&&(!decide (x.b=Ref.o)||decide (0<x.ln+x.ds+((x.ns.length+x.ss.length+x.es.length:Nat):Int)+x.k)))=true:=fun hu=>by rw[hu];simp
 rcases hcase with⟨hu,hb⟩|⟨hu,hb,hs⟩|⟨hu,h3,hr⟩|⟨hu,h3,hb⟩|⟨hu,hb,hs,h3⟩|⟨hu,h3,hr⟩|⟨hu,h3,hb⟩
 ·rw[if_pos (by rw[hu,decide_eq_false hb];rfl)]
  (conv=>whnf);repeat(first|refine KIf.f ?_ ?_;assumption|refine KIf.t rfl ?_|refine KIf.t ?_ ?_;(focus(simp only[Bool.not_eq_true',Bool.not_eq_false',Bool.not_true,Bool.not_false];assumption))|refine Need.mk ?_ ?_;((constructor<;>omega))|refine KCall.pure (hA) ?_|refine KCall.pure (hB) ?_|refine KCall.pure (hC) ?_|refine KCall.pure (hD) ?_|refine EqK.of (zaY x.b Ref.o) ?_|refine KIf.t (congrArg Bool.not (decide_eq_false hb)) ?_);conv=>whnf
  refine .z [] ?_;exact zaa rfl
 ·rw[if_pos (by rw[hu,decide_eq_true hb,decide_eq_true hs];rfl)];by_cases z1:x.ln=0
  all_goals by_cases z2:x.ds=0
  all_goals by_cases z3:x.ns.length+x.ss.length+x.es.length=0
  all_goals by_cases z4:x.k=0
  all_goals first|(exfalso;omega)|skip
  all_goals
   (conv=>whnf);repeat(first|refine KIf.f ?_ ?_;assumption|refine KIf.t rfl ?_|refine KIf.t ?_ ?_;(focus(simp only[Bool.not_eq_true',Bool.not_eq_false',Bool.not_true,Bool.not_false];assumption))|refine Need.mk ?_ ?_;((constructor<;>omega))|refine KCall.pure (hA) ?_|refine KCall.pure (hB) ?_|refine KCall.pure (hC) ?_|refine KCall.pure (hD) ?_|refine EqK.of (zaY x.b Ref.o) ?_|refine KIf.f (congrArg Bool.not (decide_eq_true hb)) ?_|refine KIf.t (congrArg Bool.not (decide_eq_false (by omega))) ?_|refine KIf.f (congrArg Bool.not (decide_eq_true (by omega))) ?_);conv=>whnf
   refine .z [] ?_;exact zaa rfl
 ·rw[if_neg (hgood hu),if_pos h3,if_pos hr]
  (conv=>whnf);repeat(first|refine KIf.dt ?_ ?_;assumption|refine KIf.f ?_ ?_;assumption|refine KIf.t rfl ?_|refine KIf.f ?_ ?_;(focus(simp only[Bool.not_eq_true',Bool.not_eq_false',Bool.not_true,Bool.not_false];assumption))|refine Need.mk ?_ ?_;((constructor<;>omega))|refine KCall.pure (hA) ?_|refine KCall.pure (hB) ?_|refine KCall.pure (hC) ?_|refine KCall.pure (hD) ?_|refine KCall.pure (zeH x.b) ?_|refine KIf.t (congrArg Bool.not (decide_eq_false hr)) ?_);conv=>whnf
  refine .z [] ?_;exact zaa rfl
 ·rw[if_neg (hgood hu),if_neg h3,if_neg hb,if_pos (by decide)]
  (conv=>whnf);repeat(first|refine KIf.df ?_ ?_;assumption|refine KIf.f ?_ ?_;assumption|refine KIf.f ?_ ?_;(focus(simp only[Bool.not_eq_true',Bool.not_eq_false',Bool.not_true,Bool.not_false];assumption))|refine Need.mk ?_ ?_;((constructor<;>omega))|refine KCall.pure (hA) ?_|refine KCall.pure (hB) ?_|refine KCall.pure (hC) ?_|refine KCall.pure (hD) ?_|refine EqK.of (zaY x.b Ref.o) ?_|refine KIf.t (congrArg Bool.not (decide_eq_false hb)) ?_|refine KIf.t (congrArg Bool.not (decide_eq_false (by omega))) ?_);conv=>whnf
  refine .z [] ?_;exact zaa rfl
 all_goals
  first|rw[if_neg (hgood hu),if_pos h3,if_neg (fun c=>c hr)]|rw[if_neg (hgood hu),if_neg h3,if_pos hb,if_neg (fun c=>c rfl)]|rw[if_neg (by rw[hu,decide_eq_true hb,decide_eq_false hs];decide),if_neg h3,if_pos hb,if_neg (fun c=>c rfl)]
  (conv=>whnf);repeat(first|refine KIf.dt ?_ ?_;assumption|refine KIf.df ?_ ?_;assumption|refine KIf.f ?_ ?_;assumption|refine KIf.t ?_ ?_;(focus(simp only[Bool.not_eq_true',Bool.not_eq_false',Bool.not_true,Bool.not_false];assumption))|refine KIf.f ?_ ?_;(focus(simp only[Bool.not_eq_true',Bool.not_eq_false',Bool.not_true,Bool.not_false];assumption))|refine Need.mk (p:=zah _=true) ?_ ?_;decide+kernel|refine Need.mk ?_ ?_;((constructor<;>omega))|refine KCall.pure (hA) ?_|refine KCall.pure (hB) ?_|refine KCall.pure (hC) ?_|refine KCall.pure (hD) ?_|refine EqK.of (zaY x.b Ref.o) ?_|refine KIf.f (congrArg Bool.not (decide_eq_true hb)) ?_|refine KCall.pure (zeH x.b) ?_|refine KIf.f (congrArg Bool.not (decide_eq_true hr)) ?_|refine KIf.f (decide_eq_false (by omega)) ?_|refine KIf.t (congrArg Bool.not (decide_eq_false (by omega))) ?_|refine KIf.f (congrArg Bool.not (decide_eq_true (by omega))) ?_);conv=>whnf
  by_cases h8:8<x.ns.length∨8<x.ss.length∨most i<x.es.length
  ·rw[if_pos h8];by_cases n8:8<x.ns.length
   ·try(exfalso;omega;done)
    all_goals
     (conv=>whnf);repeat(first|refine KIf.t rfl ?_|refine KIf.t (decide_eq_true (by omega)) ?_);conv=>whnf
     refine .z [] ?_;exact zaa rfl
   by_cases s8:8<x.ss.length
   ·try(exfalso;omega;done)
    all_goals
     (conv=>whnf);repeat(first|refine KIf.t rfl ?_|refine KIf.t (decide_eq_true (by omega)) ?_|refine KIf.f (decide_eq_false (by omega)) ?_);conv=>whnf
     refine .z [] ?_;exact zaa rfl
   try(exfalso;omega;done)
   all_goals
    (conv=>whnf);repeat(first|refine DCall.pure (zke i) ?_|refine KIf.t (decide_eq_true (by omega)) ?_|refine KIf.f (decide_eq_false (by omega)) ?_);conv=>whnf
    refine .z [] ?_;exact zaa rfl
  rw[if_neg h8];by_cases h9:(0<x.es.length∧x.k≠0)∨(0<x.ns.length∧(x.k=3∨i<16))
  ·rw[if_pos h9];by_cases p1:0<x.es.length
   all_goals by_cases p2:x.k=0
   all_goals by_cases p3:0<x.ns.length
   all_goals by_cases p4:i<16
   all_goals first|(exfalso;omega)|skip
   all_goals
    (conv=>whnf);repeat(first|refine KIf.dt ?_ ?_;assumption|refine KIf.df ?_ ?_;assumption|refine KIf.f ?_ ?_;assumption|refine KIf.t rfl ?_|refine DCall.pure (zke i) ?_|refine KIf.t (decide_eq_true (by omega)) ?_|refine KIf.f (decide_eq_false (by omega)) ?_|refine KIf.t (congrArg Bool.not (decide_eq_false (by omega))) ?_|refine KIf.f (congrArg Bool.not (decide_eq_true (by omega))) ?_);conv=>whnf
    refine .z [] ?_;exact zaa rfl
  ·rw[if_neg h9];by_cases p1:0<x.es.length
   all_goals by_cases p3:0<x.ns.length
   all_goals first|(exfalso;omega)|skip
   all_goals
    (conv=>whnf);repeat(first|refine KIf.df ?_ ?_;assumption|refine KIf.f ?_ ?_;assumption|refine DCall.pure (zke i) ?_|refine KIf.t (decide_eq_true (by omega)) ?_|refine KIf.f (decide_eq_false (by omega)) ?_|refine KIf.f (congrArg Bool.not (decide_eq_true (by omega))) ?_);conv=>whnf
    refine WLoop.inv kmix (D:=Nat) (fun d=>x.ns.length-d) (fun d=>d≤x.ns.length∧∀j,j<d→zcG (at_ Nm.o x.ns j)=0) (fun d=>slots [(1,ib i),(2, .ptr 0 0),(4,ib 0),(7,ib d)] 214) (fun d=>zaj [.row (aRc x) 66 0]) 0 ⟨Nat.zero_le _,fun j hj=>absurd hj (Nat.not_lt_zero _)⟩ ?_ ?_
    ·(refine Weak.of [0] [] rfl rfl ?_ ?_<;>(repeat' first|exact zT|refine zA ?_ ?_)<;>(conv=>whnf)<;>(repeat'(exact rfl))<;>((exact Or.inr ⟨rfl,rfl⟩)))
    rintro d ⟨hd,hI⟩;by_cases hlt:d<x.ns.length
    ·have hm:=at_mem Nm.o x.ns d hlt
     have hz:∀e,zcG (at_ Nm.o x.ns d)=e→e≠0→Ck.first [0,zc5 x,zcf x,zcL x]=e:=fun e he1 he=>by
      rw[←he1] at he;rw[←he1];unfold zc5;rw[zaE,zb3 hI hlt he,zaN he]
     have next:zcG (at_ Nm.o x.ns d)=0→d+1≤x.ns.length∧∀j,j<d+1→zcG (at_ Nm.o x.ns j)=0:=fun he=>⟨hlt,fun j hj=>by
      by_cases e:j=d
      ·rw[e];exact he
      ·exact hI j (by omega)⟩
     have hr1:=zeH (at_ Nm.o x.ns d).d;have hr2:=zhy (at_ Nm.o x.ns d).n (h5 _ hm);by_cases q1:zaC (at_ Nm.o x.ns d).d=0
     ·by_cases q2:zaw (at_ Nm.o x.ns d).n=0
      ·(conv=>whnf);repeat(first|refine Need.mk ?_ ?_;(first|omega|(constructor<;>omega))|refine KCall.pure (hr1) ?_|refine KCall.pure (hr2) ?_|refine KIf.f (congrArg Bool.not (decide_eq_true q1)) ?_|refine KIf.f (congrArg Bool.not (decide_eq_true q2)) ?_|refine KIf.t (decide_eq_true (by omega)) ?_);conv=>whnf
       refine⟨d+1,next (by unfold zcG;rw[if_pos q1];exact q2),by dsimp only;omega,?_⟩
       (refine Weak.of [0] [] rfl rfl ?_ ?_<;>(repeat' first|exact zT|refine zA ?_ ?_)<;>(conv=>whnf)<;>(repeat'(exact rfl))<;>(first|omega|(exact Or.inr ⟨rfl,rfl⟩)))
      ·rw[hz (zaw (at_ Nm.o x.ns d).n) (by unfold zcG;rw[if_pos q1]) q2]
       (conv=>whnf);repeat(first|refine Need.mk ?_ ?_;omega|refine KCall.pure (hr1) ?_|refine KCall.pure (hr2) ?_|refine KIf.f (congrArg Bool.not (decide_eq_true q1)) ?_|refine KIf.t (congrArg Bool.not (decide_eq_false q2)) ?_|refine KIf.t (decide_eq_true (by omega)) ?_);conv=>whnf
       refine .z [] ?_;exact zaa rfl
     ·rw[hz (zaC (at_ Nm.o x.ns d).d) (by unfold zcG;rw[if_neg q1]) q1]
      (conv=>whnf);repeat(first|refine Need.mk ?_ ?_;omega|refine KCall.pure (hr1) ?_|refine KIf.t (congrArg Bool.not (decide_eq_false q1)) ?_|refine KIf.t (decide_eq_true (by omega)) ?_);conv=>whnf
      refine .z [] ?_;exact zaa rfl
    have hn0:zc5 x=0:=zb4 fun k hk=>hI k (by omega)
    (conv=>whnf);repeat(((refine KIf.f (decide_eq_false (by omega)) ?_;conv=>whnf)))
    refine WLoop.inv kmix (D:=Nat) (fun d=>x.ss.length-d) (fun d=>d≤x.ss.length∧∀j,j<d→zbU (at_ Sm.o x.ss j)=0) (fun d=>slots [(1,ib i),(2, .ptr 0 0),(4,ib 0),(10,ib d)] 214) (fun d=>zaj [.row (aRc x) 66 0]) 0 ⟨Nat.zero_le _,fun j hj=>absurd hj (Nat.not_lt_zero _)⟩ ?_ ?_
    ·(refine Weak.of [0] [] rfl rfl ?_ ?_<;>(repeat' first|exact zT|refine zA ?_ ?_)<;>(conv=>whnf)<;>(repeat'(exact rfl))<;>((exact Or.inr ⟨rfl,rfl⟩)))
    rintro d ⟨hd,hI⟩;by_cases hlt:d<x.ss.length
    ·have hm:=at_mem Sm.o x.ss d hlt
     have hz:∀e,zbU (at_ Sm.o x.ss d)=e→e≠0→Ck.first [0,zc5 x,zcf x,zcL x]=e:=fun e he1 he=>by
      rw[←he1] at he;rw[←he1];rw[hn0];unfold zcf;rw[zaE,zaE,zb3 hI hlt he,zaN he]
     have next:zbU (at_ Sm.o x.ss d)=0→d+1≤x.ss.length∧∀j,j<d+1→zbU (at_ Sm.o x.ss j)=0:=fun he=>⟨hlt,fun j hj=>by
      by_cases e:j=d
      ·rw[e];exact he
      ·exact hI j (by omega)⟩
     have hr1:=nstreamErr_k (at_ Sm.o x.ss d) (h4 _ hm);by_cases q1:zbU (at_ Sm.o x.ss d)=0
     ·(conv=>whnf);repeat(first|refine Need.mk ?_ ?_;(first|omega|(constructor<;>omega))|refine KCall.pure (hr1) ?_|refine KIf.f (congrArg Bool.not (decide_eq_true q1)) ?_|refine KIf.t (decide_eq_true (by omega)) ?_);conv=>whnf
      refine⟨d+1,next q1,by dsimp only;omega,?_⟩
      (refine Weak.of [0] [] rfl rfl ?_ ?_<;>(repeat' first|exact zT|refine zA ?_ ?_)<;>(conv=>whnf)<;>(repeat'(exact rfl))<;>(first|omega|(exact Or.inr ⟨rfl,rfl⟩)))
     ·rw[hz (zbU (at_ Sm.o x.ss d)) rfl q1]
      (conv=>whnf);repeat(first|refine Need.mk ?_ ?_;omega|refine KCall.pure (hr1) ?_|refine KIf.t (congrArg Bool.not (decide_eq_false q1)) ?_|refine KIf.t (decide_eq_true (by omega)) ?_);conv=>whnf
      refine .z [] ?_;exact zaa rfl
    have hs0:zcf x=0:=zb4 fun k hk=>hI k (by omega)
    (conv=>whnf);repeat(((refine KIf.f (decide_eq_false (by omega)) ?_;conv=>whnf)))
    refine WLoop.inv kmix (D:=Nat) (fun d=>x.es.length-d) (fun d=>d≤x.es.length∧∀j,j<d→zcB (at_ En.o x.es j)=0) (fun d=>slots [(1,ib i),(2, .ptr 0 0),(4,ib 0),(12,ib d)] 214) (fun d=>zaj [.row (aRc x) 66 0]) 0 ⟨Nat.zero_le _,fun j hj=>absurd hj (Nat.not_lt_zero _)⟩ ?_ ?_
    ·(refine Weak.of [0] [] rfl rfl ?_ ?_<;>(repeat' first|exact zT|refine zA ?_ ?_)<;>(conv=>whnf)<;>(repeat'(exact rfl))<;>((exact Or.inr ⟨rfl,rfl⟩)))
    rintro d ⟨hd,hI⟩;by_cases hlt:d<x.es.length
    ·have hm:=at_mem En.o x.es d hlt
     have hz:∀e,zcB (at_ En.o x.es d)=e→e≠0→Ck.first [0,zc5 x,zcf x,zcL x]=e:=fun e he1 he=>by
      rw[←he1] at he;rw[←he1];rw[hn0,hs0];unfold zcL;rw[zaE,zaE,zaE,zb3 hI hlt he,zaN he]
     have next:zcB (at_ En.o x.es d)=0→d+1≤x.es.length∧∀j,j<d+1→zcB (at_ En.o x.es j)=0:=fun he=>⟨hlt,fun j hj=>by
      by_cases e:j=d
      ·rw[e];exact he
      ·exact hI j (by omega)⟩
     have hr1:=zhy (at_ En.o x.es d).n (h6 _ hm);have hr2:=zeH (at_ En.o x.es d).f;have hr3:=zk8 (at_ En.o x.es d).z;by_cases q1:zaw (at_ En.o x.es d).n=0
     ·by_cases q2:zaC (at_ En.o x.es d).f=0
      ·obtain⟨b,q3⟩:∃b,num (at_ En.o x.es d).z=b:=⟨_,rfl⟩
       rw[q3] at hr3;cases b
       ·rw[hz 2 (by unfold zcB;rw[if_pos q1,if_pos q2,q3];rfl) (by decide)]
        (conv=>whnf);repeat(first|refine KIf.t rfl ?_|refine Need.mk ?_ ?_;omega|refine KCall.pure (hr1) ?_|refine KCall.pure (hr2) ?_|refine KCall.pure (hr3) ?_|refine KIf.f (congrArg Bool.not (decide_eq_true q1)) ?_|refine KIf.f (congrArg Bool.not (decide_eq_true q2)) ?_|refine KIf.t (decide_eq_true (by omega)) ?_);conv=>whnf
        refine .z [] ?_;exact zaa rfl
       ·(conv=>whnf);repeat(first|refine KIf.f ?_ ?_;assumption|refine Need.mk ?_ ?_;(first|omega|(constructor<;>omega))|refine KCall.pure (hr1) ?_|refine KCall.pure (hr2) ?_|refine KCall.pure (hr3) ?_|refine KIf.f (congrArg Bool.not (decide_eq_true q1)) ?_|refine KIf.f (congrArg Bool.not (decide_eq_true q2)) ?_|refine KIf.t (decide_eq_true (by omega)) ?_);conv=>whnf
        refine⟨d+1,next (by unfold zcB;rw[if_pos q1,if_pos q2,q3];rfl),by dsimp only;omega,?_⟩
        (refine Weak.of [0] [] rfl rfl ?_ ?_<;>(repeat' first|exact zT|refine zA ?_ ?_)<;>(conv=>whnf)<;>(repeat'(exact rfl))<;>(first|omega|(exact Or.inr ⟨rfl,rfl⟩)))
      ·rw[hz (zaC (at_ En.o x.es d).f) (by unfold zcB;rw[if_pos q1,if_neg q2]) q2]
       (conv=>whnf);repeat(first|refine Need.mk ?_ ?_;omega|refine KCall.pure (hr1) ?_|refine KCall.pure (hr2) ?_|refine KIf.f (congrArg Bool.not (decide_eq_true q1)) ?_|refine KIf.t (congrArg Bool.not (decide_eq_false q2)) ?_|refine KIf.t (decide_eq_true (by omega)) ?_);conv=>whnf
       refine .z [] ?_;exact zaa rfl
     ·rw[hz (zaw (at_ En.o x.es d).n) (by unfold zcB;rw[if_neg q1]) q1]
      (conv=>whnf);repeat(first|refine Need.mk ?_ ?_;omega|refine KCall.pure (hr1) ?_|refine KIf.t (congrArg Bool.not (decide_eq_false q1)) ?_|refine KIf.t (decide_eq_true (by omega)) ?_);conv=>whnf
      refine .z [] ?_;exact zaa rfl
    have hens:zcL x=0:=zb4 fun k hk=>hI k (by omega)
    rw[hn0,hs0,hens]
    (conv=>whnf);repeat(((refine KIf.f (decide_eq_false (by omega)) ?_;conv=>whnf)))
    refine .z [] ?_;exact zaa rfl
end Go.Proofs.YtgcjejajljhnaaaGreatDoor
namespace Ck
open Go Go.Ex
theorem bits_zero (a:UInt8) (r:Nat) (hr:r<8) (h:∀k,r≤k→k<8→a.toNat/2^k%2=0):a.toNat/2^r=0:=by
 have key:∀a:Fin 256,∀r:Fin 8,(∀k:Fin 8,r.1≤k.1→a.1/2^k.1%2=0)→a.1/2^r.1=0:=by decide+kernel
 exact key ⟨a.toNat,a.toNat_lt⟩ ⟨r,hr⟩ fun k hk=>h k.1 hk k.2
theorem tdiv8' (d:Nat):((d:Nat):Int).tdiv 8=((d/8:Nat):Int):=by rw[Int.tdiv_eq_ediv_of_nonneg (by omega)];omega
theorem tmod8' (d:Nat):((d:Nat):Int).tmod 8=((d%8:Nat):Int):=by rw[Int.tmod_eq_emod_of_nonneg (by omega)];omega
end Ck
namespace Go.Proofs.YtgcjejajljhnaaaGreatDoor
open Go.Ex Ck
set_option maxRecDepth 100000
set_option maxHeartbeats 8000000
theorem nBit_k (s:List UInt8) (d:Nat) (hs:s.length≤100000) (h:d<8*s.length):PureC Tryz.prog 114 [tb s,ib (d:Nat)] (ib (zcQ s d:Nat)):=by
 have e1:=tdiv8' d;have e2:=tmod8' d
 have hq:(8:Int)≠0∧Small (((d:Nat):Int).tdiv 8):=⟨by omega,by unfold Small;rw[e1];omega⟩
 have hix:(0:Int)≤((d:Nat):Int).tdiv 8∧((d:Nat):Int).tdiv 8<(s.length:Nat):=by rw[e1];omega
 have hP:=Power_k (((d:Nat):Int).tmod 8) (by rw[e2];omega) (by rw[e2];omega);have hB:(gd 0 s (((d:Nat):Int).tdiv 8).toNat).toNat<256:=UInt8.toNat_lt _
 have hsm:Small ((gd 0 s (((d:Nat):Int).tdiv 8).toNat).toNat:Int):=⟨by omega,by omega⟩
 have hpw:(2:Int)^(((d:Nat):Int).tmod 8).toNat=((2^(d%8):Nat):Int):=by rw[e2,Int.toNat_natCast];norm_cast
 have hdv:((gd 0 s (((d:Nat):Int).tdiv 8).toNat).toNat:Int).tdiv ((2:Int)^(((d:Nat):Int).tmod 8).toNat)=(((gd 0 s (((d:Nat):Int).tdiv 8).toNat).toNat/2^(d%8):Nat):Int):=by
  rw[hpw,Int.tdiv_eq_ediv_of_nonneg (by omega)];norm_cast
 have hle:(gd 0 s (((d:Nat):Int).tdiv 8).toNat).toNat/2^(d%8)≤(gd 0 s (((d:Nat):Int).tdiv 8).toNat).toNat:=Nat.div_le_self _ _
 have hn0:(2:Int)^(((d:Nat):Int).tmod 8).toNat≠0∧Small (((gd 0 s (((d:Nat):Int).tdiv 8).toNat).toNat:Int).tdiv ((2:Int)^(((d:Nat):Int).tmod 8).toNat)):=by
  constructor
  ·rw[hpw];have:=Nat.two_pow_pos (d%8);omega
  ·rw[hdv];generalize (gd 0 s (((d:Nat):Int).tdiv 8).toNat).toNat/2^(d%8)=q at hle⊢;exact⟨by omega,by omega⟩
 have h2:(2:Int)≠0:=by decide
 have hres:(((gd 0 s (((d:Nat):Int).tdiv 8).toNat).toNat:Int).tdiv ((2:Int)^(((d:Nat):Int).tmod 8).toNat)).tmod 2=((zcQ s d:Nat):Int):=by
  rw[hdv,Int.tmod_eq_emod_of_nonneg (Int.natCast_nonneg _),e1,Int.toNat_natCast];unfold zcQ
  show _=(((gd 0 s (d/8)).toNat/2^(d%8)%2:Nat):Int)
  generalize (gd 0 s (d/8)).toNat/2^(d%8)=q;omega
 refine PureC.of kmix rfl ?_
 (conv=>whnf);repeat(first|refine Need.mk (p:=zah _=true) ?_ ?_;decide+kernel|refine Need.mk ?_ ?_;trivial|refine DCall.pure (hP) ?_);conv=>whnf
 refine .z [] ?_;rw[←hres];exact zaa rfl
theorem nSizeErr_k (c:Int) (h:64≤c∧c≤512):PureC Tryz.prog 137 [ib c] (ib 0):=by
 have hw:=zaR c 0 4096
 have hwi:wi c 0 4096=true:=by unfold wi;simp only[Bool.and_eq_true,decide_eq_true_eq];omega
 rw[hwi] at hw;refine PureC.of kmix rfl ?_
 (conv=>whnf);repeat(first|refine KIf.f rfl ?_|refine KCall.pure (hw) ?_);conv=>whnf
 refine .z [] ?_;exact zaa rfl
theorem nMapErr_k (s:List UInt8) (c:Int) (hs:s.length≤100000) (h:64≤c∧c≤512):PureC Tryz.prog 95 [tb s,ib c] (ib (zaO s c)):=by
 have hwi:wi c 0 4096=true:=by unfold wi;simp only[Bool.and_eq_true,decide_eq_true_eq];omega
 have hS:=nSizeErr_k c h;have hC:=Ceil_k c (by omega);unfold zaO;rw[if_pos hwi];refine PureC.of kmix rfl ?_;by_cases hl:s.length=((c+7)/8).toNat
 ·rw[if_pos hl]
  obtain⟨n,rfl⟩:∃n:Nat,c=n:=⟨c.toNat,by omega⟩
  have hlast:(s.getLast?.getD 0)=gd 0 s (s.length-1):=zmF s;rw[hlast]
  have hbit:∀d,n≤d→d<8*s.length→zcQ s d=(gd 0 s (s.length-1)).toNat/2^(d%8)%2:=fun d h1 h2=>by
   unfold zcQ;rw[show d/8=s.length-1 by omega];rfl
  (conv=>whnf);repeat(first|refine KIf.f rfl ?_|refine KCall.pure (hS) ?_|refine KCall.pure (hC) ?_|refine KIf.f (congrArg Bool.not (decide_eq_true (by omega))) ?_);conv=>whnf
  refine WLoop.inv kmix (D:=Nat) (fun d=>8*s.length-d) (fun d=>n≤d∧d≤8*s.length∧∀j,n≤j→j<d→zcQ s j=0) (fun d=>slots [(0,tb s),(1,ib (n:Nat)),(4,ib 0),(6,ib d)] 29) (fun d=>zaj []) n ⟨Nat.le_refl _,by omega,fun j h1 h2=>by omega⟩ ?_ ?_
  ·(refine Weak.of [] [] rfl rfl ?_ ?_<;>(repeat' first|exact zT|refine zA ?_ ?_)<;>(conv=>whnf))
  rintro d ⟨hd1,hd,hI⟩;by_cases hlt:d<8*s.length
  ·have hB:=nBit_k s d hs hlt;by_cases hz:zcQ s d=0
   ·have hz2:((zcQ s d:Nat):Int)=0:=by omega
    (conv=>whnf);repeat(first|refine Need.mk ?_ ?_;((constructor<;>omega))|refine KCall.pure (hB) ?_|refine KIf.f (congrArg Bool.not (decide_eq_true hz2)) ?_|refine KIf.t (decide_eq_true (by omega)) ?_);conv=>whnf
    refine⟨d+1,⟨by omega,by omega,fun j h1 h2=> ?_⟩,by dsimp only;omega,?_⟩
    ·by_cases e:j=d
     ·rw[e];exact hz
     ·exact hI j h1 (by omega)
    ·(refine Weak.of [] [] rfl rfl ?_ ?_<;>(repeat' first|exact zT|refine zA ?_ ?_)<;>(conv=>whnf)<;>(repeat'(exact rfl)))
   ·have hz2:¬((zcQ s d:Nat):Int)=0:=by omega
    have hne:¬(((n:Nat):Int)%8=0∨(gd 0 s (s.length-1)).toNat/2^(((n:Nat):Int)%8).toNat=0):=fun c=>by
     rw[hbit d hd1 hlt] at hz
     rcases c with c|c
     ·omega
     ·have e:(((n:Nat):Int)%8).toNat=n%8:=by omega
      rw[e] at c;refine hz ?_;have hle:2^(n%8)≤2^(d%8):=Nat.pow_le_pow_right (by omega) (by omega);have:=Nat.div_le_div_left (a:=(gd 0 s (s.length-1)).toNat) hle (Nat.two_pow_pos _);rw[c] at this;rw[Nat.le_zero.1 this]
    rw[if_neg hne]
    (conv=>whnf);repeat(first|refine Need.mk ?_ ?_;((constructor<;>omega))|refine KCall.pure (hB) ?_|refine KIf.t (congrArg Bool.not (decide_eq_false hz2)) ?_|refine KIf.t (decide_eq_true (by omega)) ?_);conv=>whnf
    refine .z [] ?_;exact zaa rfl
  ·have hok:((n:Nat):Int)%8=0∨(gd 0 s (s.length-1)).toNat/2^(((n:Nat):Int)%8).toNat=0:=by
    by_cases h8:((n:Nat):Int)%8=0
    ·exact .inl h8
    ·refine .inr ?_;rw[show(((n:Nat):Int)%8).toNat=n%8 by omega]
     refine bits_zero _ _ (by omega) fun k hk1 hk2=> ?_
     have hj:=hI (8*(s.length-1)+k) (by omega) (by omega);rw[hbit _ (by omega) (by omega),show(8*(s.length-1)+k)%8=k by omega] at hj;exact hj
   rw[if_pos hok]
   (conv=>whnf);repeat(first|refine Need.mk ?_ ?_;((constructor<;>omega))|refine KIf.f (decide_eq_false (by omega)) ?_);conv=>whnf
   refine .z [] ?_;exact zaa rfl
 ·rw[if_neg hl]
  (conv=>whnf);repeat(first|refine KIf.f rfl ?_|refine KCall.pure (hS) ?_|refine KCall.pure (hC) ?_|refine KIf.t (congrArg Bool.not (decide_eq_false (by omega))) ?_);conv=>whnf
  refine .z [] ?_;exact zaa rfl
theorem nalwaysErr_k (v:Pt) (hc:64≤v.c∧v.c≤512) (h1:v.al.length≤100000) (h3:v.ds.length≤100000) (h4:v.mp.length≤100000):PureC Tryz.prog 50 [aPts v] (ib (Ck.first [goE (fun i=>zbL v.c (at_ Run.o v.al i)) v.al.length,goE (zbb v.ds) v.ds.length,if v.ds.length=0 then 17 else 0,zaO v.mp v.c])):=by
 have hM:=nMapErr_k v.mp v.c h4 hc;refine PureC.of kmix rfl ?_
 conv=>whnf
 refine WLoop.inv kmix (D:=Nat) (fun d=>v.al.length-d) (fun d=>d≤v.al.length∧∀j,j<d→zbL v.c (at_ Run.o v.al j)=0) (fun d=>slots [(1, .ptr 0 0),(2,ib 0),(3,ib d)] 81) (fun d=>zaj [.row (aPt v) 26 0]) 0 ⟨Nat.zero_le _,fun j hj=>absurd hj (Nat.not_lt_zero _)⟩ ?_ ?_
 ·(refine Weak.of [0] [] rfl rfl ?_ ?_<;>(repeat' first|exact zT|refine zA ?_ ?_)<;>(conv=>whnf)<;>(repeat'(exact rfl))<;>((exact Or.inr ⟨rfl,rfl⟩)))
 rintro d ⟨hd,hI⟩;by_cases hlt:d<v.al.length
 ·have hW1:=zaR (at_ Run.o v.al d).s 0 (v.c-1);have hW2:=zaR (at_ Run.o v.al d).l 1 (v.c-(at_ Run.o v.al d).s)
  have hbad:zbL v.c (at_ Run.o v.al d)=2→Ck.first [goE (fun i=>zbL v.c (at_ Run.o v.al i)) v.al.length,goE (zbb v.ds) v.ds.length,if v.ds.length=0 then 17 else 0,zaO v.mp v.c]=2:=fun he=>by
   rw[zb3 (E:=fun i=>zbL v.c (at_ Run.o v.al i)) hI hlt (by rw[he];decide),he,zaN (by decide)]
  obtain⟨p,hp⟩:∃p,wi (at_ Run.o v.al d).s 0 (v.c-1)=p:=⟨_,rfl⟩
  rw[hp] at hW1;cases p
  ·rw[hbad (by unfold zbL;rw[hp];rfl)]
   (conv=>whnf);repeat(first|refine KIf.t rfl ?_|refine Need.mk (p:=zah _=true) ?_ ?_;decide+kernel|refine Need.mk ?_ ?_;(first|omega|(constructor<;>omega))|refine DCall.pure (hW1) ?_|refine KIf.t (decide_eq_true (by omega)) ?_);conv=>whnf
   refine .z [] ?_;exact zaa rfl
  ·have hs:0≤(at_ Run.o v.al d).s∧(at_ Run.o v.al d).s≤v.c-1:=by unfold wi at hp;simpa using hp
   obtain⟨q,hq⟩:∃q,wi (at_ Run.o v.al d).l 1 (v.c-(at_ Run.o v.al d).s)=q:=⟨_,rfl⟩
   rw[hq] at hW2;cases q
   ·rw[hbad (by unfold zbL;rw[hp,hq];rfl)]
    (conv=>whnf);repeat(first|refine KIf.t rfl ?_|refine KIf.f rfl ?_|refine Need.mk (p:=zah _=true) ?_ ?_;decide+kernel|refine Need.mk ?_ ?_;(first|omega|(constructor<;>omega)|(simp only[Int.toNat_natCast];((constructor<;>omega))))|refine DCall.pure (hW1) ?_|refine DCall.pure (hW2) ?_|refine KIf.t (decide_eq_true (by omega)) ?_);conv=>whnf
    refine .z [] ?_;exact zaa rfl
   ·have he:zbL v.c (at_ Run.o v.al d)=0:=by unfold zbL;rw[hp,hq];rfl
    (conv=>whnf);repeat(first|refine KIf.f rfl ?_|refine Need.mk (p:=zah _=true) ?_ ?_;decide+kernel|refine Need.mk ?_ ?_;(first|omega|(constructor<;>omega)|(simp only[Int.toNat_natCast];((constructor<;>omega))))|refine DCall.pure (hW1) ?_|refine DCall.pure (hW2) ?_|refine KIf.t (decide_eq_true (by omega)) ?_);conv=>whnf
    refine⟨d+1,⟨hlt,fun j hj=> ?_⟩,by dsimp only;omega,?_⟩
    ·by_cases e:j=d
     ·rw[e];exact he
     ·exact hI j (by omega)
    ·(refine Weak.of [0] [] rfl rfl ?_ ?_<;>(repeat' first|exact zT|refine zA ?_ ?_)<;>(conv=>whnf)<;>(repeat'(exact rfl))<;>((exact Or.inr ⟨rfl,rfl⟩)))
 have ha0:goE (fun i=>zbL v.c (at_ Run.o v.al i)) v.al.length=0:=zb4 fun k hk=>hI k (by omega)
 rw[ha0,zaE]
 (conv=>whnf);repeat(((refine KIf.f (decide_eq_false (by omega)) ?_;conv=>whnf)))
 refine WLoop.inv kmix (D:=Nat) (fun d=>v.ds.length-d) (fun d=>d≤v.ds.length∧∀j,j<d→zbb v.ds j=0) (fun d=>slots [(1, .ptr 0 0),(2,ib 0),(4,ib d)] 81) (fun d=>zaj [.row (aPt v) 26 0]) 0 ⟨Nat.zero_le _,fun j hj=>absurd hj (Nat.not_lt_zero _)⟩ ?_ ?_
 ·(refine Weak.of [0] [] rfl rfl ?_ ?_<;>(repeat' first|exact zT|refine zA ?_ ?_)<;>(conv=>whnf)<;>(repeat'(exact rfl))<;>((exact Or.inr ⟨rfl,rfl⟩)))
 clear hI hd;rintro d ⟨hd,hI⟩;by_cases hlt:d<v.ds.length
 ·have hW1:=zaR (at_ 0 v.ds d) 1 2147483647
  have hbad:∀e,zbb v.ds d=e→e≠0→Ck.first [goE (zbb v.ds) v.ds.length,if v.ds.length=0 then 17 else 0,zaO v.mp v.c]=e:=fun e he1 he=>by
   rw[←he1] at he⊢;rw[zb3 hI hlt he,zaN he]
  obtain⟨p,hp⟩:∃p,wi (at_ 0 v.ds d) 1 2147483647=p:=⟨_,rfl⟩
  rw[hp] at hW1;cases p
  ·rw[hbad 2 (by unfold zbb;rw[hp];rfl) (by decide)]
   (conv=>whnf);repeat(first|refine KIf.t rfl ?_|refine Need.mk ?_ ?_;omega|refine KCall.pure (hW1) ?_|refine KIf.t (decide_eq_true (by omega)) ?_);conv=>whnf
   refine .z [] ?_;exact zaa rfl
  ·have next:zbb v.ds d=0→d+1≤v.ds.length∧∀j,j<d+1→zbb v.ds j=0:=fun he=>⟨hlt,fun j hj=>by
    by_cases e:j=d
    ·rw[e];exact he
    ·exact hI j (by omega)⟩
   cases d with
   |zero=>
    have he:zbb v.ds 0=0:=by unfold zbb;rw[hp,if_pos rfl,if_neg (by omega)]
    (conv=>whnf);repeat(first|refine KIf.f rfl ?_|refine Need.mk (p:=zah _=true) ?_ ?_;decide+kernel|refine Need.mk ?_ ?_;(first|trivial|omega)|refine KCall.pure (hW1) ?_|refine KIf.t (decide_eq_true (by omega)) ?_);conv=>whnf
    refine⟨0+1,next he,by dsimp only;omega,?_⟩
    (refine Weak.of [0] [] rfl rfl ?_ ?_<;>(repeat' first|exact zT|refine zA ?_ ?_)<;>(conv=>whnf)<;>(repeat'(exact rfl))<;>((exact Or.inr ⟨rfl,rfl⟩)))
   |succ d=>
    have hj:(((d+1:Nat):Int)-1).toNat=d:=by omega
    have hix:0≤((d+1:Nat):Int)-1∧((d+1:Nat):Int)-1<v.ds.length:=by omega
    by_cases hle:at_ 0 v.ds (d+1)≤at_ 0 v.ds d
    ·have hle':at_ 0 v.ds (d+1)≤at_ 0 v.ds (((d+1:Nat):Int)-1).toNat:=by rw[hj];exact hle
     rw[hbad 9 (by unfold zbb;rw[hp,if_pos rfl,if_pos ⟨by omega,hle⟩]) (by decide)]
     (conv=>whnf);repeat(first|refine KIf.dt ?_ ?_;assumption|refine KIf.f rfl ?_|refine Need.mk (p:=zah _=true) ?_ ?_;decide+kernel|refine Need.mk ?_ ?_;(first|trivial|omega|(constructor<;>omega))|refine KCall.pure (hW1) ?_|refine KIf.t (decide_eq_true (by omega)) ?_);conv=>whnf
     refine .z [] ?_;exact zaa rfl
    ·have he:zbb v.ds (d+1)=0:=by unfold zbb;rw[hp,if_pos rfl,if_neg (fun c=>hle c.2)]
     have hle':¬at_ 0 v.ds (d+1)≤at_ 0 v.ds (((d+1:Nat):Int)-1).toNat:=by rw[hj];exact hle
     (conv=>whnf);repeat(first|refine KIf.df ?_ ?_;assumption|refine KIf.f rfl ?_|refine Need.mk (p:=zah _=true) ?_ ?_;decide+kernel|refine Need.mk ?_ ?_;(first|trivial|omega|(constructor<;>omega))|refine KCall.pure (hW1) ?_|refine KIf.t (decide_eq_true (by omega)) ?_);conv=>whnf
     refine⟨d+1+1,next he,by dsimp only;omega,?_⟩
     (refine Weak.of [0] [] rfl rfl ?_ ?_<;>(repeat' first|exact zT|refine zA ?_ ?_)<;>(conv=>whnf)<;>(repeat'(exact rfl))<;>((exact Or.inr ⟨rfl,rfl⟩)))
 have hd0:goE (zbb v.ds) v.ds.length=0:=zb4 fun k hk=>hI k (by omega)
 rw[hd0,zaE];by_cases hz:v.ds.length=0
 ·rw[if_pos hz,zaN (by decide)]
  (conv=>whnf);repeat((first|(refine KIf.t (decide_eq_true (by omega)) ?_;conv=>whnf)|(refine KIf.f (decide_eq_false (by omega)) ?_;conv=>whnf)))
  refine .z [] ?_;exact zaa rfl
 ·have hf:Ck.first [0,zaO v.mp v.c]=zaO v.mp v.c:=by
   rw[zaE];show(if zaO v.mp v.c=0 then 0 else zaO v.mp v.c)=_;split
   ·rename_i e;exact e.symm
   ·rfl
  rw[if_neg hz,hf]
  (conv=>whnf);repeat(first|refine KCall.pure (hM) ?_|refine KIf.f (decide_eq_false (by omega)) ?_);conv=>whnf
  refine .z [] ?_;exact zaa rfl
theorem nCheckParts_k (v:Pt) (h:FitP v):PureC Tryz.prog 14 [aPts v] (.tup [ib (Ck.partsIx v),ib (Ck.partsErr v)]):=by
 have hW:=zaR v.c 64 512;have hfr:=h.f.rs
 have hwt:∀{e:Int},za1 v=e→e≠0→partsIx v=0∧partsErr v=e:=fun{e} h1 h2=>by
  unfold partsIx partsErr;rw[h1,if_pos h2,zaN h2];exact⟨rfl,rfl⟩
 have hw:za1 v=Ck.first [if wi v.c 64 512 then 0 else 2,if 24<v.al.length∨96<v.rs.length∨64<v.ds.length then 8 else 0,goE (fun i=>zbL v.c (at_ Run.o v.al i)) v.al.length,goE (zbb v.ds) v.ds.length,if v.ds.length=0 then 17 else 0,zaO v.mp v.c]:=rfl
 obtain⟨a,ha⟩:∃a,wi v.c 64 512=a:=⟨_,rfl⟩
 rw[ha] at hW hw;refine PureC.of kmix rfl ?_;cases a
 ·obtain⟨q1,q2⟩:=hwt (e:=2) hw (by decide);rw[q1,q2]
  (conv=>whnf);repeat(first|refine KIf.t rfl ?_|refine KCall.pure (hW) ?_);conv=>whnf
  refine .z [] ?_;unfold Wz;exact Wzc (zaa rfl) (Wzc (zaa rfl) Wzn)
 have hc:64≤v.c∧v.c≤512:=by unfold wi at ha;simpa using ha
 by_cases h8:24<v.al.length∨96<v.rs.length∨64<v.ds.length
 ·obtain⟨q1,q2⟩:=hwt (e:=8) (by rw[hw,if_pos h8];rfl) (by decide);rw[q1,q2];by_cases n8:24<v.al.length
  ·(conv=>whnf);repeat(first|refine KIf.t rfl ?_|refine KIf.f rfl ?_|refine KCall.pure (hW) ?_|refine KIf.t (decide_eq_true (by omega)) ?_);conv=>whnf
   refine .z [] ?_;unfold Wz;exact Wzc (zaa rfl) (Wzc (zaa rfl) Wzn)
  by_cases s8:96<v.rs.length
  ·(conv=>whnf);repeat(first|refine KIf.t rfl ?_|refine KIf.f rfl ?_|refine KCall.pure (hW) ?_|refine KIf.t (decide_eq_true (by omega)) ?_|refine KIf.f (decide_eq_false (by omega)) ?_);conv=>whnf
   refine .z [] ?_;unfold Wz;exact Wzc (zaa rfl) (Wzc (zaa rfl) Wzn)
  (conv=>whnf);repeat(first|refine KIf.f rfl ?_|refine KCall.pure (hW) ?_|refine KIf.t (decide_eq_true (by omega)) ?_|refine KIf.f (decide_eq_false (by omega)) ?_);conv=>whnf
  refine .z [] ?_;unfold Wz;exact Wzc (zaa rfl) (Wzc (zaa rfl) Wzn)
 have hA:=nalwaysErr_k v hc h.f.al h.f.ds h.mp;rw[if_neg h8] at hw;have hw:za1 v=Ck.first [goE (fun i=>zbL v.c (at_ Run.o v.al i)) v.al.length,goE (zbb v.ds) v.ds.length,if v.ds.length=0 then 17 else 0,zaO v.mp v.c]:=hw;rw[←hw] at hA;by_cases hw0:za1 v=0
 ·have hp1:partsErr v=Ck.first [zaU v,zff v]:=by unfold partsErr;rw[hw0,zaE]
  have hp2:partsIx v=if zaU v≠0 then 5 else goI (fun i=>zbg i (at_ Rc.o v.rs i)) v.rs.length:=by unfold partsIx;rw[if_neg (fun c=>c hw0)]
  rw[hp1,hp2];by_cases h5:v.rs.length≤5
  ·have hre:zaU v=6:=by unfold zaU;rw[if_pos (.inl h5)]
   rw[hre,if_pos (by decide),zaN (by decide)]
   (conv=>whnf);repeat(first|refine KIf.t rfl ?_|refine KIf.f rfl ?_|refine KCall.pure (hW) ?_|refine KCall.pure (hA) ?_|refine KIf.f (congrArg Bool.not (decide_eq_true hw0)) ?_|refine KIf.t (decide_eq_true (by omega)) ?_|refine KIf.f (decide_eq_false (by omega)) ?_);conv=>whnf
   refine .z [] ?_;unfold Wz;exact Wzc (zaa rfl) (Wzc (zaa rfl) Wzn)
  ·have hix:(0:Int)≤5∧(5:Int)<v.rs.length:=by omega
   cases hu:(at_ Rc.o v.rs 5).u
   ·have hre:zaU v=6:=by unfold zaU;rw[if_pos (.inr (.inl hu))]
    rw[hre,if_pos (by decide),zaN (by decide)]
    (conv=>whnf);repeat(first|refine KIf.t rfl ?_|refine KIf.f rfl ?_|refine KIf.t ?_ ?_;(focus(simp only[Bool.not_eq_true',Bool.not_eq_false',Bool.not_true,Bool.not_false];assumption))|refine Need.mk ?_ ?_;trivial|refine KCall.pure (hW) ?_|refine KCall.pure (hA) ?_|refine KIf.f (congrArg Bool.not (decide_eq_true hw0)) ?_|refine KIf.f (decide_eq_false (by omega)) ?_);conv=>whnf
    refine .z [] ?_;unfold Wz;exact Wzc (zaa rfl) (Wzc (zaa rfl) Wzn)
   ·by_cases hk:(at_ Rc.o v.rs 5).k=0
    ·have hre:zaU v=0:=by unfold zaU;rw[if_neg (fun c=>c.elim h5 fun c=>c.elim (fun c=>by rw[hu] at c;cases c) fun c=>c hk)]
     rw[hre,if_neg (fun c=>c rfl),zaE];unfold zff
     have hR:∀d,d<v.rs.length→PureC Tryz.prog 51 [aRcs (at_ Rc.o v.rs d),ib (d:Nat)] (ib (zbg d (at_ Rc.o v.rs d))):=fun d hd=>by
      have hm:=at_mem Rc.o v.rs d hd;exact nrecordErr_k d _ (h.f.ns _ hm) (h.f.ss _ hm) (h.f.es _ hm) (h.f.rr _ hm) (h.nl _ hm) (h.el _ hm)
     (conv=>whnf);repeat(first|refine KIf.f rfl ?_|refine KIf.f ?_ ?_;(focus(simp only[Bool.not_eq_true',Bool.not_eq_false',Bool.not_true,Bool.not_false];assumption))|refine Need.mk ?_ ?_;trivial|refine KCall.pure (hW) ?_|refine KCall.pure (hA) ?_|refine KIf.f (congrArg Bool.not (decide_eq_true hw0)) ?_|refine KIf.f (congrArg Bool.not (decide_eq_true hk)) ?_|refine KIf.f (decide_eq_false (by omega)) ?_);conv=>whnf
     refine WLoop.inv kmix (D:=Nat) (fun d=>v.rs.length-d) (fun d=>d≤v.rs.length∧∀j,j<d→zbg j (at_ Rc.o v.rs j)=0) (fun d=>slots [(1, .ptr 0 0),(2,ib 0),(3,ib 0),(5,ib d)] 70) (fun d=>zaj [.row (aPt v) 26 0]) 0 ⟨Nat.zero_le _,fun j hj=>absurd hj (Nat.not_lt_zero _)⟩ ?_ ?_
     ·(refine Weak.of [0] [] rfl rfl ?_ ?_<;>(repeat' first|exact zT|refine zA ?_ ?_)<;>(conv=>whnf)<;>(repeat'(exact rfl))<;>((exact Or.inr ⟨rfl,rfl⟩)))
     rintro d ⟨hd,hI⟩;by_cases hlt:d<v.rs.length
     ·have hE:=hR d hlt;by_cases he:zbg d (at_ Rc.o v.rs d)=0
      ·(conv=>whnf);repeat(first|refine Need.mk ?_ ?_;(first|omega|(constructor<;>omega))|refine KCall.pure (hE) ?_|refine KIf.f (congrArg Bool.not (decide_eq_true he)) ?_|refine KIf.t (decide_eq_true (by omega)) ?_);conv=>whnf
       refine⟨d+1,⟨hlt,fun j hj=> ?_⟩,by dsimp only;omega,?_⟩
       ·by_cases e:j=d
        ·rw[e];exact he
        ·exact hI j (by omega)
       ·(refine Weak.of [0] [] rfl rfl ?_ ?_<;>(repeat' first|exact zT|refine zA ?_ ?_)<;>(conv=>whnf)<;>(repeat'(exact rfl))<;>((exact Or.inr ⟨rfl,rfl⟩)))
      ·rw[zb3 (E:=fun i=>zbg i (at_ Rc.o v.rs i)) hI hlt he,ziB (fun i=>zbg i (at_ Rc.o v.rs i)) (zeS _ d hI) he _ hlt,zaN he]
       (conv=>whnf);repeat(first|refine Need.mk ?_ ?_;omega|refine KCall.pure (hE) ?_|refine KIf.t (congrArg Bool.not (decide_eq_false he)) ?_|refine KIf.t (decide_eq_true (by omega)) ?_);conv=>whnf
       refine .z [] ?_;unfold Wz;exact Wzc (zaa rfl) (Wzc (zaa rfl) Wzn)
     ·have h0:goE (fun i=>zbg i (at_ Rc.o v.rs i)) v.rs.length=0:=zb4 fun k hk=>hI k (by omega)
      rw[ziA _ _ h0,h0]
      (conv=>whnf);repeat(((refine KIf.f (decide_eq_false (by omega)) ?_;conv=>whnf)))
      refine .z [] ?_;unfold Wz;exact Wzc (zaa rfl) (Wzc (zaa rfl) Wzn)
    ·have hre:zaU v=6:=by unfold zaU;rw[if_pos (.inr (.inr hk))]
     rw[hre,if_pos (by decide),zaN (by decide)]
     (conv=>whnf);repeat(first|refine KIf.f rfl ?_|refine KIf.f ?_ ?_;(focus(simp only[Bool.not_eq_true',Bool.not_eq_false',Bool.not_true,Bool.not_false];assumption))|refine Need.mk ?_ ?_;trivial|refine KCall.pure (hW) ?_|refine KCall.pure (hA) ?_|refine KIf.f (congrArg Bool.not (decide_eq_true hw0)) ?_|refine KIf.t (congrArg Bool.not (decide_eq_false hk)) ?_|refine KIf.f (decide_eq_false (by omega)) ?_);conv=>whnf
     refine .z [] ?_;unfold Wz;exact Wzc (zaa rfl) (Wzc (zaa rfl) Wzn)
 ·obtain⟨q1,q2⟩:=hwt rfl hw0;rw[q1,q2]
  (conv=>whnf);repeat(first|refine KIf.f rfl ?_|refine KCall.pure (hW) ?_|refine KCall.pure (hA) ?_|refine KIf.t (congrArg Bool.not (decide_eq_false hw0)) ?_|refine KIf.f (decide_eq_false (by omega)) ?_);conv=>whnf
  refine .z [] ?_;unfold Wz;exact Wzc (zaa rfl) (Wzc (zaa rfl) Wzn)
end Go.Proofs.YtgcjejajljhnaaaGreatDoor
namespace Ck
theorem ziI {v:Pt} {i:Nat} (hi:i<v.rs.length) (h:zeC (at_ Rc.o v.rs i)=false):fewP v=false:=by
 unfold fewP;rw[Bool.and_eq_false_iff];right;rw[List.all_eq_false];exact⟨_,at_mem Rc.o v.rs i hi,by rw[h];decide⟩
theorem few_all {v:Pt} (h1:v.al.length≤30∧v.rs.length≤99∧v.ds.length≤70∧v.mp.length≤600) (h:∀i,i<v.rs.length→zeC (at_ Rc.o v.rs i)=true):fewP v=true:=by
 unfold fewP;obtain⟨a,b,c,d⟩:=h1;rw[decide_eq_true a,decide_eq_true b,decide_eq_true c,decide_eq_true d,Bool.true_and,Bool.true_and,Bool.true_and,Bool.true_and,List.all_eq_true];intro x hx;obtain⟨i,hi,rfl⟩:=List.getElem_of_mem hx;have:=h i hi
 rwa [zaG _ _ _ hi] at this
theorem znd {α:Type} {o:α} {l:List α} {p:α→Bool} (h:∀i,i<l.length→p (at_ o l i)=true):l.all p=true:=by
 rw[List.all_eq_true];intro x hx;obtain⟨i,hi,rfl⟩:=List.getElem_of_mem hx;have:=h i hi
 rwa [zaG _ _ _ hi] at this
theorem znc {α:Type} {o:α} {l:List α} {p:α→Bool} {i:Nat} (hi:i<l.length) (h:p (at_ o l i)=false):l.all p=false:=by
 rw[List.all_eq_false];exact⟨_,at_mem o l i hi,by rw[h];decide⟩
theorem zkX {x:Rc} (h:x.ns.length≤10∧x.ss.length≤10∧x.es.length≤60):zeC x=(x.ns.all zeJ&&(x.es.all zeU&&x.ss.all zer)):=by
 unfold zeC;rw[decide_eq_true h.1,decide_eq_true h.2.1,decide_eq_true h.2.2];rfl
end Ck
namespace Go.Proofs.YtgcjejajljhnaaaGreatDoor
open Go.Ex Ck
set_option maxRecDepth 100000
set_option maxHeartbeats 8000000
theorem nfew_k (v:Pt):PureC Tryz.prog 11 [aPts v] (bb (fewP v)):=by
 refine PureC.of kmix rfl ?_;by_cases h0:30<v.al.length∨99<v.rs.length∨70<v.ds.length∨600<v.mp.length
 ·have hf:fewP v=false:=by
   cases e:fewP v
   ·rfl
   ·unfold fewP at e;simp only[Bool.and_eq_true,decide_eq_true_eq] at e;omega
  rw[hf];by_cases n1:30<v.al.length
  ·(conv=>whnf);repeat(first|refine KIf.t rfl ?_|refine KIf.t (decide_eq_true (by omega)) ?_);conv=>whnf
   refine .z [] ?_;exact zaa rfl
  by_cases n2:99<v.rs.length
  ·(conv=>whnf);repeat(first|refine KIf.t rfl ?_|refine KIf.t (decide_eq_true (by omega)) ?_|refine KIf.f (decide_eq_false (by omega)) ?_);conv=>whnf
   refine .z [] ?_;exact zaa rfl
  by_cases n3:70<v.ds.length
  ·(conv=>whnf);repeat(first|refine KIf.t rfl ?_|refine KIf.t (decide_eq_true (by omega)) ?_|refine KIf.f (decide_eq_false (by omega)) ?_);conv=>whnf
   refine .z [] ?_;exact zaa rfl
  (conv=>whnf);repeat((first|(refine KIf.t (decide_eq_true (by omega)) ?_;conv=>whnf)|(refine KIf.f (decide_eq_false (by omega)) ?_;conv=>whnf)))
  refine .z [] ?_;exact zaa rfl
 (conv=>whnf);repeat(((refine KIf.f (decide_eq_false (by omega)) ?_;conv=>whnf)))
 refine WLoop.inv kmix (D:=Nat) (fun i=>v.rs.length-i) (fun i=>i≤v.rs.length∧∀j,j<i→zeC (at_ Rc.o v.rs j)=true) (fun i=>slots [(1, .ptr 0 0),(2,bb false),(3,ib i)] 103) (fun i=>zaj [.row (aPt v) 26 0]) 0 ⟨Nat.zero_le _,fun j hj=>absurd hj (Nat.not_lt_zero _)⟩ ?_ ?_
 ·(refine Weak.of [0] [] rfl rfl ?_ ?_<;>(repeat' first|exact zT|refine zA ?_ ?_)<;>(conv=>whnf)<;>(repeat'(exact rfl))<;>((exact Or.inr ⟨rfl,rfl⟩)))
 rintro i ⟨hi,hJ⟩;by_cases hlt:i<v.rs.length
 ·by_cases hbad:10<(at_ Rc.o v.rs i).ns.length∨10<(at_ Rc.o v.rs i).ss.length∨60<(at_ Rc.o v.rs i).es.length
  ·have hf:fewP v=false:=ziI hlt (by
    cases e:zeC (at_ Rc.o v.rs i)
    ·rfl
    ·unfold zeC at e;simp only[Bool.and_eq_true,decide_eq_true_eq] at e
     omega)
   rw[hf]
   by_cases n1:(10:Int)<(((at_ Rc.o v.rs i).ns.length:Nat):Int)
   ·(conv=>whnf);repeat(first|refine KIf.dt ?_ ?_;assumption|refine KIf.t rfl ?_|refine Need.mk ?_ ?_;omega|refine KIf.t (decide_eq_true (by omega)) ?_);conv=>whnf
    refine .z [] ?_;exact zaa rfl
   by_cases n2:(10:Int)<(((at_ Rc.o v.rs i).ss.length:Nat):Int)
   ·(conv=>whnf);repeat(first|refine KIf.dt ?_ ?_;assumption|refine KIf.df ?_ ?_;assumption|refine KIf.t rfl ?_|refine Need.mk ?_ ?_;omega|refine KIf.t (decide_eq_true (by omega)) ?_);conv=>whnf
    refine .z [] ?_;exact zaa rfl
   have n3:(60:Int)<(((at_ Rc.o v.rs i).es.length:Nat):Int):=by omega
   (conv=>whnf);repeat(first|refine KIf.dt ?_ ?_;assumption|refine KIf.df ?_ ?_;assumption|refine Need.mk ?_ ?_;omega|refine KIf.t (decide_eq_true (by omega)) ?_);conv=>whnf
   refine .z [] ?_;exact zaa rfl
  have hlen:(at_ Rc.o v.rs i).ns.length≤10∧(at_ Rc.o v.rs i).ss.length≤10∧(at_ Rc.o v.rs i).es.length≤60:=by omega
  have n1:¬(10:Int)<(((at_ Rc.o v.rs i).ns.length:Nat):Int):=by omega
  have n2:¬(10:Int)<(((at_ Rc.o v.rs i).ss.length:Nat):Int):=by omega
  have n3:¬(60:Int)<(((at_ Rc.o v.rs i).es.length:Nat):Int):=by omega
  (conv=>whnf);repeat(first|refine KIf.df ?_ ?_;assumption|refine Need.mk ?_ ?_;omega|refine KIf.t (decide_eq_true (by omega)) ?_);conv=>whnf
  refine WLoop.inv kmix (D:=Nat) (fun d=>(at_ Rc.o v.rs i).ns.length-d) (fun d=>d≤(at_ Rc.o v.rs i).ns.length∧∀j,j<d→zeJ (at_ Nm.o (at_ Rc.o v.rs i).ns j)=true) (fun d=>slots [(1, .ptr 0 0),(2,bb false),(3,ib i),(4, .ptr 1 0),(5,ib d)] 103) (fun d=>zaj [.row (aPt v) 26 0, .row (aRc (at_ Rc.o v.rs i)) 66 0]) 0 ⟨Nat.zero_le _,fun j hj=>absurd hj (Nat.not_lt_zero _)⟩ ?_ ?_
  ·(refine Weak.of [0,1] [] rfl rfl ?_ ?_<;>(repeat' first|exact zT|refine zA ?_ ?_)<;>(conv=>whnf)<;>(repeat'(exact rfl))<;>((exact Or.inr ⟨rfl,rfl⟩)))
  rintro d ⟨hd,hI⟩;by_cases hdl:d<(at_ Rc.o v.rs i).ns.length
  ·have hdl2:((d:Nat):Int)<(((at_ Rc.o v.rs i).ns.length:Nat):Int):=by omega
   by_cases hc:40<(at_ Nm.o (at_ Rc.o v.rs i).ns d).n.length
   ·have hb:zeJ (at_ Nm.o (at_ Rc.o v.rs i).ns d)=false:=by unfold zeJ;exact decide_eq_false (by omega)
    have hf:fewP v=false:=ziI hlt (by rw[zkX hlen,znc (o:=Nm.o) hdl hb];rfl);rw[hf]
    have hc2:(40:Int)<(((at_ Nm.o (at_ Rc.o v.rs i).ns d).n.length:Nat):Int):=by omega
    (conv=>whnf);repeat(first|refine KIf.dt ?_ ?_;assumption|refine Need.mk ?_ ?_;omega);conv=>whnf
    refine .z [] ?_;exact zaa rfl
   ·have hb:zeJ (at_ Nm.o (at_ Rc.o v.rs i).ns d)=true:=by unfold zeJ;exact decide_eq_true (by omega)
    have hc2:¬(40:Int)<(((at_ Nm.o (at_ Rc.o v.rs i).ns d).n.length:Nat):Int):=by omega
    (conv=>whnf);repeat(first|refine KIf.dt ?_ ?_;assumption|refine KIf.df ?_ ?_;assumption|refine Need.mk ?_ ?_;(first|omega|(constructor<;>omega)));conv=>whnf
    refine⟨d+1,⟨hdl,fun j hj=> ?_⟩,by dsimp only;omega,?_⟩
    ·by_cases e:j=d
     ·rw[e];exact hb
     ·exact hI j (by omega)
    ·(refine Weak.of [0,1] [] rfl rfl ?_ ?_<;>(repeat' first|exact zT|refine zA ?_ ?_)<;>(conv=>whnf)<;>(repeat'(exact rfl))<;>((exact Or.inr ⟨rfl,rfl⟩)))
  have hdl2:¬((d:Nat):Int)<(((at_ Rc.o v.rs i).ns.length:Nat):Int):=by omega
  have ha_ns:(at_ Rc.o v.rs i).ns.all zeJ=true:=znd (o:=Nm.o) fun j hj=>hI j (by omega)
  (conv=>whnf);repeat((refine KIf.df ?_ ?_;assumption;conv=>whnf))
  refine WLoop.inv kmix (D:=Nat) (fun d=>(at_ Rc.o v.rs i).es.length-d) (fun d=>d≤(at_ Rc.o v.rs i).es.length∧∀j,j<d→zeU (at_ En.o (at_ Rc.o v.rs i).es j)=true) (fun d=>slots [(1, .ptr 0 0),(2,bb false),(3,ib i),(4, .ptr 1 0),(6,ib d)] 103) (fun d=>zaj [.row (aPt v) 26 0, .row (aRc (at_ Rc.o v.rs i)) 66 0]) 0 ⟨Nat.zero_le _,fun j hj=>absurd hj (Nat.not_lt_zero _)⟩ ?_ ?_
  ·(refine Weak.of [0,1] [] rfl rfl ?_ ?_<;>(repeat' first|exact zT|refine zA ?_ ?_)<;>(conv=>whnf)<;>(repeat'(exact rfl))<;>((exact Or.inr ⟨rfl,rfl⟩)))
  rintro d ⟨hd,hI⟩;by_cases hdl:d<(at_ Rc.o v.rs i).es.length
  ·have hdl2:((d:Nat):Int)<(((at_ Rc.o v.rs i).es.length:Nat):Int):=by omega
   by_cases hc:40<(at_ En.o (at_ Rc.o v.rs i).es d).n.length
   ·have hb:zeU (at_ En.o (at_ Rc.o v.rs i).es d)=false:=by unfold zeU;exact decide_eq_false (by omega)
    have hf:fewP v=false:=ziI hlt (by rw[zkX hlen,ha_ns,znc (o:=En.o) hdl hb];rfl);rw[hf]
    have hc2:(40:Int)<(((at_ En.o (at_ Rc.o v.rs i).es d).n.length:Nat):Int):=by omega
    (conv=>whnf);repeat(first|refine KIf.dt ?_ ?_;assumption|refine Need.mk ?_ ?_;omega);conv=>whnf
    refine .z [] ?_;exact zaa rfl
   ·have hb:zeU (at_ En.o (at_ Rc.o v.rs i).es d)=true:=by unfold zeU;exact decide_eq_true (by omega)
    have hc2:¬(40:Int)<(((at_ En.o (at_ Rc.o v.rs i).es d).n.length:Nat):Int):=by omega
    (conv=>whnf);repeat(first|refine KIf.dt ?_ ?_;assumption|refine KIf.df ?_ ?_;assumption|refine Need.mk ?_ ?_;(first|omega|(constructor<;>omega)));conv=>whnf
    refine⟨d+1,⟨hdl,fun j hj=> ?_⟩,by dsimp only;omega,?_⟩
    ·by_cases e:j=d
     ·rw[e];exact hb
     ·exact hI j (by omega)
    ·(refine Weak.of [0,1] [] rfl rfl ?_ ?_<;>(repeat' first|exact zT|refine zA ?_ ?_)<;>(conv=>whnf)<;>(repeat'(exact rfl))<;>((exact Or.inr ⟨rfl,rfl⟩)))
  have hdl2:¬((d:Nat):Int)<(((at_ Rc.o v.rs i).es.length:Nat):Int):=by omega
  have ha_es:(at_ Rc.o v.rs i).es.all zeU=true:=znd (o:=En.o) fun j hj=>hI j (by omega)
  (conv=>whnf);repeat((refine KIf.df ?_ ?_;assumption;conv=>whnf))
  refine WLoop.inv kmix (D:=Nat) (fun d=>(at_ Rc.o v.rs i).ss.length-d) (fun d=>d≤(at_ Rc.o v.rs i).ss.length∧∀j,j<d→zer (at_ Sm.o (at_ Rc.o v.rs i).ss j)=true) (fun d=>slots [(1, .ptr 0 0),(2,bb false),(3,ib i),(4, .ptr 1 0),(7,ib d)] 103) (fun d=>zaj [.row (aPt v) 26 0, .row (aRc (at_ Rc.o v.rs i)) 66 0]) 0 ⟨Nat.zero_le _,fun j hj=>absurd hj (Nat.not_lt_zero _)⟩ ?_ ?_
  ·(refine Weak.of [0,1] [] rfl rfl ?_ ?_<;>(repeat' first|exact zT|refine zA ?_ ?_)<;>(conv=>whnf)<;>(repeat'(exact rfl))<;>((exact Or.inr ⟨rfl,rfl⟩)))
  rintro d ⟨hd,hI⟩;by_cases hdl:d<(at_ Rc.o v.rs i).ss.length
  ·have hdl2:((d:Nat):Int)<(((at_ Rc.o v.rs i).ss.length:Nat):Int):=by omega
   by_cases hc:30<(at_ Sm.o (at_ Rc.o v.rs i).ss d).r.length
   ·have hb:zer (at_ Sm.o (at_ Rc.o v.rs i).ss d)=false:=by unfold zer;exact decide_eq_false (by omega)
    have hf:fewP v=false:=ziI hlt (by rw[zkX hlen,ha_ns,ha_es,znc (o:=Sm.o) hdl hb];rfl);rw[hf]
    have hc2:(30:Int)<(((at_ Sm.o (at_ Rc.o v.rs i).ss d).r.length:Nat):Int):=by omega
    (conv=>whnf);repeat(first|refine KIf.dt ?_ ?_;assumption|refine Need.mk ?_ ?_;omega);conv=>whnf
    refine .z [] ?_;exact zaa rfl
   ·have hb:zer (at_ Sm.o (at_ Rc.o v.rs i).ss d)=true:=by unfold zer;exact decide_eq_true (by omega)
    have hc2:¬(30:Int)<(((at_ Sm.o (at_ Rc.o v.rs i).ss d).r.length:Nat):Int):=by omega
    (conv=>whnf);repeat(first|refine KIf.dt ?_ ?_;assumption|refine KIf.df ?_ ?_;assumption|refine Need.mk ?_ ?_;(first|omega|(constructor<;>omega)));conv=>whnf
    refine⟨d+1,⟨hdl,fun j hj=> ?_⟩,by dsimp only;omega,?_⟩
    ·by_cases e:j=d
     ·rw[e];exact hb
     ·exact hI j (by omega)
    ·(refine Weak.of [0,1] [] rfl rfl ?_ ?_<;>(repeat' first|exact zT|refine zA ?_ ?_)<;>(conv=>whnf)<;>(repeat'(exact rfl))<;>((exact Or.inr ⟨rfl,rfl⟩)))
  have hdl2:¬((d:Nat):Int)<(((at_ Rc.o v.rs i).ss.length:Nat):Int):=by omega
  have ha_ss:(at_ Rc.o v.rs i).ss.all zer=true:=znd (o:=Sm.o) fun j hj=>hI j (by omega)
  (conv=>whnf);repeat(first|refine KIf.df ?_ ?_;assumption|refine Need.mk ?_ ?_;((constructor<;>omega)));conv=>whnf
  refine⟨i+1,⟨hlt,fun j hj=> ?_⟩,by dsimp only;omega,?_⟩
  ·by_cases e:j=i
   ·rw[e,zkX hlen,ha_ns,ha_es,ha_ss];rfl
   ·exact hJ j (by omega)
  ·(refine Weak.of [0] [] rfl rfl ?_ ?_<;>(repeat' first|exact zT|refine zA ?_ ?_)<;>(conv=>whnf)<;>(repeat'(exact rfl))<;>((exact Or.inr ⟨rfl,rfl⟩)))
 ·have hf:fewP v=true:=few_all (by omega) fun j hj=>hJ j (by omega)
  rw[hf]
  (conv=>whnf);repeat(((refine KIf.f (decide_eq_false (by omega)) ?_;conv=>whnf)))
  refine .z [] ?_;exact zaa rfl
set_option maxHeartbeats 400000
theorem few_k (v:Pt):PureC Tryz.prog 11 [aPts v] (bb (fewP v)):=nfew_k v
theorem zfY (v:Pt) (h:FitP v):PureC Tryz.prog 12 [aPts v] (.tup [ib (Ck.partsIx v),ib (Ck.partsErr v)]):=cCheckParts_k v h
theorem rCheckParts_k (v:Pt) (h:FitP v):PureC Tryz.prog 14 [aPts v] (.tup [ib (Ck.partsIx v),ib (Ck.partsErr v)]):=nCheckParts_k v h
theorem zdJ (v:Pt) (h:FitP v):PureC Tryz.prog 52 [aPts v] (ib (Ck.partsErr v)):=by
 refine PureC.of kmix rfl ?_
 (conv=>whnf);repeat((refine KCall.pure (zfY v h) ?_;conv=>whnf))
 refine .z [] ?_;(conv=>whnf);exact⟨rfl,rfl⟩
theorem zfQ (v:Pt) (h:FitP v):PureC Tryz.prog 16 [aPts v] (ib (Ck.partsErr v)):=by
 refine PureC.of kmix rfl ?_
 (conv=>whnf);repeat((refine KCall.pure (rCheckParts_k v h) ?_;conv=>whnf))
 refine .z [] ?_;(conv=>whnf);exact⟨rfl,rfl⟩
set_option maxHeartbeats 1000000
theorem Ints_k (a b:List Int) (ha:a.length≤100000) (hb:b.length≤100000):PureC Tryz.prog 27 [LS 1 aI 0 a,LS 1 aI 0 b] (bb (decide (a=b))):=by
 refine PureC.of kmix rfl ?_
 conv=>whnf
 by_cases h:a.length=b.length
 ·(conv=>whnf);repeat((refine KIf.f (by simp[h]) ?_;conv=>whnf))
  refine WLoop.inv kmix (D:=Nat) (fun d=>a.length-d) (fun d=>d≤a.length∧∀i,i<d→at_ 0 a i=at_ 0 b i) (fun d=>slots [(0,LS 1 aI 0 a),(1,LS 1 aI 0 b),(4,bb false),(5,ib d)] 26) (fun d=>zaj []) 0 ⟨Nat.zero_le _,fun i hi=>absurd hi (Nat.not_lt_zero _)⟩ ?_ ?_
  ·(refine Weak.of [] [] rfl rfl ?_ ?_<;>(repeat' first|exact zT|refine zA ?_ ?_)<;>(conv=>whnf)<;>(repeat'(exact rfl))<;>((intro _ _;rfl)))
  ·rintro d ⟨hd,hs⟩
   conv=>whnf
   refine KIf.dec (fun hlt=> ?_) (fun hlt=> ?_)
   ·have h1:d<a.length:=by omega
    have h2:d<b.length:=by omega
    by_cases he:at_ 0 a d=at_ 0 b d
    ·skip
     (conv=>whnf);repeat(first|refine Need.mk (p:=zah _=true) ?_ ?_;decide+kernel|refine Need.mk ?_ ?_;(first|omega|(constructor<;>omega))|refine KIf.f (by simp[he]) ?_);conv=>whnf
     refine⟨d+1,⟨h1,fun i hi=> ?_⟩,by dsimp only;omega,?_⟩
     ·rcases Nat.lt_or_ge i d with h3|h3
      ·exact hs i h3
      ·rw[show i=d by omega];exact he
     ·(refine Weak.of [] [] rfl rfl ?_ ?_<;>(repeat' first|exact zT|refine zA ?_ ?_)<;>(conv=>whnf)<;>(repeat'(exact rfl))<;>((intro _ _;rfl)))
    ·have hne:a≠b:=fun e=>he (by rw[e])
     (conv=>whnf);repeat(first|refine Need.mk (p:=zah _=true) ?_ ?_;decide+kernel|refine Need.mk ?_ ?_;omega|refine KIf.t (by simp[he]) ?_);conv=>whnf
     (refine .z [] ?_;conv=>whnf);(repeat'(fail))<;>(try(conv=>whnf))<;>((exact decide_eq_false hne))
   ·have hab:a=b:=(zmG 0 h.symm fun i hi=>hs i (by omega)).symm
    conv=>whnf
    (refine .z [] ?_;conv=>whnf);(repeat'(fail))<;>(try(conv=>whnf))<;>((exact decide_eq_true hab))
 ·have hne:a≠b:=fun e=>h (by rw[e])
  (conv=>whnf);repeat((refine KIf.t (by simp;omega) ?_;conv=>whnf))
  (refine .z [] ?_;conv=>whnf);(repeat'(fail))<;>(try(conv=>whnf))<;>((exact decide_eq_false hne))
theorem zfG (a b:List Run) (ha:a.length≤100000) (hb:b.length≤100000):PureC Tryz.prog 62 [LS 2 aRun Run.o a,LS 2 aRun Run.o b] (bb (decide (a=b))):=by
 refine PureC.of kmix rfl ?_
 conv=>whnf
 by_cases h:a.length=b.length
 ·(conv=>whnf);repeat((refine KIf.f (by simp[h]) ?_;conv=>whnf))
  refine WLoop.inv kmix (D:=Nat) (fun d=>a.length-d) (fun d=>d≤a.length∧∀i,i<d→at_ Run.o a i=at_ Run.o b i) (fun d=>slots [(0,LS 2 aRun Run.o a),(1,LS 2 aRun Run.o b),(4,bb false),(5,ib d)] 26) (fun d=>zaj []) 0 ⟨Nat.zero_le _,fun i hi=>absurd hi (Nat.not_lt_zero _)⟩ ?_ ?_
  ·(refine Weak.of [] [] rfl rfl ?_ ?_<;>(repeat' first|exact zT|refine zA ?_ ?_)<;>(conv=>whnf)<;>(repeat'(exact rfl))<;>((intro _ _;rfl)))
  ·rintro d ⟨hd,hs⟩
   conv=>whnf
   refine KIf.dec (fun hlt=> ?_) (fun hlt=> ?_)
   ·have h1:d<a.length:=by omega
    have h2:d<b.length:=by omega
    by_cases he:at_ Run.o a d=at_ Run.o b d
    ·skip
     (conv=>whnf);repeat(first|refine Need.mk (p:=zah _=true) ?_ ?_;decide+kernel|refine Need.mk ?_ ?_;(first|omega|(constructor<;>omega))|refine EqK.of (zlx _ _) ?_|refine KIf.f (by exact congrArg Bool.not ((zoF (at_ Run.o a d) (at_ Run.o b d)).trans (decide_eq_true he))) ?_);conv=>whnf
     refine⟨d+1,⟨h1,fun i hi=> ?_⟩,by dsimp only;omega,?_⟩
     ·rcases Nat.lt_or_ge i d with h3|h3
      ·exact hs i h3
      ·rw[show i=d by omega];exact he
     ·(refine Weak.of [] [] rfl rfl ?_ ?_<;>(repeat' first|exact zT|refine zA ?_ ?_)<;>(conv=>whnf)<;>(repeat'(exact rfl))<;>((intro _ _;rfl)))
    ·have hne:a≠b:=fun e=>he (by rw[e])
     (conv=>whnf);repeat(first|refine Need.mk (p:=zah _=true) ?_ ?_;decide+kernel|refine Need.mk ?_ ?_;omega|refine EqK.of (zlx _ _) ?_|refine KIf.t (by exact congrArg Bool.not ((zoF (at_ Run.o a d) (at_ Run.o b d)).trans (decide_eq_false he))) ?_);conv=>whnf
     (refine .z [] ?_;conv=>whnf);(repeat'(fail))<;>(try(conv=>whnf))<;>((exact decide_eq_false hne))
   ·have hab:a=b:=(zmG Run.o h.symm fun i hi=>hs i (by omega)).symm
    conv=>whnf
    (refine .z [] ?_;conv=>whnf);(repeat'(fail))<;>(try(conv=>whnf))<;>((exact decide_eq_true hab))
 ·have hne:a≠b:=fun e=>h (by rw[e])
  (conv=>whnf);repeat((refine KIf.t (by simp;omega) ?_;conv=>whnf))
  (refine .z [] ?_;conv=>whnf);(repeat'(fail))<;>(try(conv=>whnf))<;>((exact decide_eq_false hne))
theorem ze6 (a b:List Sm) (ha:a.length≤100000) (hb:b.length≤100000) (har:∀x∈a,x.r.length≤100000) (hbr:∀x∈b,x.r.length≤100000):PureC Tryz.prog 33 [LS 2 aSm Sm.o a,LS 2 aSm Sm.o b] (bb (decide (a=b))):=by
 refine PureC.of kmix rfl ?_
 conv=>whnf
 by_cases h:a.length=b.length
 ·(conv=>whnf);repeat((refine KIf.f (by simp[h]) ?_;conv=>whnf))
  refine WLoop.inv kmix (D:=Nat) (fun d=>a.length-d) (fun d=>d≤a.length∧∀i,i<d→at_ Sm.o a i=at_ Sm.o b i) (fun d=>slots [(0,LS 2 aSm Sm.o a),(1,LS 2 aSm Sm.o b),(4,bb false),(5,ib d)] 42) (fun d=>zaj []) 0 ⟨Nat.zero_le _,fun i hi=>absurd hi (Nat.not_lt_zero _)⟩ ?_ ?_
  ·(refine Weak.of [] [] rfl rfl ?_ ?_<;>(repeat' first|exact zT|refine zA ?_ ?_)<;>(conv=>whnf)<;>(repeat'(exact rfl))<;>((intro _ _;rfl)))
  ·rintro d ⟨hd,hs⟩
   conv=>whnf
   refine KIf.dec (fun hlt=> ?_) (fun hlt=> ?_)
   ·have h1:d<a.length:=by omega
    have h2:d<b.length:=by omega
    have hr1:=har _ (at_mem Sm.o a d h1);have hr2:=hbr _ (at_mem Sm.o b d h2);by_cases hz:(at_ Sm.o a d).z=(at_ Sm.o b d).z
    ·by_cases hr:(at_ Sm.o a d).r=(at_ Sm.o b d).r
     ·have he:at_ Sm.o a d=at_ Sm.o b d:=by
       generalize at_ Sm.o a d=x at*
       generalize at_ Sm.o b d=y at*
       obtain⟨x1,x2⟩:=x;obtain⟨y1,y2⟩:=y;simp only at hz hr;rw[hz,hr]
      (conv=>whnf);repeat(first|refine Need.mk (p:=zah _=true) ?_ ?_;decide+kernel|refine Need.mk ?_ ?_;(first|omega|(constructor<;>omega))|refine DCall.pure (zfG _ _ hr1 hr2) ?_|refine KIf.f (congrArg Bool.not (decide_eq_true hr)) ?_|refine KIf.f (congrArg Bool.not (decide_eq_true hz)) ?_);conv=>whnf
      refine⟨d+1,⟨h1,fun i hi=> ?_⟩,by dsimp only;omega,?_⟩
      ·rcases Nat.lt_or_ge i d with h3|h3
       ·exact hs i h3
       ·rw[show i=d by omega];exact he
      ·(refine Weak.of [] [] rfl rfl ?_ ?_<;>(repeat' first|exact zT|refine zA ?_ ?_)<;>(conv=>whnf)<;>(repeat'(exact rfl))<;>((intro _ _;rfl)))
     ·have hne:a≠b:=fun e=>hr (by rw[e])
      (conv=>whnf);repeat(first|refine Need.mk (p:=zah _=true) ?_ ?_;decide+kernel|refine Need.mk ?_ ?_;omega|refine DCall.pure (zfG _ _ hr1 hr2) ?_|refine KIf.t (congrArg Bool.not (decide_eq_false hr)) ?_|refine KIf.f (congrArg Bool.not (decide_eq_true hz)) ?_);conv=>whnf
      (refine .z [] ?_;conv=>whnf);(repeat'(fail))<;>(try(conv=>whnf))<;>((exact decide_eq_false hne))
    ·have hne:a≠b:=fun e=>hz (by rw[e])
     (conv=>whnf);repeat(first|refine KIf.t rfl ?_|refine Need.mk (p:=zah _=true) ?_ ?_;decide+kernel|refine Need.mk ?_ ?_;omega|refine KIf.t (congrArg Bool.not (decide_eq_false hz)) ?_);conv=>whnf
     (refine .z [] ?_;conv=>whnf);(repeat'(fail))<;>(try(conv=>whnf))<;>((exact decide_eq_false hne))
   ·have hab:a=b:=(zmG Sm.o h.symm fun i hi=>hs i (by omega)).symm
    conv=>whnf
    (refine .z [] ?_;conv=>whnf);(repeat'(fail))<;>(try(conv=>whnf))<;>((exact decide_eq_true hab))
 ·have hne:a≠b:=fun e=>h (by rw[e])
  (conv=>whnf);repeat((refine KIf.t (by simp;omega) ?_;conv=>whnf))
  (refine .z [] ?_;conv=>whnf);(repeat'(fail))<;>(try(conv=>whnf))<;>((exact decide_eq_false hne))
end Go.Proofs.YtgcjejajljhnaaaGreatDoor
namespace Ck
open Go Go.Ex
open Go.Proofs.YtgcjejajljhnaaaGreatDoor
theorem Valid.okr {v:Pt} (h:Valid v) (hf:FitP v):Okr v:=by
 have hs:∀x∈v.rs,zcf x=0:=fun x hx=>by
  obtain⟨i,hi,rfl⟩:=List.getElem_of_mem hx;have:=h.rcs i hi;rw[zaG _ _ _ hi] at this;exact(zbV this).2.2.1
 refine⟨⟨by have:=h.c;omega,by have:=h.lens;omega,hf.f.ss,by have:=h.lens;omega,fun r hr=> ?_,fun x hx s hsm=> ?_⟩,fun r hr=> ?_⟩
 ·have:=h.al r hr;have:=h.c;unfold Go.Proofs.YtgcjejajljhnaaaGreatDoor.RunOk;omega
 ·obtain⟨h1,h2⟩:=zhn (hs x hx) s hsm;exact⟨by omega,fun r hr=>by have:=h2 r hr;unfold Go.Proofs.YtgcjejajljhnaaaGreatDoor.RunOk;omega⟩
 ·have:=h.al r hr;omega
theorem Valid.dir5 {v:Pt} (h:Valid v):Ck.dir (at_ Rc.o v.rs 5)=true:=by
 obtain⟨_,h1,h2⟩:=h.root;unfold Ck.dir;rw[h1,h2];rfl
end Ck
namespace Go.Proofs.YtgcjejajljhnaaaGreatDoor
open Go.Ex Ck
set_option maxRecDepth 100000
set_option maxHeartbeats 4000000
theorem UsedBy_ok (v:Pt) (h:FitP v) (he:Ck.partsErr v=0):PureC Tryz.prog 36 [aPts v] (.tup [tb (Ck.used v),ib 0]):=by
 have hv:=(Valid.of he).okr h;refine PureC.of kmix rfl ?_
 (conv=>whnf);repeat(first|refine KCall.pure (zdJ v h) ?_|refine KIf.f (congrArg Bool.not (decide_eq_true he)) ?_|refine KCall.pure (znF v hv.toOkv) ?_);conv=>whnf
 (refine .z [] ?_;conv=>whnf);(repeat' first|exact zT|exact rfl|refine zA ?_ ?_)<;>(try(conv=>whnf))
noncomputable def filt (v:Pt) (d:Nat):List Int:=((List.range d).filter (fun i=>at_ false (rchL v) i)).map fun(i:Nat)=>(i:Int)
theorem znZ (v:Pt) (d:Nat) (h:at_ false (rchL v) d=true):filt v (d+1)=filt v d++[(d:Int)]:=by
 unfold filt;rw[List.range_succ,List.filter_append,List.map_append];simp[h]
theorem zn0 (v:Pt) (d:Nat) (h:at_ false (rchL v) d=false):filt v (d+1)=filt v d:=by
 unfold filt;rw[List.range_succ,List.filter_append,List.map_append];simp[h]
theorem ziG (v:Pt) (d:Nat):(filt v d).length≤d:=by
 unfold filt;rw[List.length_map];exact Nat.le_trans (List.length_filter_le _ _) (by simp)
def lv (b:Nat):List Int→AV
 |[]=> .sc (.slice none 0 0)
 |x::l=> .so b 0 (x::l).length 0
def lr :List Int→List AO
 |[]=>[]
 |x::l=>[.row ((x::l).map ib) 3 1]
theorem zfX (v:Pt) (h:FitP v) (he:Ck.partsErr v=0):PureC Tryz.prog 31 [aPts v] (.tup [LS 1 aI 0 (filt v v.rs.length),ib 0]):=by
 have hv:=Valid.of he;have hn:=hv.lens.2.1;have hrl:=zf5 v;refine PureC.of kmix rfl ?_
 (conv=>whnf);repeat(first|refine KCall.pure (zdJ v h) ?_|refine KIf.f (congrArg Bool.not (decide_eq_true he)) ?_|refine KCall.pure (reached_k v (by omega) hv.root.1 (Valid.dir5 hv) h.f.es) ?_);conv=>whnf
 refine WLoop.inv kmix (D:=Nat×List Int) (fun d=>(rchL v).length-d.1) (fun d=>d.1≤(rchL v).length∧d.2=filt v d.1)
  (fun d=>slots [(5,lv 1 d.2),(14,LS 1 aB false (rchL v)),(15,ib (rchL v).length),(16,ib d.1)] 28)
  (fun d=>zaj (.row (aPt v) 26 0::lr d.2)) (0,[]) ⟨Nat.zero_le _,rfl⟩ ?_ ?_
 ·(refine Weak.of [0] [] rfl rfl ?_ ?_<;>(repeat' first|exact zT|refine zA ?_ ?_)<;>(conv=>whnf)<;>(repeat'(exact rfl))<;>(first|(intro _ _;rfl)|(exact Or.inr ⟨rfl,rfl⟩)))
 ·rintro⟨d,l⟩ ⟨hd,hl⟩;dsimp only at hd hl;have hll:=ziG v d;rw[←hl] at hll
  obtain⟨mk,hmk⟩:∃b,at_ false (rchL v) d=b:=⟨_,rfl⟩
  cases l with
  |nil=>
   conv=>whnf
   refine KIf.dec (fun h2=> ?_) (fun h2=> ?_)
   ·have hlt:d<(rchL v).length:=by omega
    cases mk
    ·(conv=>whnf);repeat(first|refine KIf.f ?_ ?_;assumption|refine Need.mk ?_ ?_;(first|omega|(constructor<;>omega)));conv=>whnf
     refine⟨(d+1,[]),⟨hlt,by rw[zn0 v d hmk];exact hl⟩,by dsimp only;omega,?_⟩
     (refine Weak.of [0] [] rfl rfl ?_ ?_<;>(repeat' first|exact zT|refine zA ?_ ?_)<;>(conv=>whnf)<;>(repeat'(exact rfl))<;>(first|(intro _ _;rfl)|(exact Or.inr ⟨rfl,rfl⟩)))
    ·(conv=>whnf);repeat(first|refine NCase.s (Nat.succ_ne_zero _) ?_|refine KIf.t ?_ ?_;assumption|refine Need.mk ?_ ?_;(first|trivial|omega|(constructor<;>omega)));conv=>whnf
     refine⟨(d+1,[(d:Int)]),⟨hlt,by rw[znZ v d hmk,←hl];rfl⟩,by dsimp only;omega,?_⟩
     (refine Weak.of [0,2] [] rfl rfl ?_ ?_<;>(repeat' first|exact zT|refine zA ?_ ?_)<;>(conv=>whnf)<;>(repeat'(exact rfl))<;>(first|(intro _ _;rfl)|(exact Or.inr ⟨rfl,rfl⟩)))
   ·have hde:d=(rchL v).length:=by omega
    have hfe:filt v v.rs.length=[]:=by rw[←hrl,←hde];exact hl.symm
    rw[hfe]
    conv=>whnf
    (refine .z [] ?_;conv=>whnf);(repeat' first|exact zT|exact rfl|refine zA ?_ ?_)<;>(try(conv=>whnf))
  |cons y l=>
   conv=>whnf
   refine KIf.dec (fun h2=> ?_) (fun h2=> ?_)
   ·have hlt:d<(rchL v).length:=by omega
    cases mk
    ·(conv=>whnf);repeat(first|refine KIf.f ?_ ?_;assumption|refine Need.mk ?_ ?_;(first|omega|(constructor<;>omega)));conv=>whnf
     refine⟨(d+1,y::l),⟨hlt,by rw[zn0 v d hmk];exact hl⟩,by dsimp only;omega,?_⟩
     (refine Weak.of [0,1] [] rfl rfl ?_ ?_<;>(repeat' first|exact zT|refine zA ?_ ?_)<;>(conv=>whnf)<;>(repeat'(exact rfl))<;>(first|(intro _ _;rfl)|(first|exact Or.inr ⟨rfl,rfl⟩|exact Or.inr ⟨rfl,Ck.contL_map (fun _=>rfl) _⟩)))
    ·have hsz:((y::l).length+1)*8≤2^47∧(y::l).length+1≤2^60:=by constructor<;>omega
     (conv=>whnf);repeat(first|refine NCase.s (Nat.succ_ne_zero _) ?_|refine KIf.t ?_ ?_;assumption|refine Need.mk ?_ ?_;(first|trivial|omega|(constructor<;>omega))|refine Need.mk ?_ ?_;exact(by simp));conv=>whnf
     refine⟨(d+1,y::l++[(d:Int)]),⟨hlt,by rw[znZ v d hmk,←hl]⟩,by dsimp only;omega,?_⟩
     (refine Weak.of [0,3] [] rfl rfl ?_ ?_<;>(repeat' first|exact zT|refine zA ?_ ?_)<;>(conv=>whnf)<;>(repeat'(exact rfl))<;>(first|(intro _ _;rfl)|(first|exact zdd (by simp) (contL_map (enc:=ib) (fun _=>rfl) (y::(l++[(d:Int)])))|(exact Or.inr ⟨rfl,rfl⟩)|(simp;done))))
   ·have hde:d=(rchL v).length:=by omega
    have hfe:filt v v.rs.length=y::l:=by rw[←hrl,←hde];exact hl.symm
    rw[hfe]
    conv=>whnf
    refine .z [1] ?_
    conv=>whnf
    exact⟨Wz.own rfl (by simp) rfl (fun _ _=>rfl) (zeP ib 0 (y::l)) (fun _ _=>rfl),zaa rfl,trivial⟩
theorem Clone_nil :Ex.bang Tryz.prog awext 2000 76 [.slice none 0 0] (.slice none 0 0)=true:=by decide+kernel
theorem ziU (l:List Nm) (hl:l.length≤100000):PureC Tryz.prog 76 [LS 3 aNm Nm.o l] (LS 3 aNm Nm.o l):=by
 by_cases h0:l.length=0
 ·obtain rfl:l=[]:=List.eq_nil_of_length_eq_zero h0;refine mt2 kmix (fun s=>CallOk.of_below (args:=[.slice none 0 0]) fun w=>Ex.calls_of_bang awmix zcy (args:=[.slice none 0 0]) Clone_nil w) (fun a cap=> ?_)
  ·(conv=>whnf);repeat(first|refine KIf.t rfl ?_|refine KIf.f rfl ?_|refine Need.mk ?_ ?_;trivial);conv=>whnf
   refine .z [0] ?_;exact Wz.ownS rfl (by simp) rfl (Nat.le_refl _) (fun i hi=>absurd hi (Nat.not_lt_zero _)) rfl (fun i hi=>absurd hi (Nat.not_lt_zero _))
 ·have hb:Nat.ble (0+l.length) 0=false:=by cases h:Nat.ble (0+l.length) 0 with|false=>rfl|true=>have:=Nat.le_of_ble_eq_true h;omega
  refine PureC.of kmix rfl ?_
  (conv=>whnf);repeat(first|refine KIf.f ?_ ?_;assumption|refine KIf.f rfl ?_|refine Need.mk ?_ ?_;omega|refine Need.mk (fun _ _=>rfl) ?_|refine RK.of (zeh rfl rfl (Nat.pos_of_ne_zero h0)) ?_);conv=>whnf
  refine .z [1] ?_;exact Wz.list (fun _=>rfl) (fun _=>rfl) rfl (by simp) (Nat.zero_add _) (by exact zaK aNm Nm.o l)
theorem ze7 (x:Rc) (h1:x.ns.length≤100000) (h2:x.es.length≤100000) (h3:x.ss.length≤100000) (h4:∀y∈x.ss,y.r.length≤100000):PureC Tryz.prog 34 [aRcs x,aRcs x] (bb true):=by
 have hse:decide (x.ss=x.ss)=true:=by simp
 refine PureC.of kmix rfl ?_
 (conv=>whnf);repeat(first|refine KCall.pure (ze6 x.ss x.ss h3 h3 h4 h4) ?_|refine EqK.of (zaY x.b x.b) ?_|refine KIf.f (by simp) ?_);conv=>whnf
 refine WLoop.inv kmix (D:=Nat) (fun d=>x.ns.length-d) (fun d=>d≤x.ns.length) (fun d=>slots [(2, .ptr 0 0),(3, .ptr 1 0),(4,bb false),(5,ib d)] 109) (fun d=>zaj [.row (aRc x) 66 0, .row (aRc x) 66 0]) 0 (Nat.zero_le _) ?_ ?_
 ·(refine Weak.of [0,1] [] rfl rfl ?_ ?_<;>(repeat' first|exact zT|refine zA ?_ ?_)<;>(conv=>whnf)<;>(repeat'(exact rfl))<;>((exact Or.inr ⟨rfl,rfl⟩)))
 ·intro d hd
  conv=>whnf
  refine KIf.dec (fun hlt=> ?_) (fun hlt=> ?_)
  ·have h5:d<x.ns.length:=by omega
   (conv=>whnf);repeat(first|refine Need.mk (p:=zah _=true) ?_ ?_;decide+kernel|refine Need.mk ?_ ?_;(first|omega|(constructor<;>omega))|refine EqK.of (zmV _ _) ?_|refine KIf.f (by simp) ?_);conv=>whnf
   refine⟨d+1,h5,by dsimp only;omega,?_⟩
   (refine Weak.of [0,1] [] rfl rfl ?_ ?_<;>(repeat' first|exact zT|refine zA ?_ ?_)<;>(conv=>whnf)<;>(repeat'(exact rfl))<;>((exact Or.inr ⟨rfl,rfl⟩)))
  ·conv=>whnf
   refine WLoop.inv kmix (D:=Nat) (fun d=>x.es.length-d) (fun d=>d≤x.es.length) (fun d=>slots [(2, .ptr 0 0),(3, .ptr 1 0),(4,bb false),(6,ib d)] 109) (fun d=>zaj [.row (aRc x) 66 0, .row (aRc x) 66 0]) 0 (Nat.zero_le _) ?_ ?_
   ·(refine Weak.of [0,1] [] rfl rfl ?_ ?_<;>(repeat' first|exact zT|refine zA ?_ ?_)<;>(conv=>whnf)<;>(repeat'(exact rfl))<;>((exact Or.inr ⟨rfl,rfl⟩)))
   ·intro d hd
    conv=>whnf
    refine KIf.dec (fun hlt=> ?_) (fun hlt=> ?_)
    ·have h5:d<x.es.length:=by omega
     (conv=>whnf);repeat(first|refine Need.mk (p:=zah _=true) ?_ ?_;decide+kernel|refine Need.mk ?_ ?_;(first|omega|(constructor<;>omega))|refine EqK.of (eqO_en _ _) ?_|refine KIf.f (by simp) ?_);conv=>whnf
     refine⟨d+1,h5,by dsimp only;omega,?_⟩
     (refine Weak.of [0,1] [] rfl rfl ?_ ?_<;>(repeat' first|exact zT|refine zA ?_ ?_)<;>(conv=>whnf)<;>(repeat'(exact rfl))<;>((exact Or.inr ⟨rfl,rfl⟩)))
    ·conv=>whnf
     refine .z [] ?_;exact zaa rfl
end Go.Proofs.YtgcjejajljhnaaaGreatDoor
namespace Ck
open Go Go.Ex
open Go.Proofs.YtgcjejajljhnaaaGreatDoor
theorem zb8 {i:Int} {x:Rc} (h:zcA i x=0):(1≤x.q∧x.q≤65535)∧x.ns.length≤8∧x.ss.length≤8∧x.es.length≤most i:=by
 unfold zcA at h;by_cases h1:(!(wi x.q 1 65535)|| !(wi x.k 0 3)|| !(num x.ln)|| !(num x.ds))=true
 ·rw[if_pos h1] at h;omega
 rw[if_neg h1] at h;by_cases h2:(!x.u&&(x.b !=Ref.o||decide (0<x.ln+x.ds+x.parts+x.k)))=true
 ·rw[if_pos h2] at h;omega
 rw[if_neg h2] at h;by_cases h3:(if x.k=3 then zaC x.b else if x.b=Ref.o then 0 else 2)≠0
 ·rw[if_pos h3] at h;omega
 rw[if_neg h3] at h;by_cases h4:8<x.ns.length∨8<x.ss.length∨most i<x.es.length
 ·rw[if_pos h4] at h;omega
 simp only[Bool.or_eq_true,Bool.not_eq_true',not_or,Bool.not_eq_false] at h1;have hq:=h1.1.1.1;unfold wi at hq;simp only[Bool.and_eq_true,decide_eq_true_eq] at hq;exact⟨hq,by omega,by omega,by omega⟩
theorem zla (i:Int):most i≤700:=by unfold most;split<;>omega
theorem zd7 {s:Sm} (h:zbU s=0):0≤s.z∧s.z≤2147483647:=by
 unfold zbU at h;split at h
 ·omega
 ·split at h
  ·rename_i h2;simp only[Bool.and_eq_true] at h2;have:=h2.2;unfold num wi at this;simp only[Bool.and_eq_true,decide_eq_true_eq] at this;exact this
  ·omega
theorem refErr_parts {r:Ref} (h:zaC r=0):(0≤r.r∧r.r≤95)∧1≤r.q∧r.q≤65535:=by
 unfold zaC at h;split at h
 ·rename_i h2;unfold wi at h2;simp only[Bool.and_eq_true,decide_eq_true_eq] at h2;exact h2
 ·omega
theorem zej {e:En} (h:zcB e=0):zaw e.n=0∧zaC e.f=0∧num e.z=true:=by
 unfold zcB at h;split at h
 ·rename_i h1;split at h
  ·rename_i h2;split at h
   ·rename_i h3;exact⟨h1,h2,h3⟩
   ·omega
  ·rename_i h2;exact absurd h h2
 ·rename_i h1;exact absurd h h1
theorem zcT {v:Pt} (h:partsErr v=0):v.ds.length≠0∧v.mp.length=((v.c+7)/8).toNat:=by
 have hw:za1 v=0:=zaX h _ (by simp);have h2:=zaX hw;have a5:=h2 (if v.ds.length=0 then 17 else 0) (by simp);have a6:=h2 (zaO v.mp v.c) (by simp);constructor
 ·intro e;rw[if_pos e] at a5;omega
 ·unfold zaO at a6;split at a6
  ·split at a6
   ·rename_i h3;exact h3
   ·omega
  ·omega
theorem Ready.of {v:Pt} (hf:FitP v) (he:partsErr v=0):Ready v:=by
 have hv:=Valid.of he;obtain⟨hds,hmp⟩:=zcT he;have hc:=hv.c
 have hr:∀x∈v.rs,∃i,zcA i x=0∧zcf x=0∧zcL x=0:=fun x hx=>by
  obtain⟨i,hi,rfl⟩:=List.getElem_of_mem hx;have:=hv.rcs i hi;rw[zaG _ _ _ hi] at this;exact⟨i,(zbV this).1,(zbV this).2.2.1,(zbV this).2.2.2⟩
 refine⟨⟨hv.root.1,hv.lens.2.1⟩,by omega,⟨fun r hr'=> ?_,by have:=hv.lens;omega⟩,by have:=hv.lens;omega,hmp,fun x hx=> ?_,fun x hx=> ?_,fun x hx=> ?_,fun x hx=> ?_,Valid.dir5 hv⟩
 ·have:=hv.al r hr';omega
 ·obtain⟨i,h1,_⟩:=hr x hx;exact(zb8 h1).1
 ·obtain⟨i,h1,_⟩:=hr x hx;exact⟨by have:=(zb8 h1).2.1;omega,fun m hm=>hf.nl x hx m hm⟩
 ·obtain⟨i,h1,_,h3⟩:=hr x hx;refine⟨by have:=(zb8 h1).2.2.2;have:=zla i;omega,fun e he'=>⟨hf.el x hx e he',?_⟩⟩;obtain⟨k,hk,rfl⟩:=List.getElem_of_mem he';have h4:zcB (at_ En.o x.es k)=0:=zdu _ _ h3 k hk;rw[zaG _ _ _ hk] at h4;exact(refErr_parts (zej h4).2.1).1.1
 ·obtain⟨i,h1,h2,_⟩:=hr x hx;refine⟨by have:=(zb8 h1).2.2.1;omega,fun y hy=> ?_⟩;obtain⟨g1,g2⟩:=zhn h2 y hy
  have hz:0≤y.z∧y.z≤2147483647:=by
   obtain⟨k,hk,rfl⟩:=List.getElem_of_mem hy;have h3:zbU (at_ Sm.o x.ss k)=0:=zdu _ _ h2 k hk;rw[zaG _ _ _ hk] at h3;exact zd7 h3
  exact⟨by omega,hz.1,by omega,fun r hr'=>by have:=g2 r hr';unfold RnOk;omega⟩
end Ck
namespace Ck
theorem zgb :∀{l:List Int},(∀e∈l,e=0)→first l=0
 |[],_=>rfl
 |a::l,h=>by
  have ha:=h a (List.mem_cons_self)
  have:=zgb (l:=l) fun e he=>h e (List.mem_cons_of_mem _ he)
  subst ha
  unfold first
  simpa using this
theorem zmM {f:Nat→Int}:∀{n:Nat},(∀i,i<n→f i=0)→goE f n=0
 |0,_=>rfl
 |n+1,h=>by
  have h1:=zmM (f:=f) (n:=n) fun i hi=>h i (by omega)
  have h2:=h n (by omega);unfold goE;simp[h1,h2]
structure RecOk (i:Int) (x:Rc):Prop where
 q:1≤x.q∧x.q≤65535
 k:0≤x.k∧x.k≤3
 ln:0≤x.ln∧x.ln≤2147483647
 ds:0≤x.ds∧x.ds≤2147483647
 un:x.u=false→x.b=Ref.o∧x.ln+x.ds+x.parts+x.k≤0
 b:(if x.k=3 then zaC x.b else if x.b=Ref.o then 0 else 2)=0
 ns8:x.ns.length≤8
 ss8:x.ss.length≤8
 esm:x.es.length≤most i
 es0:0<x.es.length→x.k=0
 ns0:0<x.ns.length→x.k≠3∧16≤i
 nn:∀n∈x.ns,zcG n=0
 sn:∀s∈x.ss,zbU s=0
 en:∀e∈x.es,zcB e=0
theorem zkm {α:Type} {o:α} {f:α→Int} {l:List α} (h:goE (fun i=>f (at_ o l i)) l.length=0):∀x∈l,f x=0:=fun x hx=>by
 obtain⟨k,hk,rfl⟩:=List.getElem_of_mem hx;have:=zdu _ _ h k hk
 rwa [zaG _ _ _ hk] at this
theorem zfn {α:Type} {o:α} {f:α→Int} {l:List α} (h:∀x∈l,f x=0):goE (fun i=>f (at_ o l i)) l.length=0:=
 zmM fun i hi=>h _ (at_mem o l i hi)
theorem RecOk.of {i:Int} {x:Rc} (h:zbg i x=0):RecOk i x:=by
 obtain⟨hh,hn,hs,he⟩:=zbV h;unfold zcA at hh;by_cases h1:(!(wi x.q 1 65535)|| !(wi x.k 0 3)|| !(num x.ln)|| !(num x.ds))=true
 ·rw[if_pos h1] at hh;omega
 rw[if_neg h1] at hh;by_cases h2:(!x.u&&(x.b !=Ref.o||decide (0<x.ln+x.ds+x.parts+x.k)))=true
 ·rw[if_pos h2] at hh;omega
 rw[if_neg h2] at hh;by_cases h3:(if x.k=3 then zaC x.b else if x.b=Ref.o then 0 else 2)≠0
 ·rw[if_pos h3] at hh;omega
 rw[if_neg h3] at hh;by_cases h4:8<x.ns.length∨8<x.ss.length∨most i<x.es.length
 ·rw[if_pos h4] at hh;omega
 rw[if_neg h4] at hh;by_cases h5:(0<x.es.length∧x.k≠0)∨(0<x.ns.length∧(x.k=3∨i<16))
 ·rw[if_pos h5] at hh;omega
 simp only[Bool.or_eq_true,Bool.not_eq_true',not_or,Bool.not_eq_false] at h1;obtain⟨⟨⟨a1,a2⟩,a3⟩,a4⟩:=h1;unfold num at a3 a4;unfold wi at a1 a2 a3 a4;simp only[Bool.and_eq_true,decide_eq_true_eq] at a1 a2 a3 a4;refine⟨a1,a2,a3,a4,fun hu=> ?_,Decidable.not_not.1 h3,by omega,by omega,by omega,fun g=> ?_,fun g=> ?_,zkm hn,zkm hs,zkm he⟩
 ·rw[hu] at h2;simp only[Bool.not_false,Bool.true_and,Bool.or_eq_true,bne_iff_ne,ne_eq,decide_eq_true_eq,not_or,Decidable.not_not] at h2;exact⟨h2.1,by omega⟩
 ·by_cases e:x.k=0
  ·exact e
  ·exact absurd (.inl ⟨g,e⟩) h5
 ·exact⟨fun e=>h5 (.inr ⟨g, .inl e⟩),by by_cases e:i<16;exact absurd (.inr ⟨g, .inr e⟩) h5;omega⟩
theorem RecOk.err {i:Int} {x:Rc} (h:RecOk i x):zbg i x=0:=by
 have hh:zcA i x=0:=by
  unfold zcA
  have w1:wi x.q 1 65535=true:=by unfold wi;simp[h.q]
  have w2:wi x.k 0 3=true:=by unfold wi;simp[h.k]
  have w3:num x.ln=true:=by unfold num wi;simp[h.ln]
  have w4:num x.ds=true:=by unfold num wi;simp[h.ds]
  rw[if_neg (by rw[w1,w2,w3,w4];decide)]
  rw[if_neg (by
   cases hu:x.u
   ·obtain⟨e1,e2⟩:=h.un hu;rw[e1]
    have:¬0<x.ln+x.ds+x.parts+x.k:=by omega
    simp[this]
   ·simp)]
  rw[if_neg (fun e=>e h.b)];rw[if_neg (by have:=h.ns8;have:=h.ss8;have:=h.esm;omega)]
  rw[if_neg (by
   rintro(⟨e1,e2⟩|⟨e1,e2⟩)
   ·exact e2 (h.es0 e1)
   ·obtain⟨g1,g2⟩:=h.ns0 e1
    rcases e2 with e2|e2
    ·exact g1 e2
    ·omega)]
 unfold zbg
 refine zgb fun e he=> ?_
 simp only[List.mem_cons,List.not_mem_nil,or_false] at he
 rcases he with rfl|rfl|rfl|rfl
 ·exact hh
 ·exact zfn h.nn
 ·exact zfn h.sn
 ·exact zfn h.en
def Rv (p:Rp):Prop:=∀i,i<p.v.rs.length→RecOk (i:Nat) (at_ Rc.o p.v.rs i)
theorem Rv.of_v {p q:Rp} (h:Rv p) (hv:q.v.rs=p.v.rs):Rv q:=by unfold Rv at h⊢;rw[hv];exact h
theorem Rv.setR {p:Rp} (h:Rv p) (i:Nat) (x:Rc) (hx:i<p.v.rs.length→RecOk (i:Nat) x):Rv (p.setR i x):=by
 intro j hj;have hj:j<(p.v.rs.set i x).length:=hj;rw[List.length_set] at hj;show RecOk j (at_ Rc.o (p.v.rs.set i x) j);rw[zbc];split
 ·rename_i hij;obtain⟨rfl,h2⟩:=hij;exact hx hj
 ·exact h j hj
theorem Rv.at {p:Rp} (h:Rv p) {i:Nat} (hi:i<p.v.rs.length):RecOk (i:Nat) (at_ Rc.o p.v.rs i):=h i hi
theorem RecOk.gone (i:Int) (q:Int) (hq:1≤q):RecOk i {Rc.o with q:=q%65535+1}:=
 have z:(0:Int)≤0∧(0:Int)≤2147483647:=by decide
 have n:¬(0<([]:List Nm).length):=by decide
 {q:=(by show 1≤q%65535+1∧q%65535+1≤65535;omega)
  k:=(show(0:Int)≤0∧(0:Int)≤3 from by decide)
  ln:=z
  ds:=z
  un:=fun _=>⟨rfl,(show(0:Int)+0+((0:Nat):Int)+0≤0 from by decide)⟩
  b:=(show(if(0:Int)=3 then zaC Ref.o else if Ref.o=Ref.o then 0 else 2)=0 from by decide)
  ns8:=Nat.zero_le _
  ss8:=Nat.zero_le _
  esm:=Nat.zero_le _
  es0:=fun h=>absurd h (show ¬(0<([]:List En).length) from by decide)
  ns0:=fun h=>absurd h n
  nn:=fun _ h=>(by cases h)
  sn:=fun _ h=>(by cases h)
  en:=fun _ h=>(by cases h)}
theorem Rv.lost {p:Rp} (h:Rv p):Rv (lostParts p):=
 zaQ (I:=fun q:Rp=>Rv q) (fun s k hs=>by
  unfold zam;dsimp only;split
  ·refine(hs.of_v (q:=s.note 0 k 0) rfl).setR k _ fun hk=> ?_
   rw[zae];exact RecOk.gone _ _ (hs.at hk).q.1
  ·exact hs) h _
theorem RecOk.desc {i:Int} {x:Rc} (h:RecOk i x) (hu:x.u=true) (d:Int) (hd:0≤d∧d≤2147483647):RecOk i {x with ds:=d}:=
 {h with ds:=hd,un:=fun e=>by have e:x.u=false:=e;rw[hu] at e;cases e}
theorem RecOk.link {i:Int} {x:Rc} (h:RecOk i x) (hu:x.u=true) (d:Int) (hd:0≤d∧d≤2147483647):RecOk i {x with ln:=d}:=
 {h with ln:=hd,un:=fun e=>by have e:x.u=false:=e;rw[hu] at e;cases e}
theorem RecOk.ents {i:Int} {x:Rc} (h:RecOk i x) (hd:dir x=true) (l:List En) (hl:l.length≤most i) (he:∀e∈l,zcB e=0):RecOk i {x with es:=l}:=by
 unfold dir at hd;simp only[Bool.and_eq_true,beq_iff_eq] at hd;exact{h with esm:=hl,en:=he,es0:=fun _=>hd.2,un:=fun e=>by have e:x.u=false:=e;rw[hd.1] at e;cases e}
theorem RecOk.names {i:Int} {x:Rc} (h:RecOk i x) (ho:own x=true) (hi:16≤i) (l:List Nm) (hl:l.length≤8) (he:∀n∈l,zcG n=0):RecOk i {x with ns:=l}:=by
 unfold own at ho;simp only[Bool.and_eq_true,bne_iff_ne] at ho;exact{h with ns8:=hl,nn:=he,ns0:=fun _=>⟨ho.2,hi⟩,un:=fun e=>by have e:x.u=false:=e;rw[ho.1] at e;cases e}
theorem znr {x:Rc} (h:own x=true):x.u=true:=by unfold own at h;simp only[Bool.and_eq_true] at h;exact h.1
theorem Rv.descriptors {p:Rp} (h:Rv p) (hd:0≤at_ 0 p.v.ds 0∧at_ 0 p.v.ds 0≤2147483647):Rv (descriptors p):=
 (zaQ (I:=fun q:Rp=>Rv q∧q.v.ds=p.v.ds) (fun s k ⟨hs,hds⟩=>by
  unfold zao;dsimp only;split
  ·rename_i ho;simp only[Bool.and_eq_true,zae] at ho;refine⟨(hs.of_v (q:=s.note 2 k 0) rfl).setR k _ fun hk=> ?_,hds⟩;rw[zae,hds];exact(hs.at hk).desc (znr ho.1) _ hd
  ·exact⟨hs,hds⟩) ⟨h,rfl⟩ _).1
theorem Rv.links {p:Rp} (h:Rv p):Rv (links p):=
 zaQ (I:=fun q:Rp=>Rv q) (fun s k hs=>by
  split
  ·rename_i ho;unfold link1;split
   ·refine(hs.of_v (q:=s.note 8 (16+k:Nat) 0) rfl).setR (16+k) _ fun hk=> ?_
    rw[zae] at ho⊢;exact(hs.at hk).link (znr ho) _ (by have:=(hs.at hk).ns8;show 0≤((at_ Rc.o s.v.rs (16+k)).ns.length:Int)∧((at_ Rc.o s.v.rs (16+k)).ns.length:Int)≤2147483647;omega)
   ·exact hs
  ·exact hs) h _
theorem zjK {i:Nat} {es:List En} {p:Rp}:∀k,k≤es.length→(∀e∈(it (entryStep i es) (p,[]) k).2,e∈es)∧(it (entryStep i es) (p,[]) k).2.length≤k∧(it (entryStep i es) (p,[]) k).1.v=p.v
 |0,_=>⟨fun _ h=>(by cases h),Nat.le_refl _,rfl⟩
 |k+1,hk=>by
  obtain⟨h1,h2,h3⟩:=zjK (i:=i) (es:=es) (p:=p) k (by omega);show(∀e∈(entryStep i es (it (entryStep i es) (p,[]) k) k).2,e∈es)∧(entryStep i es (it (entryStep i es) (p,[]) k) k).2.length≤k+1∧(entryStep i es (it (entryStep i es) (p,[]) k) k).1.v=p.v
  generalize it (entryStep i es) (p,[]) k=s at*
  unfold entryStep;dsimp only;split
  ·refine⟨fun e he=> ?_,by simp;omega,h3⟩
   rcases List.mem_append.1 he with he|he
   ·exact h1 e he
   ·rcases List.mem_singleton.1 he with rfl;exact at_mem En.o es k (by omega)
  ·split
   ·exact⟨h1,Nat.le_succ_of_le h2,h3⟩
   ·exact⟨h1,Nat.le_succ_of_le h2,h3⟩
theorem Rv.badEntries {p:Rp} (h:Rv p):Rv (badEntries p):=
 zaQ (I:=fun q:Rp=>Rv q) (fun s k hs=>by
  unfold zac;split
  ·rename_i hd;rw[zae] at hd;obtain⟨h1,h2,h3⟩:=zjK (i:=k) (es:=(s.rc k).es) (p:=s) _ (Nat.le_refl _);dsimp only
   refine(hs.of_v (by rw[h3])).setR k _ fun hk=> ?_
   rw[h3] at hk;rw[zae] at h1 h2⊢;rw[h3]
   exact(hs.at hk).ents hd _ (Nat.le_trans h2 (hs.at hk).esm) fun e he=>(hs.at hk).en e (h1 e he)
  ·exact hs) h _
theorem zhv {i:Int} {x:Rc} (h:RecOk i x):num (sizeOf x)=true:=by
 unfold sizeOf;split
 ·rename_i h1
  obtain⟨y,hy⟩:∃y,at_ Sm.o x.ss 0=y:=⟨_,rfl⟩
  have hm:y∈x.ss:=by rw[←hy];exact at_mem Sm.o x.ss 0 h1.2
  have:=zd7 (h.sn y hm);rw[hy];unfold num wi;simp[this]
 ·decide
theorem znL {p:Rp} (h:Rv p) (h96:p.v.rs.length≤96) {r:Nat} (hr:r<p.v.rs.length):zaC (p.ref r)=0:=by
 have hq:=(h.at hr).q;unfold zaC Rp.ref;rw[zae]
 have h1:wi (r:Nat) 0 95=true:=by unfold wi;simp;omega
 have h2:wi (at_ Rc.o p.v.rs r).q 1 65535=true:=by unfold wi;simp[hq]
 rw[if_pos (by rw[h1,h2];rfl)]
theorem zlA {e:En} (h1:zaw e.n=0) (h2:zaC e.f=0) (h3:num e.z=true):zcB e=0:=by
 unfold zcB;rw[if_pos h1,if_pos h2,if_pos h3]
theorem zgL {n:Nm} (h:zcG n=0):zaC n.d=0∧zaw n.n=0:=by
 unfold zcG at h;split at h
 ·rename_i h1;exact⟨h1,h⟩
 ·rename_i h1;exact absurd h h1
theorem Rv.enter {p:Rp} (h:Rv p) (h96:p.v.rs.length≤96) {d:Int} {n:List UInt8} {r:Nat} (hr:r<p.v.rs.length) (hd0:0≤d) (hd:dir (p.rc d)=true) (hm:(p.rc d).es.length<most d) (hn:zaw n=0):Rv (enter p d n r):=by
 unfold Ck.enter;have hdt:((d.toNat:Nat):Int)=d:=Int.toNat_of_nonneg hd0
 refine h.setR d.toNat _ fun hk=> ?_
 have hx:p.rc d=at_ Rc.o p.v.rs d.toNat:=rfl;rw[hx] at hd hm⊢
 refine(h.at hk).ents hd _ (by rw[List.length_append,hdt];show _+1≤most d;omega) fun e he=> ?_
 rcases List.mem_append.1 he with he|he
 ·exact(h.at hk).en e he
 ·rcases List.mem_singleton.1 he with rfl
  exact zlA hn (znL h h96 hr) (by show num (sizeOf (p.rc r))=true;rw[zae];exact zhv (h.at hr))
theorem Rv.drop {p:Rp} (h:Rv p) (r:Nat) (n:Nm):Rv (drop p r n):=by
 unfold Ck.drop;split
 ·rename_i hc;simp only[Bool.and_eq_true,beq_iff_eq] at hc;have hx:p.rc n.d.r=at_ Rc.o p.v.rs n.d.r.toNat:=rfl
  refine h.setR n.d.r.toNat _ fun hk=> ?_
  rw[hx]
  have hd:dir (at_ Rc.o p.v.rs n.d.r.toNat)=true:=by
   have h1:=hc.1;unfold right at h1;simp only[Bool.and_eq_true] at h1;have h2:=znr h1.1.2;have h3:(at_ Rc.o p.v.rs n.d.r.toNat).k=0:=hc.2;unfold dir;have h4:(at_ Rc.o p.v.rs n.d.r.toNat).u=true:=h2;rw[h3,h4];rfl
  exact(h.at hk).ents hd _ (Nat.le_trans (List.length_filter_le _ _) (h.at hk).esm) fun e he=>(h.at hk).en e (List.mem_filter.1 he).1
 ·exact h
theorem zci {p:Rp} {d:Ref} (h:(right p.v d&&(p.rc d.r).k==0)=true):0≤d.r∧d.r.toNat<p.v.rs.length∧dir (p.rc d.r)=true∧p.ref d.r=d:=by
 simp only[Bool.and_eq_true,beq_iff_eq] at h;obtain⟨h1,h3⟩:=h;unfold right wi at h1;simp only[Bool.and_eq_true,decide_eq_true_eq,beq_iff_eq] at h1;obtain⟨⟨⟨a1,a2⟩,a3⟩,a4⟩:=h1;refine⟨a1,by omega,?_,?_⟩
 ·unfold dir;have:(p.rc d.r).u=true:=znr a3;rw[this,h3];rfl
 ·unfold Rp.ref;have:(p.rc d.r).q=d.q:=a4;rw[this]
theorem zgX {p:Rp} {r:Nat} {b:List Nm} {n:Nm} (h:(isName p r b n).1=true):(right p.v n.d&&(p.rc n.d.r).k==0)=true∧(b≠[]→(p.rc r).k=1)∧b.any (fun y=>decide (y.d=n.d)&&same y.n n.n)=false:=by
 unfold isName at h;split at h
 ·rename_i h1;split at h
  ·cases h
  ·rename_i h2;split at h
   ·cases h
   ·rename_i h3;refine⟨h1,fun hb=>Decidable.not_not.1 fun e=>h3 ⟨hb,e⟩,by simpa using h2⟩
 ·cases h
theorem zhE {p:Rp} {r:Nat} {b:List Nm} {n:Nm} (h:(isName p r b n).1=true) (h2:(isName p r b n).2=false):ixE n.n (p.rc n.d.r).es=none∧(p.rc n.d.r).es.length<most n.d.r:=by
 unfold isName at h h2;split at h
 ·split at h
  ·cases h
  ·split at h
   ·cases h
   ·rename_i c1 c2 c3;rw[if_pos c1,if_neg c2,if_neg c3] at h2
    cases hx:ixE n.n (p.rc n.d.r).es with
    |none=>rw[hx] at h;exact⟨rfl,by simpa using h⟩
    |some k=>rw[hx] at h2;cases h2
 ·cases h
theorem isName_old {p:Rp} {r:Nat} {b:List Nm} {n:Nm} (h:(isName p r b n).1=true) (h2:(isName p r b n).2=true):∃k,ixE n.n (p.rc n.d.r).es=some k∧(at_ En.o (p.rc n.d.r).es k).f=p.ref r∧(at_ En.o (p.rc n.d.r).es k).n=n.n:=by
 unfold isName at h h2;split at h
 ·split at h
  ·cases h
  ·split at h
   ·cases h
   ·rename_i c1 c2 c3;rw[if_pos c1,if_neg c2,if_neg c3] at h2
    cases hx:ixE n.n (p.rc n.d.r).es with
    |none=>rw[hx] at h2;cases h2
    |some k=>rw[hx] at h;exact⟨k,rfl,by simpa using h⟩
 ·cases h
theorem Rv.badNames1 {p:Rp} (h:Rv p) (h96:p.v.rs.length≤96) {i:Nat} (hi:16≤i∧i<p.v.rs.length) (ho:own (p.rc i)=true):Rv (badNames1 p i):=by
 have hx:=zae p i;have hi2:=h.at hi.2
 have key:∀k,k≤(p.rc i).ns.length→Rv (it (nameStep i (p.rc i).ns) (p,[]) k).1∧(it (nameStep i (p.rc i).ns) (p,[]) k).2.length≤k∧(∀m∈(it (nameStep i (p.rc i).ns) (p,[]) k).2,m∈(p.rc i).ns)∧Kp p (it (nameStep i (p.rc i).ns) (p,[]) k).1:=by
  intro k
  induction k with
  |zero=>exact fun _=>⟨h,Nat.le_refl _,fun _ e=>(by cases e),Kp.refl _⟩
  |succ k ih=>
   intro hk;obtain⟨h1,h2,h3,h4⟩:=ih (by omega);have h5:=h4.nameStep i (p.rc i).ns (k:=k);show Rv (nameStep i (p.rc i).ns (it (nameStep i (p.rc i).ns) (p,[]) k) k).1∧(nameStep i (p.rc i).ns (it (nameStep i (p.rc i).ns) (p,[]) k) k).2.length≤k+1∧(∀m∈(nameStep i (p.rc i).ns (it (nameStep i (p.rc i).ns) (p,[]) k) k).2,m∈(p.rc i).ns)∧Kp p (nameStep i (p.rc i).ns (it (nameStep i (p.rc i).ns) (p,[]) k) k).1;refine⟨?_,?_,?_,h5⟩
   ·clear h5
    generalize it (nameStep i (p.rc i).ns) (p,[]) k=s at*
    have hm:at_ Nm.o (p.rc i).ns k∈(p.rc i).ns:=at_mem Nm.o _ k (by omega);have hnm:=zgL ((hx▸hi2).nn _ hm);unfold nameStep;dsimp only;split
    ·rename_i c1;split
     ·exact h1
     ·rename_i c2;obtain⟨g1,g2,g3,_⟩:=zci (zgX c1).1;obtain⟨_,g4⟩:=zhE c1 (by simpa using c2);exact(h1.of_v (q:=s.1.note 5 i s.2.length) rfl).enter (by show s.1.v.rs.length≤96;rw[h4.2.2.2];exact h96) (by show i<s.1.v.rs.length;rw[h4.2.2.2];exact hi.2) g1 g3 g4 hnm.2
    ·split
     ·exact(h1.of_v (q:=s.1.note 4 i s.2.length) rfl).drop _ _
     ·exact h1.of_v rfl
   ·generalize it (nameStep i (p.rc i).ns) (p,[]) k=s at*
    unfold nameStep;dsimp only;split
    ·simp;omega
    ·exact Nat.le_succ_of_le h2
   ·generalize it (nameStep i (p.rc i).ns) (p,[]) k=s at*
    unfold nameStep;dsimp only;split
    ·intro m he
     rcases List.mem_append.1 he with he|he
     ·exact h3 m he
     ·rcases List.mem_singleton.1 he with rfl;exact at_mem Nm.o _ k (by omega)
    ·exact h3
 obtain⟨h1,h2,h3,h4⟩:=key _ (Nat.le_refl _);unfold Ck.badNames1;dsimp only
 generalize it (nameStep i (p.rc i).ns) (p,[]) (p.rc i).ns.length=s at*
 refine h1.setR i _ fun hk=> ?_
 have ho2:own (at_ Rc.o s.1.v.rs i)=true:=by
  obtain⟨_,hkd,_⟩:=h4;rw[hx] at ho;unfold own at ho⊢;rw[(hkd i).1,(hkd i).2.1];exact ho
 rw[zae]
 exact(h1.at hk).names ho2 (by omega) _ (Nat.le_trans h2 (by rw[hx];exact hi2.ns8)) fun n hn=>by
  have:=h3 n hn;rw[hx] at this;exact hi2.nn n this
theorem Rv.below {f:Rp→Nat→Rp} {p:Rp} (hf:∀(q:Rp) (i:Nat),Rv q→q.v.rs.length=p.v.rs.length→16≤i∧i<q.v.rs.length→own (q.rc i)=true→Rv (f q i)) (hk:∀q i,Kp q (f q i)) (h:Rv p):Rv (below f p):=by
 have key:∀k,k≤p.v.rs.length-16→Rv (it (fun q j=>if own (q.rc (16+j:Nat)) then f q (16+j) else q) p k)∧(it (fun q j=>if own (q.rc (16+j:Nat)) then f q (16+j) else q) p k).v.rs.length=p.v.rs.length:=
  zaJ (I:=fun k q=>Rv q∧q.v.rs.length=p.v.rs.length) (fun s k hk2 hs=>by
   split
   ·rename_i ho;exact⟨hf s (16+k) hs.1 hs.2 ⟨by omega,by rw[hs.2];omega⟩ ho,by rw[(hk s (16+k)).2.2.2];exact hs.2⟩
   ·exact hs) ⟨h,rfl⟩
 exact(key _ (Nat.le_refl _)).1
theorem Rv.badNames {p:Rp} (h:Rv p) (h96:p.v.rs.length≤96):Rv (badNames p):=
 Rv.below (fun q i hq hl hi ho=>hq.badNames1 (by omega) hi ho) Kp.badNames1 h
theorem Rv.sizes {p:Rp} (h:Rv p):Rv (sizes p):=
 zaQ (I:=fun q:Rp=>Rv q) (fun s i hs=>by
  unfold zak;split
  ·rename_i hd;rw[zae] at hd;refine(zaQ (I:=fun q:Rp=>Rv q∧dir (at_ Rc.o q.v.rs i)=true) (fun t k ⟨ht,hdt⟩=> ?_) ⟨hs,hd⟩ _).1;unfold sizeStep;dsimp only;split
   ·rename_i hc;simp only[Bool.and_eq_true] at hc;have hr:=hc.1;unfold right wi at hr;simp only[Bool.and_eq_true,decide_eq_true_eq] at hr;obtain⟨⟨⟨a1,a2⟩,_⟩,_⟩:=hr;have hdt2:=hdt;have hx:=zae t i;have hrr:t.rc (at_ En.o (t.rc i).es k).f.r=at_ Rc.o t.v.rs (at_ En.o (t.rc i).es k).f.r.toNat:=rfl;refine⟨(ht.of_v (q:=t.note 9 i k) rfl).setR i _ fun hi=> ?_,?_⟩
    ·rw[hx] at hrr⊢
     refine(ht.at hi).ents hdt _ (by rw[List.length_set];exact(ht.at hi).esm) fun e he=> ?_
     rcases List.mem_or_eq_of_mem_set he with he|rfl
     ·exact(ht.at hi).en e he
     ·by_cases hk:k<(at_ Rc.o t.v.rs i).es.length
      ·have h0:=zej ((ht.at hi).en _ (at_mem En.o _ k hk));refine zlA h0.1 h0.2.1 ?_;show num (sizeOf (t.rc (at_ En.o (at_ Rc.o t.v.rs i).es k).f.r))=true;rw[hrr];rw[hx] at a1 a2;exact zhv (ht.at (by omega))
      ·rw[List.set_eq_of_length_le (by omega)] at he;exact(ht.at hi).en _ he
    ·show dir (at_ Rc.o (t.v.rs.set i _) i)=true;rw[zbc];split
     ·unfold dir at hdt⊢;rw[hx];exact hdt
     ·exact hdt
   ·exact⟨ht,hdt⟩
  ·exact hs) h _
theorem zcx {r:Run} (h:zaW r=false):(-1≤r.s∧r.s≤2147483647)∧1≤r.l∧r.l≤512:=by
 unfold zaW wi at h;simp only[Bool.or_eq_false_iff,Bool.not_eq_false',Bool.and_eq_true,decide_eq_true_eq] at h;exact h
theorem badRun_of {r:Run} (h:(-1≤r.s∧r.s≤2147483647)∧1≤r.l∧r.l≤512):zaW r=false:=by
 unfold zaW wi;simp only[Bool.or_eq_false_iff,Bool.not_eq_false',Bool.and_eq_true,decide_eq_true_eq];exact h
theorem zku :∀(l:List Run) (t:List Bool) (acc:List Run),(∀r∈l,zaW r=false)→(∀r∈acc,zaW r=false)→∀l',(zcm t acc l).2=some l'→l'.length≤acc.length+l.length∧∀r∈l',zaW r=false
 |[],t,acc,_,_,l',h=>by unfold zcm at h;cases h
 |r::l,t,acc,hl,ha,l',h=>by
  have hr:=hl r (List.mem_cons_self ..)
  have hl':∀r∈l,zaW r=false:=fun x hx=>hl x (List.mem_cons_of_mem _ hx)
  have hacc:∀x∈acc++[r],zaW x=false:=fun x hx=>by
   rcases List.mem_append.1 hx with hx|hx
   ·exact ha x hx
   ·rcases List.mem_singleton.1 hx with rfl;exact hr
  unfold zcm at h;split at h
  ·have:=zku l t (acc++[r]) hl' hacc l' h;refine⟨?_,this.2⟩;have h1:=this.1;simp only[List.length_append,List.length_cons,List.length_nil] at h1⊢;omega
  ·split at h
   ·rename_i t' _;have:=zku l t' (acc++[r]) hl' hacc l' h;refine⟨?_,this.2⟩;have h1:=this.1;simp only[List.length_append,List.length_cons,List.length_nil] at h1⊢;omega
   ·rename_i t' k hk;have hkl:=(zh2 t r.s r.l.toNat 0).2 k (by rw[hk]);have hrp:=zcx hr;have h:=Option.some.inj h;subst h;split
    ·rename_i h0;refine⟨by simp,fun x hx=> ?_⟩
     rcases List.mem_append.1 hx with hx|hx
     ·exact ha x hx
     ·rcases List.mem_singleton.1 hx with rfl
      exact badRun_of ⟨hrp.1,by show(1:Int)≤(k:Nat)∧((k:Nat):Int)≤512;omega⟩
    ·refine⟨by simp,fun x hx=> ?_⟩;rw[List.append_nil] at hx;exact ha x hx
theorem clusters_nn (l:List Run) (hl:∀r∈l,zaW r=false):0≤clusters l:=by
 unfold clusters;refine(zaJ (I:=fun _ (n:Int)=>0≤n) (n:=l.length) (fun s k hk hs=> ?_) (Int.le_refl _)) _ (Nat.le_refl _);have:=zcx (hl _ (at_mem Run.o l k hk));omega
theorem zdE {s:Sm} (h:zbU s=0):s.r.length≤24∧(∀r∈s.r,zaW r=false)∧0≤s.z∧s.z≤2147483647:=by
 refine⟨?_,?_,zd7 h⟩
 ·unfold zbU at h;split at h
  ·omega
  ·omega
 ·unfold zbU at h;split at h
  ·omega
  ·split at h
   ·rename_i h2;simp only[Bool.and_eq_true,Bool.not_eq_true',List.any_eq_false] at h2
    exact fun r hr=>by simpa using h2.1 r hr
   ·omega
theorem smErr_of {s:Sm} (h:s.r.length≤24∧(∀r∈s.r,zaW r=false)∧0≤s.z∧s.z≤2147483647):zbU s=0:=by
 unfold zbU;rw[if_neg (by omega),if_pos]
 have h1:s.r.any zaW=false:=by rw[List.any_eq_false];intro r hr;rw[h.2.1 r hr];decide
 have h2:num s.z=true:=by unfold num wi;simp[h.2.2]
 rw[h1,h2];rfl
theorem RecOk.strs {i:Int} {x:Rc} (h:RecOk i x) (hu:x.u=true) (l:List Sm) (hl:l.length≤8) (hs:∀s∈l,zbU s=0):RecOk i {x with ss:=l}:=
 {h with ss8:=hl,sn:=hs,un:=fun e=>by have e:x.u=false:=e;rw[hu] at e;cases e}
theorem Rv.badRuns {p:Rp} (h:Rv p):Rv (badRuns p):=
 zaQ (I:=fun q:Rp×List Bool=>Rv q.1) (fun s i hs=>by
  unfold zad;split
  ·rename_i hu;rw[zae] at hu;refine(zaQ (I:=fun q:Rp×List Bool=>Rv q.1∧(at_ Rc.o q.1.v.rs i).u=true) (fun t k ⟨ht,hut⟩=> ?_) ⟨hs,hu⟩ _).1;unfold cutStep;dsimp only;have hx:=zae t.1 i;split
   ·exact⟨ht,hut⟩
   ·rename_i t' l hcut;refine⟨(ht.of_v (q:=t.1.note 1 i k) rfl).setR i _ fun hi=> ?_,?_⟩
    ·rw[hx] at hcut⊢
     refine(ht.at hi).strs hut _ (by rw[List.length_set];exact(ht.at hi).ss8) fun s hs=> ?_
     rcases List.mem_or_eq_of_mem_set hs with hs|rfl
     ·exact(ht.at hi).sn s hs
     ·by_cases hk:k<(at_ Rc.o t.1.v.rs i).ss.length
      ·have h0:=zdE ((ht.at hi).sn _ (at_mem Sm.o _ k hk));have h1:=zku _ t.2 [] h0.2.1 (fun _ h=>(by cases h)) l (by unfold cut at hcut;rw[hcut])
       have hl24:l.length≤24:=by have:=h1.1;simp only[List.length_nil,Nat.zero_add] at this;omega
       have hcl:=clusters_nn l h1.2;exact smErr_of ⟨hl24,h1.2,by show 0≤min _ _;omega,by show min _ _≤(2147483647:Int);omega⟩
      ·rw[List.set_eq_of_length_le (by omega)] at hs;exact(ht.at hi).sn _ hs
    ·show(at_ Rc.o (t.1.v.rs.set i _) i).u=true;rw[zbc];split
     ·show(t.1.rc i).u=true;rw[hx];exact hut
     ·exact hut
  ·exact hs) h _
theorem Kd.right {p q:Rp} (h:Kd p q) (hl:q.v.rs.length=p.v.rs.length) (r:Ref):right q.v r=right p.v r:=by
 unfold Ck.right own rc;rw[hl,(h _).1,(h _).2.1,(h _).2.2]
theorem Kd.ref {p q:Rp} (h:Kd p q) (i:Int):q.ref i=p.ref i:=by
 unfold Rp.ref Rp.rc rc;rw[(h _).2.2]
def Kn (p q:Rp):Prop:=∀i,(at_ Rc.o q.v.rs i).ns=(at_ Rc.o p.v.rs i).ns
def Eo (p:Rp) (d:Nat) (e:En):Prop:=right p.v e.f=true∧16≤e.f.r∧⟨p.ref d,e.n⟩∈(p.rc e.f.r).ns
def EnOk (p:Rp):Prop:=∀d,∀e∈(at_ Rc.o p.v.rs d).es,Eo p d e
def Pws (l:List En):Prop:=l.Pairwise fun x y=>same x.n y.n=false
def Pw (p:Rp):Prop:=∀d,Pws (at_ Rc.o p.v.rs d).es
theorem Eo.of {p q:Rp} (h:Kp p q) (hn:Kn p q) {d:Nat} {e:En} (he:Eo p d e):Eo q d e:=by
 obtain⟨a,b,c⟩:=he;refine⟨by rw[h.2.1.right h.2.2.2];exact a,b,?_⟩;rw[h.2.1.ref];show _∈(at_ Rc.o q.v.rs e.f.r.toNat).ns;rw[hn];exact c
theorem zes (a b:List UInt8):same a b=same b a:=by unfold same;rw[Bool.eq_iff_iff];simp only[beq_iff_eq];exact eq_comm
theorem Pws.snoc {l:List En} {x:En} (h:Pws l) (hx:l.any (fun y=>same x.n y.n)=false):Pws (l++[x]):=by
 unfold Pws at h⊢;rw[List.pairwise_append];refine⟨h,List.pairwise_singleton _ _,fun a ha b hb=> ?_⟩
 rcases List.mem_singleton.1 hb with rfl
 rw[List.any_eq_false] at hx;rw[zes];simpa using hx a ha
theorem isEntry_parts {p:Rp} {d:Nat} {b:List En} {x:En} (h:isEntry p d b x=true):b.any (fun y=>same x.n y.n)=false∧Eo p d x:=by
 unfold isEntry at h;simp only[Bool.and_eq_true,Bool.not_eq_true',decide_eq_true_eq] at h;obtain⟨⟨⟨h1,h2⟩,h3⟩,h4⟩:=h;exact⟨h1,h2,h3,by simpa using h4⟩
theorem zly {i:Nat} {es:List En} {p:Rp}:∀k,(∀e∈(it (entryStep i es) (p,[]) k).2,Eo p i e)∧Pws (it (entryStep i es) (p,[]) k).2∧(it (entryStep i es) (p,[]) k).1.v=p.v
 |0=>⟨fun _ h=>(by cases h),List.Pairwise.nil,rfl⟩
 |k+1=>by
  obtain⟨h1,h2,h3⟩:=zly (i:=i) (es:=es) (p:=p) k;show(∀e∈(entryStep i es (it (entryStep i es) (p,[]) k) k).2,Eo p i e)∧Pws (entryStep i es (it (entryStep i es) (p,[]) k) k).2∧(entryStep i es (it (entryStep i es) (p,[]) k) k).1.v=p.v
  generalize it (entryStep i es) (p,[]) k=s at*
  unfold entryStep;dsimp only;split
  ·rename_i hc;obtain⟨g1,g2⟩:=isEntry_parts hc;refine⟨fun e he=> ?_,h2.snoc g1,h3⟩
   rcases List.mem_append.1 he with he|he
   ·exact h1 e he
   ·rcases List.mem_singleton.1 he with rfl
    unfold Eo Rp.ref Rp.rc at g2⊢;rw[h3] at g2;exact g2
  ·split
   ·exact⟨h1,h2,h3⟩
   ·exact⟨h1,h2,h3⟩
theorem RecOk.noents {i:Int} {x:Rc} (h:RecOk i x) (hd:dir x=false):x.es=[]:=by
 unfold dir at hd;cases hu:x.u
 ·have:=(h.un hu).2;have h1:=h.ln;have h2:=h.ds;have h3:=h.k;unfold Rc.parts at this;exact List.eq_nil_of_length_eq_zero (by omega)
 ·rw[hu] at hd;simp only[Bool.true_and,beq_eq_false_iff_ne] at hd
  exact List.eq_nil_of_length_eq_zero (by
   by_cases e:0<x.es.length
   ·exact absurd (h.es0 e) hd
   ·omega)
theorem ze2 {p:Rp} (h:Rv p):EnOk (badEntries p)∧Pw (badEntries p)∧Kn p (badEntries p):=by
 have key:∀k,k≤p.v.rs.length→(∀d,d<k→(∀e∈(at_ Rc.o (it zac p k).v.rs d).es,Eo p d e)∧Pws (at_ Rc.o (it zac p k).v.rs d).es)∧(∀d,k≤d→at_ Rc.o (it zac p k).v.rs d=at_ Rc.o p.v.rs d)∧Kn p (it zac p k)∧Kp p (it zac p k):=by
  refine zaJ (I:=fun k q=>(∀d,d<k→(∀e∈(at_ Rc.o q.v.rs d).es,Eo p d e)∧Pws (at_ Rc.o q.v.rs d).es)∧(∀d,k≤d→at_ Rc.o q.v.rs d=at_ Rc.o p.v.rs d)∧Kn p q∧Kp p q) (fun s k hk ⟨h1,h2,h3,h4⟩=> ?_) ⟨fun d hd=>absurd hd (Nat.not_lt_zero _),fun _ _=>rfl,fun _=>rfl,Kp.refl _⟩;have hx:s.rc k=at_ Rc.o s.v.rs k:=zae s k;have hxp:=h2 k (Nat.le_refl _);unfold zac;split
  ·obtain⟨g1,g2,g3⟩:=zly (i:=k) (es:=(s.rc k).es) (p:=s) (s.rc k).es.length;have g4:=Kp.it (g:=Prod.fst) (fun t j=>Kp.entryStep k (s.rc k).es t j (Kp.refl _)) (s,[]) (s.rc k).es.length;dsimp only
   generalize it (entryStep k (s.rc k).es) (s,[]) (s.rc k).es.length=t at*
   have g4:Kp s t.1:=g4
   have hxt:t.1.rc k=at_ Rc.o s.v.rs k:=by rw[zae,g3]
   have hkl:k<s.v.rs.length:=by rw[h4.2.2.2];exact hk
   have hat:∀d,at_ Rc.o (t.1.setR k {t.1.rc k with es:=t.2}).v.rs d=if k=d then{at_ Rc.o s.v.rs k with es:=t.2} else at_ Rc.o s.v.rs d:=fun d=>by
    show at_ Rc.o (t.1.v.rs.set k _) d=_;rw[zbc,g3,hxt];by_cases e:k=d
    ·subst e;rw[if_pos ⟨rfl,hkl⟩,if_pos rfl]
    ·rw[if_neg (fun c=>e c.1),if_neg e]
   have hback:∀e,Eo s k e→Eo p k e:=fun e he=>by
    obtain⟨a,b,c⟩:=he;refine⟨by rw[←h4.2.1.right h4.2.2.2];exact a,b,?_⟩;rw[←h4.2.1.ref];show _∈(at_ Rc.o p.v.rs e.f.r.toNat).ns;rw[←h3];exact c
   refine⟨fun d hd=> ?_,fun d hd=> ?_,fun d=> ?_,?_⟩
   ·rw[hat];by_cases e:k=d
    ·subst e;rw[if_pos rfl];exact⟨fun e he=>hback e (g1 e he),g2⟩
    ·rw[if_neg e];exact h1 d (by omega)
   ·rw[hat,if_neg (by omega)];exact h2 d (by omega)
   ·rw[hat];by_cases e:k=d
    ·subst e;rw[if_pos rfl];exact h3 k
    ·rw[if_neg e];exact h3 d
   ·exact(h4.trans g4).setR k _ (by rw[zae];exact⟨⟨rfl,rfl,rfl⟩,rfl⟩)
  ·rename_i hd;refine⟨fun d hdk=> ?_,fun d hdk=>h2 d (by omega),h3,h4⟩;by_cases e:d=k
   ·subst e;rw[hx,hxp] at hd;have:=(h.at hk).noents (by simpa using hd);rw[hxp,this];exact⟨fun _ h=>(by cases h),List.Pairwise.nil⟩
   ·exact h1 d (by omega)
 obtain⟨h1,h2,h3,h4⟩:=key _ (Nat.le_refl _)
 have hout:∀d,p.v.rs.length≤d→(at_ Rc.o (it zac p p.v.rs.length).v.rs d).es=[]:=fun d hd=>by
  rw[h2 d hd];unfold at_;rw[List.getElem?_eq_none (by omega)];rfl
 refine⟨fun d e he=> ?_,fun d=> ?_,h3⟩
 ·by_cases hd:d<p.v.rs.length
  ·exact((h1 d hd).1 e he).of h4 h3
  ·have he:e∈(at_ Rc.o (it zac p p.v.rs.length).v.rs d).es:=he;rw[hout d (by omega)] at he;cases he
 ·by_cases hd:d<p.v.rs.length
  ·exact(h1 d hd).2
  ·show Pws (at_ Rc.o (it zac p p.v.rs.length).v.rs d).es;rw[hout d (by omega)];exact List.Pairwise.nil
def Ne (p:Rp) (j:Nat) (m:Nm):Prop:=(right p.v m.d&&(p.rc m.d.r).k==0)=true∧∃e∈(p.rc m.d.r).es,e.f=p.ref j∧e.n=m.n
theorem zgd {p:Rp} {d:Int} {n:List UInt8} {r:Nat} (hd:d.toNat<p.v.rs.length) (i:Nat):(at_ Rc.o (enter p d n r).v.rs i).es=if d.toNat=i then(at_ Rc.o p.v.rs i).es++[⟨n,p.ref r,sizeOf (p.rc r)⟩] else(at_ Rc.o p.v.rs i).es:=by
 unfold enter;show(at_ Rc.o (p.v.rs.set d.toNat _) i).es=_;rw[zbc];by_cases h:d.toNat=i
 ·subst h;rw[if_pos ⟨rfl,hd⟩,if_pos rfl];rfl
 ·rw[if_neg (fun c=>h c.1),if_neg h]
theorem zil {p:Rp} {d:Int} {n:List UInt8} {r:Nat} (i:Nat):(at_ Rc.o (enter p d n r).v.rs i).ns=(at_ Rc.o p.v.rs i).ns:=by
 unfold enter;show(at_ Rc.o (p.v.rs.set d.toNat _) i).ns=_;rw[zbc];split
 ·rename_i h;obtain⟨rfl,_⟩:=h;rfl
 ·rfl
theorem zkd {p:Rp} {r:Nat} {n:Nm} (i:Nat):(at_ Rc.o (drop p r n).v.rs i).ns=(at_ Rc.o p.v.rs i).ns:=by
 unfold drop;split
 ·show(at_ Rc.o (p.v.rs.set n.d.r.toNat _) i).ns=_;rw[zbc];split
  ·rename_i h;obtain⟨rfl,_⟩:=h;rfl
  ·rfl
 ·rfl
theorem zfs {p:Rp} {r:Nat} {n:Nm} (i:Nat):(at_ Rc.o (drop p r n).v.rs i).es=if(right p.v n.d&&(p.rc n.d.r).k==0)=true∧n.d.r.toNat=i then(at_ Rc.o p.v.rs i).es.filter (fun x=> !(decide (x.f=p.ref r)&&decide (x.n=n.n))) else(at_ Rc.o p.v.rs i).es:=by
 unfold drop;by_cases hc:(right p.v n.d&&(p.rc n.d.r).k==0)=true
 ·rw[if_pos hc];show(at_ Rc.o (p.v.rs.set n.d.r.toNat _) i).es=_;rw[zbc];by_cases h:n.d.r.toNat=i
  ·subst h;rw[if_pos ⟨rfl,(zci hc).2.1⟩,if_pos ⟨hc,rfl⟩];rfl
  ·rw[if_neg (fun c=>h c.1),if_neg (fun c=>h c.2)]
 ·rw[if_neg hc,if_neg (fun c=>hc c.1)]
theorem zid {p q:Rp} (h:Kp p q) (d:Ref):(right q.v d&&(q.rc d.r).k==0)=(right p.v d&&(p.rc d.r).k==0):=by
 rw[h.2.1.right h.2.2.2];have:(q.rc d.r).k=(p.rc d.r).k:=(h.2.1 d.r.toNat).2.1;rw[this]
theorem zlm {n:List UInt8}:∀{l:List En},ixE n l=none→l.any (fun y=>same n y.n)=false
 |[],_=>rfl
 |x::l,h=>by
  unfold ixE at h;split at h
  ·cases h
  ·rename_i hc
   have h2:ixE n l=none:=by
    cases hx:ixE n l with
    |none=>rfl
    |some k=>rw[hx] at h;cases h
   rw[List.any_cons,zlm h2,Bool.or_false,zes];simpa using hc
theorem zll {n:List UInt8}:∀{l:List En} {k:Nat},ixE n l=some k→k<l.length
 |[],_,h=>by cases h
 |x::l,k,h=>by
  unfold ixE at h;split at h
  ·cases h;simp
  ·cases hx:ixE n l with
   |none=>rw[hx] at h;cases h
   |some j=>
    rw[hx] at h;have:=zll hx;cases h;simp;omega
structure Nj (p:Rp) (i:Nat) (all:List Nm) (k:Nat) (s:Rp×List Nm):Prop where
 kp:Kp p s.1
 kn:Kn p s.1
 en:∀d,∀e∈(at_ Rc.o s.1.v.rs d).es,right p.v e.f=true∧16≤e.f.r∧if e.f.r.toNat=i then(⟨p.ref d,e.n⟩:Nm)∈s.2++all.drop k else(⟨p.ref d,e.n⟩:Nm)∈(p.rc e.f.r).ns
 pw:Pw s.1
 ne:∀m∈s.2,Ne s.1 i m
 oth:∀j,j≠i→∀m,Ne p j m→Ne s.1 j m
 one:(p.rc i).k≠1→s.2.length≤1
 es0:∀d,dir (at_ Rc.o p.v.rs d)=false→(at_ Rc.o s.1.v.rs d).es=[]
theorem ref_inj {p:Rp} {i j:Nat} (h:p.ref i=p.ref j):i=j:=by
 have:((i:Nat):Int)=((j:Nat):Int):=congrArg Ref.r h;omega
theorem Ne.of_v {p q:Rp} {j:Nat} {m:Nm} (h:Ne p j m) (hv:q.v=p.v):Ne q j m:=by
 unfold Ne Rp.ref Rp.rc at h⊢;rw[hv];exact h
theorem Ne.enter {p:Rp} {j:Nat} {m:Nm} (h:Ne p j m) {d:Int} {n:List UInt8} {r:Nat} (hd:d.toNat<p.v.rs.length):Ne (Ck.enter p d n r) j m:=by
 have hk:Kp p (Ck.enter p d n r):=(Kp.refl p).enter d n r;obtain⟨h1,e,h2,h3,h4⟩:=h;refine⟨by rw[zid hk];exact h1,e,?_,by rw[hk.2.1.ref];exact h3,h4⟩;show e∈(at_ Rc.o (Ck.enter p d n r).v.rs m.d.r.toNat).es;rw[zgd hd];split
 ·exact List.mem_append_left _ h2
 ·exact h2
theorem Ne.drop {p:Rp} {j:Nat} {m:Nm} (h:Ne p j m) {r:Nat} {n:Nm} (hne:j≠r∨m≠n):Ne (Ck.drop p r n) j m:=by
 have hk:Kp p (Ck.drop p r n):=(Kp.refl p).drop r n;obtain⟨h1,e,h2,h3,h4⟩:=h;refine⟨by rw[zid hk];exact h1,e,?_,by rw[hk.2.1.ref];exact h3,h4⟩;show e∈(at_ Rc.o (Ck.drop p r n).v.rs m.d.r.toNat).es;rw[zfs];split
 ·rename_i hc;rw[List.mem_filter];refine⟨h2,?_⟩
  rcases hne with hne|hne
  ·have:e.f≠p.ref r:=fun c=>hne (ref_inj (h3.symm.trans c))
   simp[this]
  ·have a1:=(zci h1)
   have a2:=(zci hc.1)
   have hr:m.d.r=n.d.r:=by have:=hc.2;omega
   have hd:m.d=n.d:=by rw[←a1.2.2.2,←a2.2.2.2,hr]
   have:e.n≠n.n:=fun c=>hne (by
    cases m;cases n
    simp only[Nm.mk.injEq] at*
    exact⟨hd,by rw[←h4,c]⟩)
   simp[this]
 ·exact h2
theorem zch {p:Rp} {i:Nat} (hi:i<p.v.rs.length) (ho:own (p.rc i)=true):right p.v (p.ref i)=true:=by
 unfold right
 have h1:wi (p.ref i).r 0 ((p.v.rs.length:Int)-1)=true:=by
  unfold wi Rp.ref;simp only[Bool.and_eq_true,decide_eq_true_eq];omega
 have h2:own (rc p.v (p.ref i).r)=true:=ho
 have h3:((rc p.v (p.ref i).r).q==(p.ref i).q)=true:=by rw[beq_iff_eq];rfl
 rw[h1,h2,h3];rfl
theorem Nj.step {p:Rp} {i:Nat} {all:List Nm} {k:Nat} {s:Rp×List Nm} (h:Nj p i all k s) (hk:k<all.length) (hi:16≤i∧i<p.v.rs.length) (ho:own (p.rc i)=true):Nj p i all (k+1) (nameStep i all s k):=by
 obtain⟨n,hn⟩:∃n,at_ Nm.o all k=n:=⟨_,rfl⟩
 have hdr:all.drop k=n::all.drop (k+1):=by rw[drop_at Nm.o all k hk,hn]
 have hnk:at_ Nm.o all k=n:=hn;unfold nameStep;dsimp only;rw[hnk];split
 ·rename_i c1;obtain⟨b1,b2,b3⟩:=zgX c1
  have hone:(p.rc i).k≠1→(s.2++[n]).length≤1:=fun hk1=>by
   by_cases e:s.2=[]
   ·rw[e];simp
   ·have e2:(s.1.rc i).k=(p.rc i).k:=(h.kp.2.1 ((i:Nat):Int).toNat).2.1;exact absurd (b2 e) (by rw[e2];exact hk1)
  split
  ·rename_i c2;obtain⟨j,g1,g2,g3⟩:=isName_old c1 c2;have hj:=zll g1;refine⟨h.kp,h.kn,fun d e he=> ?_,h.pw,fun m hm=> ?_,h.oth,hone,h.es0⟩
   ·obtain⟨q1,q2,q3⟩:=h.en d e he;refine⟨q1,q2,?_⟩;rw[hdr] at q3;simpa[List.append_assoc] using q3
   ·rcases List.mem_append.1 hm with hm|hm
    ·exact h.ne m hm
    ·rcases List.mem_singleton.1 hm with rfl
     exact⟨b1,_,at_mem En.o _ j hj,g2,g3⟩
  ·rename_i c2;obtain⟨g1,g4⟩:=zhE c1 (by simpa using c2);obtain⟨r1,r2,r3,r4⟩:=zci b1;have hkp:Kp s.1 (Ck.enter (s.1.note 5 i s.2.length) n.d.r n.n i):=((Kp.refl s.1).of_v (r:=s.1.note 5 i s.2.length) rfl).enter _ _ _;have r2':n.d.r.toNat<(s.1.note 5 i s.2.length).v.rs.length:=r2
   have hes:∀d,(at_ Rc.o (Ck.enter (s.1.note 5 i s.2.length) n.d.r n.n i).v.rs d).es=if n.d.r.toNat=d then(at_ Rc.o s.1.v.rs d).es++[⟨n.n,s.1.ref i,sizeOf (s.1.rc i)⟩] else(at_ Rc.o s.1.v.rs d).es:=fun d=>zgd r2' d
   refine⟨h.kp.trans hkp,fun j=>(zil j).trans (h.kn j),fun d e he=> ?_,fun d=> ?_,fun m hm=> ?_,fun j hj m hm=> ?_,hone,fun d hd=> ?_⟩
   ·have he:e∈(at_ Rc.o (Ck.enter (s.1.note 5 i s.2.length) n.d.r n.n i).v.rs d).es:=he;rw[hes] at he
    have hold:e∈(at_ Rc.o s.1.v.rs d).es→right p.v e.f=true∧16≤e.f.r∧if e.f.r.toNat=i then(⟨p.ref d,e.n⟩:Nm)∈(s.2++[n])++all.drop (k+1) else(⟨p.ref d,e.n⟩:Nm)∈(p.rc e.f.r).ns:=fun he=>by
     obtain⟨q1,q2,q3⟩:=h.en d e he;refine⟨q1,q2,?_⟩;rw[hdr] at q3;simpa[List.append_assoc] using q3
    split at he
    ·rename_i hdd
     rcases List.mem_append.1 he with he|he
     ·exact hold he
     ·rcases List.mem_singleton.1 he with rfl
      have hre:s.1.ref i=p.ref i:=h.kp.2.1.ref _;refine⟨by show right p.v (s.1.ref i)=true;rw[hre];exact zch hi.2 ho,by show(16:Int)≤(i:Nat);omega,?_⟩
      have hti:(s.1.ref i).r.toNat=i:=by show(((i:Nat):Int)).toNat=i;exact Int.toNat_natCast i
      rw[if_pos hti]
      have hdn:p.ref d=n.d:=by
       rw[←h.kp.2.1.ref,←hdd,Int.toNat_of_nonneg r1,r4]
      show(⟨p.ref d,n.n⟩:Nm)∈_;rw[hdn];simp
    ·exact hold he
   ·show Pws (at_ Rc.o (Ck.enter (s.1.note 5 i s.2.length) n.d.r n.n i).v.rs d).es;rw[hes];split
    ·rename_i hdd;refine(h.pw d).snoc ?_;subst hdd;exact zlm g1
    ·exact h.pw d
   ·rcases List.mem_append.1 hm with hm|hm
    ·exact((h.ne m hm).of_v (q:=s.1.note 5 i s.2.length) rfl).enter r2'
    ·rcases List.mem_singleton.1 hm with rfl
     refine⟨by rw[zid hkp];exact b1,⟨m.n,s.1.ref i,sizeOf (s.1.rc i)⟩,?_,(hkp.2.1.ref _).symm,rfl⟩;show _∈(at_ Rc.o (Ck.enter (s.1.note 5 i s.2.length) m.d.r m.n i).v.rs m.d.r.toNat).es;rw[hes,if_pos rfl];exact List.mem_append_right _ (List.mem_singleton.2 rfl)
   ·exact((h.oth j hj m hm).of_v (q:=s.1.note 5 i s.2.length) rfl).enter r2'
   ·show(at_ Rc.o (Ck.enter (s.1.note 5 i s.2.length) n.d.r n.n i).v.rs d).es=[]
    rw[hes,if_neg]
    ·exact h.es0 d hd
    ·rintro rfl;have:dir (at_ Rc.o s.1.v.rs n.d.r.toNat)=true:=r3;rw[h.kp.2.1.dir,hd] at this;cases this
 ·rename_i c1;have hp4:Kp s.1 (s.1.note 4 i s.2.length):=(Kp.refl s.1).of_v rfl
  have hsub:∀d e,e∈(at_ Rc.o s.1.v.rs d).es→(e.f.r.toNat=i→(⟨p.ref d,e.n⟩:Nm)=n→n∈s.2++all.drop (k+1))→right p.v e.f=true∧16≤e.f.r∧if e.f.r.toNat=i then(⟨p.ref d,e.n⟩:Nm)∈s.2++all.drop (k+1) else(⟨p.ref d,e.n⟩:Nm)∈(p.rc e.f.r).ns:=fun d e he hn2=>by
   obtain⟨q1,q2,q3⟩:=h.en d e he;refine⟨q1,q2,?_⟩;by_cases hfi:e.f.r.toNat=i
   ·rw[if_pos hfi] at q3⊢;rw[hdr] at q3
    rcases List.mem_append.1 q3 with q3|q3
    ·exact List.mem_append_left _ q3
    ·rcases List.mem_cons.1 q3 with q3|q3
     ·rw[q3];exact hn2 hfi q3
     ·exact List.mem_append_right _ q3
   ·rw[if_neg hfi] at q3⊢;exact q3
  split
  ·rename_i c2;simp only[Bool.and_eq_true,Bool.not_eq_true',List.contains_eq_mem,decide_eq_false_iff_not] at c2;have hkp:Kp s.1 (Ck.drop (s.1.note 4 i s.2.length) i n):=hp4.drop i n
   have hes:∀d,(at_ Rc.o (Ck.drop (s.1.note 4 i s.2.length) i n).v.rs d).es=if(right s.1.v n.d&&(s.1.rc n.d.r).k==0)=true∧n.d.r.toNat=d then(at_ Rc.o s.1.v.rs d).es.filter (fun x=> !(decide (x.f=s.1.ref i)&&decide (x.n=n.n))) else(at_ Rc.o s.1.v.rs d).es:=fun d=>zfs d
   refine⟨h.kp.trans hkp,fun j=>(zkd j).trans (h.kn j),fun d e he=> ?_,fun d=> ?_,fun m hm=> ?_,fun j hj m hm=> ?_,h.one,fun d hd=> ?_⟩
   ·have he:e∈(at_ Rc.o (Ck.drop (s.1.note 4 i s.2.length) i n).v.rs d).es:=he;rw[hes] at he
    have hin:e∈(at_ Rc.o s.1.v.rs d).es:=by
     split at he
     ·exact(List.mem_filter.1 he).1
     ·exact he
    refine hsub d e hin fun hfi hnn=> ?_
    exfalso;obtain⟨q1,q2,_⟩:=h.en d e hin
    have hef:e.f=s.1.ref i:=by
     rw[h.kp.2.1.ref];unfold right at q1;simp only[Bool.and_eq_true,beq_iff_eq] at q1;have q4:=q1.2
     have hr:e.f.r=(i:Nat):=by omega
     unfold Rp.ref Rp.rc;rw[hr] at q4
     cases hf:e.f with
     |mk a b=>
      rw[hf] at hr q4;simp only at hr q4;rw[hr,←q4]
    have hdir:dir (at_ Rc.o p.v.rs d)=true:=by
     cases hd:dir (at_ Rc.o p.v.rs d)
     ·rw[h.es0 d hd] at hin;cases hin
     ·rfl
    have hdl:d<p.v.rs.length:=by
     by_cases hd:d<p.v.rs.length
     ·exact hd
     ·unfold at_ at hdir;rw[List.getElem?_eq_none (by omega)] at hdir;cases hdir
    have hnd:n.d=p.ref d:=by rw[←hnn]
    have hen:e.n=n.n:=by rw[←hnn]
    have hrd:(right s.1.v n.d&&(s.1.rc n.d.r).k==0)=true:=by
     rw[zid h.kp,hnd]
     have hown:own (p.rc d)=true:=by
      rw[zae];unfold dir at hdir;simp only[Bool.and_eq_true,beq_iff_eq] at hdir;unfold own;rw[hdir.1,hdir.2];rfl
     rw[zch hdl hown]
     have:(p.rc (p.ref d).r).k=0:=by
      show(p.rc (d:Nat)).k=0;rw[zae];unfold dir at hdir;simp only[Bool.and_eq_true,beq_iff_eq] at hdir;exact hdir.2
     rw[this];rfl
    have hdd:n.d.r.toNat=d:=by rw[hnd];show(((d:Nat):Int)).toNat=d;exact Int.toNat_natCast d
    rw[if_pos ⟨hrd,hdd⟩,List.mem_filter] at he;have:=he.2;rw[hef,hen] at this;simp at this
   ·show Pws (at_ Rc.o (Ck.drop (s.1.note 4 i s.2.length) i n).v.rs d).es;rw[hes];split
    ·exact List.Pairwise.filter _ (h.pw d)
    ·exact h.pw d
   ·exact((h.ne m hm).of_v (q:=s.1.note 4 i s.2.length) rfl).drop (.inr fun e=>c2.1 (e▸hm))
   ·exact((h.oth j hj m hm).of_v (q:=s.1.note 4 i s.2.length) rfl).drop (.inl hj)
   ·show(at_ Rc.o (Ck.drop (s.1.note 4 i s.2.length) i n).v.rs d).es=[]
    rw[hes,h.es0 d hd];split<;>rfl
  ·rename_i c2;refine⟨h.kp.of_v rfl,h.kn,fun d e he=>hsub d e he fun _ _=> ?_,h.pw,fun m hm=>(h.ne m hm).of_v rfl,fun j hj m hm=>(h.oth j hj m hm).of_v rfl,h.one,h.es0⟩;simp only[Bool.and_eq_true,Bool.not_eq_true',List.contains_eq_mem,decide_eq_false_iff_not,not_and,Decidable.not_not] at c2;by_cases hb:n∈s.2
   ·exact List.mem_append_left _ hb
   ·exact List.mem_append_right _ (c2 hb)
def E0 (p:Rp):Prop:=∀d,dir (at_ Rc.o p.v.rs d)=false→(at_ Rc.o p.v.rs d).es=[]
def Nk (p:Rp) (j:Nat):Prop:=(∀m∈(at_ Rc.o p.v.rs j).ns,Ne p j m)∧((at_ Rc.o p.v.rs j).k≠1→(at_ Rc.o p.v.rs j).ns.length≤1)
theorem Nj.run {p:Rp} {i:Nat} {all:List Nm} (h:Nj p i all 0 (p,[])) (hi:16≤i∧i<p.v.rs.length) (ho:own (p.rc i)=true):∀k,k≤all.length→Nj p i all k (it (nameStep i all) (p,[]) k)
 |0,_=>h
 |k+1,hk=>(h.run hi ho k (by omega)).step (by omega) hi ho
theorem zhx {p:Rp} (hE:EnOk p) (hP:Pw p) (h0:E0 p) {i:Nat} (hi:16≤i∧i<p.v.rs.length) (ho:own (p.rc i)=true):
  EnOk (badNames1 p i)∧Pw (badNames1 p i)∧E0 (badNames1 p i)∧Nk (badNames1 p i) i∧(∀j,j≠i→Nk p j→Nk (badNames1 p i) j)∧(∀j,j≠i→(at_ Rc.o (badNames1 p i).v.rs j).ns=(at_ Rc.o p.v.rs j).ns):=by
 have hstart:Nj p i (p.rc i).ns 0 (p,[]):=⟨Kp.refl p,fun _=>rfl,fun d e he=>by
  obtain⟨a,b,c⟩:=hE d e he;refine⟨a,b,?_⟩;split
  ·rename_i hf
   have:p.rc e.f.r=p.rc i:=by rw[zae];unfold Rp.rc rc;rw[hf]
   rw[this] at c;exact c
  ·exact c,hP,fun _ h=>(by cases h),fun _ _ _ h=>h,fun _=>Nat.zero_le _,h0⟩
 have hend:=hstart.run hi ho _ (Nat.le_refl _);have hk1:=Kp.badNames1 p i;unfold badNames1 at hk1⊢;dsimp only at hk1⊢
 generalize it (nameStep i (p.rc i).ns) (p,[]) (p.rc i).ns.length=s at*
 obtain⟨q,hq⟩:∃q,s.1.setR i {s.1.rc i with ns:=s.2}=q:=⟨_,rfl⟩
 rw[hq] at hk1⊢
 have hil:i<s.1.v.rs.length:=by rw[hend.kp.2.2.2];exact hi.2
 have hat:∀j,at_ Rc.o q.v.rs j=if i=j then{at_ Rc.o s.1.v.rs i with ns:=s.2} else at_ Rc.o s.1.v.rs j:=fun j=>by
  rw[←hq];show at_ Rc.o (s.1.v.rs.set i _) j=_;rw[zbc,zae];by_cases e:i=j
  ·subst e;rw[if_pos ⟨rfl,hil⟩,if_pos rfl]
  ·rw[if_neg (fun c=>e c.1),if_neg e]
 have hes:∀j,(at_ Rc.o q.v.rs j).es=(at_ Rc.o s.1.v.rs j).es:=fun j=>by
  rw[hat];split
  ·rename_i e;subst e;rfl
  ·rfl
 have hns:∀j,(at_ Rc.o q.v.rs j).ns=if i=j then s.2 else(at_ Rc.o p.v.rs j).ns:=fun j=>by
  rw[hat];split
  ·rfl
  ·exact hend.kn j
 have hsq:Kp s.1 q:=by
  rw[←hq];exact(Kp.refl s.1).setR i _ (by rw[zae];exact⟨⟨rfl,rfl,rfl⟩,rfl⟩)
 have hne:∀j m,Ne s.1 j m→Ne q j m:=fun j m ⟨a,e,b,c,d⟩=>by
  refine⟨by rw[zid hsq];exact a,e,?_,by rw[hsq.2.1.ref];exact c,d⟩;show e∈(at_ Rc.o q.v.rs m.d.r.toNat).es;rw[hes];exact b
 refine⟨fun d e he=> ?_,fun d=> ?_,fun d hd=> ?_,⟨fun m hm=> ?_,fun hk=> ?_⟩,fun j hj hn=>⟨fun m hm=> ?_,fun hk=> ?_⟩,fun j hj=>by rw[hns,if_neg (Ne.symm hj)]⟩
 ·rw[hes] at he;obtain⟨a,b,c⟩:=hend.en d e he;refine⟨by rw[hk1.2.1.right hk1.2.2.2];exact a,b,?_⟩;rw[hk1.2.1.ref];show _∈(at_ Rc.o q.v.rs e.f.r.toNat).ns;rw[hns];by_cases hf:e.f.r.toNat=i
  ·rw[if_pos hf] at c;rw[if_pos hf.symm];simpa using c
  ·rw[if_neg hf] at c;rw[if_neg (fun x=>hf x.symm)];exact c
 ·show Pws (at_ Rc.o q.v.rs d).es;rw[hes];exact hend.pw d
 ·rw[hes];exact hend.es0 d (by rw[←hk1.2.1.dir];exact hd)
 ·rw[hns,if_pos rfl] at hm;exact hne i m (hend.ne m hm)
 ·rw[hns,if_pos rfl];refine hend.one ?_;rw[zae,←(hk1.2.1 i).2.1];exact hk
 ·rw[hns,if_neg (Ne.symm hj)] at hm;exact hne j m (hend.oth j hj m (hn.1 m hm))
 ·rw[hns,if_neg (Ne.symm hj)];refine hn.2 ?_;rw[←(hk1.2.1 j).2.1];exact hk
structure Fit5 (p:Rp):Prop where
 en:EnOk p
 pw:Pw p
 e0:E0 p
 nk:∀j,Nk p j
theorem zin {p:Rp} (h:Rv p) {j:Nat} (hj:¬(16≤j∧j<p.v.rs.length∧own (at_ Rc.o p.v.rs j)=true)):(at_ Rc.o p.v.rs j).ns=[]:=by
 by_cases hl:j<p.v.rs.length
 ·have hr:=h.at hl;refine List.eq_nil_of_length_eq_zero ?_;by_cases e:0<(at_ Rc.o p.v.rs j).ns.length
  ·obtain⟨a,b⟩:=hr.ns0 e;exfalso;refine hj ⟨by omega,hl,?_⟩;unfold own;cases hu:(at_ Rc.o p.v.rs j).u
   ·have:=(hr.un hu).2;have h1:=hr.ln;have h2:=hr.ds;have h3:=hr.k;unfold Rc.parts at this;omega
   ·simpa using a
  ·omega
 ·unfold at_;rw[List.getElem?_eq_none (by omega)];rfl
theorem zjm {p:Rp} (h:Rv p) (hE:EnOk p) (hP:Pw p) (h0:E0 p):Fit5 (badNames p):=by
 have key:∀k,k≤p.v.rs.length-16→EnOk (it (fun q j=>if own (q.rc (16+j:Nat)) then badNames1 q (16+j) else q) p k)∧Pw (it (fun q j=>if own (q.rc (16+j:Nat)) then badNames1 q (16+j) else q) p k)∧E0 (it (fun q j=>if own (q.rc (16+j:Nat)) then badNames1 q (16+j) else q) p k)∧Kp p (it (fun q j=>if own (q.rc (16+j:Nat)) then badNames1 q (16+j) else q) p k)∧(∀j,(j<16+k∨p.v.rs.length≤j)→Nk (it (fun q j=>if own (q.rc (16+j:Nat)) then badNames1 q (16+j) else q) p k) j)∧(∀j,16+k≤j→(at_ Rc.o (it (fun q j=>if own (q.rc (16+j:Nat)) then badNames1 q (16+j) else q) p k).v.rs j).ns=(at_ Rc.o p.v.rs j).ns):=by
  refine zaJ (I:=fun k q=>EnOk q∧Pw q∧E0 q∧Kp p q∧(∀j,(j<16+k∨p.v.rs.length≤j)→Nk q j)∧(∀j,16+k≤j→(at_ Rc.o q.v.rs j).ns=(at_ Rc.o p.v.rs j).ns)) (fun s k hk ⟨a1,a2,a3,a4,a5,a6⟩=> ?_) ⟨hE,hP,h0,Kp.refl p,fun j hj=> ?_,fun _ _=>rfl⟩
  ·split
   ·rename_i ho
    have hil:16≤16+k∧16+k<s.v.rs.length:=⟨by omega,by rw[a4.2.2.2];omega⟩
    obtain⟨b1,b2,b3,b4,b5,b6⟩:=zhx a1 a2 a3 hil ho;refine⟨b1,b2,b3,a4.trans (Kp.badNames1 s (16+k)),fun j hj=> ?_,fun j hj=>by rw[b6 j (by omega)];exact a6 j (by omega)⟩;by_cases e:j=16+k
    ·subst e;exact b4
    ·exact b5 j e (a5 j (by omega))
   ·rename_i ho;refine⟨a1,a2,a3,a4,fun j hj=> ?_,fun j hj=>a6 j (by omega)⟩;by_cases e:j=16+k
    ·subst e
     have:(at_ Rc.o s.v.rs (16+k)).ns=[]:=by
      rw[a6 _ (Nat.le_refl _)]
      refine zin h fun c=>ho ?_
      rw[zae];unfold own at c⊢;rw[(a4.2.1 _).1,(a4.2.1 _).2.1];exact c.2.2
     exact⟨fun m hm=>(by rw[this] at hm;cases hm),fun _=>by rw[this];exact Nat.zero_le _⟩
    ·exact a5 j (by omega)
  ·have:(at_ Rc.o p.v.rs j).ns=[]:=zin h fun c=>by omega
   exact⟨fun m hm=>(by rw[this] at hm;cases hm),fun _=>by rw[this];exact Nat.zero_le _⟩
 obtain⟨a1,a2,a3,a4,a5,a6⟩:=key _ (Nat.le_refl _);exact⟨a1,a2,a3,fun j=>a5 j (by omega)⟩
theorem zg9 {es:List En} {r:Nat} (hr:r<100) (hl:es.length<9000):es.any (fun x=>same x.n (zaf r (zbz es r 0 (es.length+1))))=false∧zbz es r 0 (es.length+1)≤es.length:=by
 have hex:∃j,j≤es.length∧zde es r j=false:=by
  apply Classical.byContradiction;intro hno
  have:∀i,i<es.length+1→zde es r i=true:=fun i hi=>by
   cases h:zde es r i
   ·exact absurd ⟨i,by omega,h⟩ hno
   ·rfl
  have:=zkG hr (by omega) this;omega
 have hmin:∃j,zde es r j=false∧j≤es.length∧∀i,i<j→zde es r i=true:=by
  obtain⟨j,hj,hf⟩:=hex
  induction j using Nat.strongRecOn with
  |ind j ih=>
   by_cases h:∃i,i<j∧zde es r i=false
   ·obtain⟨i,hi,hfi⟩:=h;exact ih i hi (by omega) hfi
   ·exact⟨j,hf,hj,fun i hi=>by
     cases h2:zde es r i
     ·exact absurd ⟨i,hi,h2⟩ h
     ·rfl⟩
 obtain⟨j,h1,h2,h3⟩:=hmin;have:=zeZ (es:=es) (r:=r) (es.length+1) 0 j (Nat.zero_le _) (by omega) (fun i _ hi=>h3 i hi) h1;rw[this];exact⟨h1,h2⟩
structure Fx (p:Rp) (r:Nat):Prop where
 en:EnOk p
 no:∀d,∀e∈(at_ Rc.o p.v.rs d).es,e.f.r.toNat≠r
 pw:Pw p
 e0:E0 p
 nk:∀j,j≠r→Nk p j
theorem Fit5.fx {p:Rp} (h:Fit5 p) {r:Nat} (hn:(at_ Rc.o p.v.rs r).ns=[]):Fx p r:=
 ⟨h.en,fun d e he c=>by
  obtain⟨_,_,g⟩:=h.en d e he
  have:(p.rc e.f.r).ns=[]:=by unfold Rp.rc rc;rw[c];exact hn
  (rw[this] at g;cases g),h.pw,h.e0,fun j _=>h.nk j⟩
theorem Fx.bring {p:Rp} {r:Nat} (h:Fx p r) (hr:16≤r∧r<p.v.rs.length) (h96:p.v.rs.length≤96) (ho:own (p.rc r)=true) (h5:dir (p.rc 5)=true) (hl:(p.rc 5).es.length<9000):Fit5 (bring p r):=by
 have hkp:Kp p (Ck.bring p r):=(Kp.refl p).bring r;obtain⟨hfree,_⟩:=zg9 (es:=(p.rc 5).es) (r:=r) (by omega) hl
 obtain⟨N,hN⟩:∃N,zaf r (zbz (p.rc 5).es r 0 ((p.rc 5).es.length+1))=N:=⟨_,rfl⟩
 rw[hN] at hfree
 have hq:Ck.bring p r=Ck.enter (p.setR r {p.rc r with ns:=[⟨p.ref 5,N⟩]}) 5 N r:=by
  unfold Ck.bring;dsimp only;rw[hN]
 obtain⟨w,hw⟩:∃w,p.setR r {p.rc r with ns:=[⟨p.ref 5,N⟩]}=w:=⟨_,rfl⟩
 rw[hw] at hq
 have hkw:Kp p w:=by rw[←hw];exact(Kp.refl p).setR r _ (by rw[zae];exact⟨⟨rfl,rfl,rfl⟩,rfl⟩)
 have hat:∀j,at_ Rc.o w.v.rs j=if r=j then{p.rc r with ns:=[⟨p.ref 5,N⟩]} else at_ Rc.o p.v.rs j:=fun j=>by
  rw[←hw];show at_ Rc.o (p.v.rs.set r _) j=_;rw[zbc];by_cases e:r=j
  ·subst e;rw[if_pos ⟨rfl,hr.2⟩,if_pos rfl]
  ·rw[if_neg (fun c=>e c.1),if_neg e]
 have hwes:∀j,(at_ Rc.o w.v.rs j).es=(at_ Rc.o p.v.rs j).es:=fun j=>by
  rw[hat];split
  ·rename_i e;subst e;rw[zae]
  ·rfl
 have h5l:5<p.v.rs.length:=by omega
 have hes:∀j,(at_ Rc.o (Ck.bring p r).v.rs j).es=if 5=j then(at_ Rc.o p.v.rs j).es++[⟨N,w.ref r,sizeOf (w.rc r)⟩] else(at_ Rc.o p.v.rs j).es:=fun j=>by
  rw[hq,zgd (by rw[hkw.2.2.2];exact h5l)];show(if 5=j then _ else _)=_;rw[hwes]
 have hns:∀j,(at_ Rc.o (Ck.bring p r).v.rs j).ns=if r=j then [⟨p.ref 5,N⟩] else(at_ Rc.o p.v.rs j).ns:=fun j=>by
  rw[hq,zil,hat];split
  ·rfl
  ·rfl
 have h5r:(right p.v (p.ref 5)&&(p.rc (p.ref 5).r).k==0)=true:=by
  have hd:=h5;unfold dir at hd;simp only[Bool.and_eq_true,beq_iff_eq] at hd
  have ho5:own (p.rc (5:Nat))=true:=by
   unfold own;have h1:(p.rc (5:Nat)).u=true:=hd.1;have h2:(p.rc (5:Nat)).k=0:=hd.2;rw[h1,h2];rfl
  have h1:right p.v (p.ref 5)=true:=zch (i:=5) h5l ho5;have h2:(p.rc (p.ref 5).r).k=0:=hd.2;rw[h1,h2];rfl
 have hnew:Ne (Ck.bring p r) r ⟨p.ref 5,N⟩:=by
  refine⟨by rw[zid hkp];exact h5r,⟨N,w.ref r,sizeOf (w.rc r)⟩,?_,?_,rfl⟩
  ·show _∈(at_ Rc.o (Ck.bring p r).v.rs 5).es;rw[hes,if_pos rfl];exact List.mem_append_right _ (List.mem_singleton.2 rfl)
  ·rw[hkp.2.1.ref];exact hkw.2.1.ref _
 have hold:∀j m,Ne p j m→Ne (Ck.bring p r) j m:=fun j m ⟨a,e,b,c,d⟩=>by
  refine⟨by rw[zid hkp];exact a,e,?_,by rw[hkp.2.1.ref];exact c,d⟩;show e∈(at_ Rc.o (Ck.bring p r).v.rs m.d.r.toNat).es;rw[hes];split
  ·exact List.mem_append_left _ b
  ·exact b
 refine⟨fun d e he=> ?_,fun d=> ?_,fun d hd=> ?_,fun j=> ?_⟩
 ·rw[hes] at he
  have hin:e∈(at_ Rc.o p.v.rs d).es→Eo (Ck.bring p r) d e:=fun he=>by
   obtain⟨a,b,c⟩:=h.en d e he;refine⟨by rw[hkp.2.1.right hkp.2.2.2];exact a,b,?_⟩;rw[hkp.2.1.ref];show _∈(at_ Rc.o (Ck.bring p r).v.rs e.f.r.toNat).ns;rw[hns,if_neg (fun x=>h.no d e he x.symm)];exact c
  split at he
  ·rename_i hd
   rcases List.mem_append.1 he with he|he
   ·exact hin he
   ·rcases List.mem_singleton.1 he with rfl
    subst hd;have hwr:w.ref r=p.ref r:=hkw.2.1.ref _;refine⟨?_,?_,?_⟩
    ·show right _ (w.ref r)=true;rw[hkp.2.1.right hkp.2.2.2,hwr];exact zch hr.2 ho
    ·show(16:Int)≤(r:Nat);omega
    ·show(⟨(Ck.bring p r).ref 5,N⟩:Nm)∈((Ck.bring p r).rc (r:Nat)).ns;rw[hkp.2.1.ref,zae,hns,if_pos rfl];exact List.mem_singleton.2 rfl
  ·exact hin he
 ·show Pws (at_ Rc.o (Ck.bring p r).v.rs d).es;rw[hes];split
  ·rename_i hd;subst hd;refine(h.pw 5).snoc ?_;rw[List.any_eq_false] at hfree⊢;intro x hx;have:=hfree x hx;rw[zes];exact this
  ·exact h.pw d
 ·rw[hkp.2.1.dir] at hd;rw[hes,if_neg]
  ·exact h.e0 d hd
  ·rintro rfl;have:dir (at_ Rc.o p.v.rs 5)=true:=h5;rw[this] at hd;cases hd
 ·by_cases e:j=r
  ·subst e;refine⟨fun m hm=> ?_,fun _=>by rw[hns,if_pos rfl];exact Nat.le_refl _⟩;rw[hns,if_pos rfl] at hm
   rcases List.mem_singleton.1 hm with rfl
   exact hnew
  ·obtain⟨a,b⟩:=h.nk j e;refine⟨fun m hm=> ?_,fun hk=> ?_⟩
   ·rw[hns,if_neg (Ne.symm e)] at hm;exact hold j m (a m hm)
   ·rw[hns,if_neg (Ne.symm e)];exact b (by rw[←(hkp.2.1 j).2.1];exact hk)
theorem Fit5.of_v {p q:Rp} (h:Fit5 p) (hv:q.v=p.v):Fit5 q:=by
 obtain⟨a,b,c,d⟩:=h;unfold EnOk Eo Rp.ref Rp.rc at a;refine⟨?_,by unfold Pw at b⊢;rw[hv];exact b,by unfold E0 at c⊢;rw[hv];exact c,fun j=> ?_⟩
 ·unfold EnOk Eo Rp.ref Rp.rc;rw[hv];exact a
 ·have:=d j;unfold Nk Ne Rp.ref Rp.rc at this⊢;rw[hv];exact this
theorem zbE {p q:Rp} (h:Kp p q) (i:Nat):own (at_ Rc.o q.v.rs i)=own (at_ Rc.o p.v.rs i):=by unfold own;rw[(h.2.1 i).1,(h.2.1 i).2.1]
theorem orphans_fit {p:Rp} {L:Nat} (h:Fit5 p) (h96:p.v.rs.length≤96) (hL:EsL L p) (hl:L≤8000) (h5:dir (at_ Rc.o p.v.rs 5)=true):Fit5 (orphans p):=by
 have key:∀k,k≤p.v.rs.length-16→Fit5 (it (fun q j=>if own (q.rc (16+j:Nat)) then zaz q (16+j) else q) p k)∧EsL (L+k) (it (fun q j=>if own (q.rc (16+j:Nat)) then zaz q (16+j) else q) p k)∧Kp p (it (fun q j=>if own (q.rc (16+j:Nat)) then zaz q (16+j) else q) p k):=by
  refine zaJ (I:=fun k q=>Fit5 q∧EsL (L+k) q∧Kp p q) (fun s k hk ⟨a1,a2,a3⟩=> ?_) ⟨h,hL,Kp.refl p⟩;have hmono:EsL (L+(k+1)) s:=a2.mono (by omega);split
  ·rename_i ho;unfold zaz;split
   ·rename_i h0;rw[zae] at h0;have hn:Kp s (s.note 6 (16+k:Nat) 0):=(Kp.refl s).of_v rfl;refine⟨?_,?_,a3.trans (hn.bring _)⟩
    ·refine((a1.of_v (q:=s.note 6 (16+k:Nat) 0) rfl).fx (r:=16+k) (List.eq_nil_of_length_eq_zero h0)).bring ⟨by omega,?_⟩ ?_ ho ?_ ?_
     ·show 16+k<s.v.rs.length;rw[a3.2.2.2];omega
     ·show s.v.rs.length≤96;rw[a3.2.2.2];exact h96
     ·show dir (at_ Rc.o s.v.rs 5)=true;rw[a3.2.1.dir];exact h5
     ·have:=a2.at 5;show(at_ Rc.o s.v.rs 5).es.length<9000;omega
    ·have h7:EsL (L+k+1) (Ck.bring (s.note 6 (16+k:Nat) 0) (16+k)):=EsL.bring (a2.of_v (q':=s.note 6 (16+k:Nat) 0) rfl);exact h7
   ·exact⟨a1,hmono,a3⟩
  ·exact⟨a1,hmono,a3⟩
 exact(key _ (Nat.le_refl _)).1
structure Dj (p:Rp) (r:Nat) (l:List Nm) (k:Nat) (w:Rp):Prop where
 kp:Kp p w
 kn:Kn p w
 en:∀d,∀e∈(at_ Rc.o w.v.rs d).es,e∈(at_ Rc.o p.v.rs d).es∧(e.f.r.toNat=r→(⟨p.ref d,e.n⟩:Nm)∈l.drop k)
 pw:Pw w
 oth:∀j,j≠r→∀m,Ne p j m→Ne w j m
theorem ref_eq {p:Rp} {f:Ref} {i:Nat} (h:right p.v f=true) (h16:16≤f.r) (hi:f.r.toNat=i):f=p.ref i:=by
 unfold right at h;simp only[Bool.and_eq_true,beq_iff_eq] at h;have q4:=h.2
 have hr:f.r=(i:Nat):=by omega
 unfold Rp.ref Rp.rc;rw[hr] at q4
 cases f with
 |mk a b=>
  simp only at hr q4;rw[hr,←q4]
theorem Dj.step {p:Rp} {r:Nat} {l:List Nm} {k:Nat} {w:Rp} (hE:EnOk p) (h0:E0 p) (h:Dj p r l k w) (hk:k<l.length):Dj p r l (k+1) (drop w r (at_ Nm.o l k)):=by
 obtain⟨n,hn⟩:∃n,at_ Nm.o l k=n:=⟨_,rfl⟩
 have hdr:l.drop k=n::l.drop (k+1):=by rw[drop_at Nm.o l k hk,hn]
 rw[hn];have hkp:Kp w (drop w r n):=(Kp.refl w).drop r n;refine⟨h.kp.trans hkp,fun j=>(zkd j).trans (h.kn j),fun d e he=> ?_,fun d=> ?_,fun j hj m hm=>(h.oth j hj m hm).drop (.inl hj)⟩
 ·rw[zfs] at he
  have hin:e∈(at_ Rc.o w.v.rs d).es:=by
   split at he
   ·exact(List.mem_filter.1 he).1
   ·exact he
  obtain⟨q1,q2⟩:=h.en d e hin;refine⟨q1,fun hf=> ?_⟩;have q3:=q2 hf;rw[hdr] at q3
  rcases List.mem_cons.1 q3 with hnn|q3
  ·exfalso;obtain⟨g1,g2,_⟩:=hE d e q1
   have hef:e.f=w.ref r:=by rw[h.kp.2.1.ref];exact ref_eq g1 g2 hf
   have hdir:dir (at_ Rc.o p.v.rs d)=true:=by
    cases hd:dir (at_ Rc.o p.v.rs d)
    ·rw[h0 d hd] at q1;cases q1
    ·rfl
   have hdl:d<p.v.rs.length:=by
    by_cases hd:d<p.v.rs.length
    ·exact hd
    ·unfold at_ at hdir;rw[List.getElem?_eq_none (by omega)] at hdir;cases hdir
   have hnd:n.d=p.ref d:=by rw[←hnn]
   have hen:e.n=n.n:=by rw[←hnn]
   unfold dir at hdir;simp only[Bool.and_eq_true,beq_iff_eq] at hdir
   have hrd:(right w.v n.d&&(w.rc n.d.r).k==0)=true:=by
    rw[zid h.kp,hnd]
    have hown:own (p.rc d)=true:=by
     rw[zae];unfold own;rw[hdir.1,hdir.2];rfl
    rw[zch hdl hown]
    have:(p.rc (p.ref d).r).k=0:=by
     show(p.rc (d:Nat)).k=0;rw[zae];exact hdir.2
    rw[this];rfl
   have hdd:n.d.r.toNat=d:=by rw[hnd];show(((d:Nat):Int)).toNat=d;exact Int.toNat_natCast d
   rw[if_pos ⟨hrd,hdd⟩,List.mem_filter] at he;have:=he.2;rw[hef,hen] at this;simp at this
  ·exact q3
 ·show Pws (at_ Rc.o (drop w r n).v.rs d).es;rw[zfs];split
  ·exact List.Pairwise.filter _ (h.pw d)
  ·exact h.pw d
theorem zlC {p:Rp} (h:Fit5 p) (r:Nat):Fx (it (fun q k=>drop q r (at_ Nm.o (at_ Rc.o p.v.rs r).ns k)) p (at_ Rc.o p.v.rs r).ns.length) r∧Kp p (it (fun q k=>drop q r (at_ Nm.o (at_ Rc.o p.v.rs r).ns k)) p (at_ Rc.o p.v.rs r).ns.length):=by
 have key:Dj p r (at_ Rc.o p.v.rs r).ns (at_ Rc.o p.v.rs r).ns.length (it (fun q k=>drop q r (at_ Nm.o (at_ Rc.o p.v.rs r).ns k)) p (at_ Rc.o p.v.rs r).ns.length):=by
  refine(zaJ (I:=fun k q=>Dj p r (at_ Rc.o p.v.rs r).ns k q) (fun s k hk hs=>hs.step h.en h.e0 hk) ⟨Kp.refl p,fun _=>rfl,fun d e he=>⟨he,fun hf=> ?_⟩,h.pw,fun _ _ _ hm=>hm⟩) _ (Nat.le_refl _);obtain⟨_,_,c⟩:=h.en d e he
  have:p.rc e.f.r=at_ Rc.o p.v.rs r:=by unfold Rp.rc rc;rw[hf]
  rw[this] at c;exact c
 generalize it (fun q k=>drop q r (at_ Nm.o (at_ Rc.o p.v.rs r).ns k)) p (at_ Rc.o p.v.rs r).ns.length=w at*
 refine⟨⟨fun d e he=>(h.en d e (key.en d e he).1).of key.kp key.kn,fun d e he c=> ?_,key.pw,fun d hd=> ?_,fun j hj=>⟨fun m hm=> ?_,fun hk=> ?_⟩⟩,key.kp⟩
 ·have:=(key.en d e he).2 c;rw[List.drop_length] at this;cases this
 ·rw[key.kp.2.1.dir] at hd;have:=h.e0 d hd
  refine List.eq_nil_iff_forall_not_mem.2 fun e he=> ?_
  have:=(key.en d e he).1;rw[h.e0 d hd] at this;cases this
 ·rw[key.kn] at hm;exact key.oth j hj m ((h.nk j).1 m hm)
 ·rw[key.kn];exact(h.nk j).2 (by rw[←(key.kp.2.1 j).2.1];exact hk)
theorem zhM {p:Rp} {L:Nat} (h:Fit5 p) (h96:p.v.rs.length≤96) (hL:EsL L p) (hl:L≤8000) (h5:dir (at_ Rc.o p.v.rs 5)=true) {j:Nat} (hj:16+j<p.v.rs.length):Fit5 (cycleR p j):=by
 unfold cycleR;split
 ·rename_i hc;simp only[Bool.and_eq_true] at hc;have hd:=hc.1;rw[zae] at hd⊢
  obtain⟨q,hq⟩:∃q,p.note 7 (16+j:Nat) 0=q:=⟨_,rfl⟩
  have hv:q.v=p.v:=by rw[←hq];rfl
  have hfit:Fit5 q:=h.of_v hv;obtain⟨hx,hkp⟩:=zlC hfit (16+j);rw[hq];rw[show at_ Rc.o p.v.rs (16+j)=at_ Rc.o q.v.rs (16+j) by rw[hv]]
  have hes:(at_ Rc.o (it (fun q' k=>drop q' (16+j) (at_ Nm.o (at_ Rc.o q.v.rs (16+j)).ns k)) q (at_ Rc.o q.v.rs (16+j)).ns.length).v.rs 5).es.length≤L:=by
   have:∀k,EsL L (it (fun q' k=>drop q' (16+j) (at_ Nm.o (at_ Rc.o q.v.rs (16+j)).ns k)) q k):=zaQ (I:=fun w:Rp=>EsL L w) (fun s k hs=>hs.drop) (hL.of_v hv);exact(this _).at 5
  generalize it (fun q' k=>drop q' (16+j) (at_ Nm.o (at_ Rc.o q.v.rs (16+j)).ns k)) q (at_ Rc.o q.v.rs (16+j)).ns.length=w at*
  refine hx.bring ⟨by omega,by rw[hkp.2.2.2,hv];exact hj⟩ (by rw[hkp.2.2.2,hv];exact h96) ?_ ?_ ?_
  ·rw[zae,zbE hkp,hv];unfold dir at hd;simp only[Bool.and_eq_true,beq_iff_eq] at hd;unfold own;rw[hd.1,hd.2];rfl
  ·show dir (at_ Rc.o w.v.rs 5)=true;rw[hkp.2.1.dir,hv];exact h5
  ·show(at_ Rc.o w.v.rs 5).es.length<9000;omega
 ·exact h
theorem zjN {p:Rp} {L:Nat} (hL:EsL L p) (j:Nat):EsL (L+1) (cycleR p j):=by
 unfold cycleR;split
 ·have:∀k,EsL L (it (fun q' k=>drop q' (16+j) (at_ Nm.o (p.rc (16+j:Nat)).ns k)) (p.note 7 (16+j:Nat) 0) k):=zaQ (I:=fun w:Rp=>EsL L w) (fun s k hs=>hs.drop) (hL.of_v rfl)
  exact fun x hx=>EsL.bring (this _) x hx
 ·exact hL.mono (by omega)
theorem Kp.cycleR (q:Rp) (j:Nat):Kp q (cycleR q j):=by
 unfold Ck.cycleR;split
 ·have h:=Kp.it (g:=id) (fun(s:Rp) k=>show Kp s (Ck.drop s (16+j) (at_ Nm.o (q.rc (16+j:Nat)).ns k)) from(Kp.refl s).drop _ _) (q.note 7 (16+j:Nat) 0) (q.rc (16+j:Nat)).ns.length;exact(((Kp.refl q).of_v (r:=q.note 7 (16+j:Nat) 0) rfl).trans h).bring _
 ·exact Kp.refl q
theorem cyclesR_fit {p:Rp} {L:Nat} (h:Fit5 p) (h96:p.v.rs.length≤96) (hL:EsL L p) (hl:L≤7000) (h5:dir (at_ Rc.o p.v.rs 5)=true):Fit5 (cyclesR p):=by
 have key:∀k,k≤p.v.rs.length-16→Fit5 (it cycleR p k)∧EsL (L+k) (it cycleR p k)∧Kp p (it cycleR p k):=by
  refine zaJ (I:=fun k q=>Fit5 q∧EsL (L+k) q∧Kp p q) (fun s k hk ⟨a1,a2,a3⟩=>⟨?_,?_,a3.trans (Kp.cycleR s k)⟩) ⟨h,hL,Kp.refl p⟩
  ·exact zhM a1 (by rw[a3.2.2.2];exact h96) a2 (by omega) (by rw[a3.2.1.dir];exact h5) (by rw[a3.2.2.2];omega)
  ·have:=zjN a2 k;exact this
 exact(key _ (Nat.le_refl _)).1
theorem zob {α:Type} (o:α) (l:List α) (i:Nat) (h:l.length≤i):at_ o l i=o:=by unfold at_;rw[List.getElem?_eq_none h];rfl
theorem zgo (a:List UInt8):same a a=true:=by unfold same;rw[beq_iff_eq]
theorem zkn {M:Nat}:∀(l:List Rc),(∀x∈l,x.ns.length≤M)→(l.flatMap (·.ns)).length≤l.length*M
 |[],_=>by simp
 |x::l,h=>by
  have h1:=zkn l fun y hy=>h y (List.mem_cons_of_mem _ hy)
  have h2:=h x List.mem_cons_self;rw[List.flatMap_cons,List.length_append,List.length_cons,Nat.succ_mul];omega
theorem zgP {p:Rp} (h:Rv p) (h96:p.v.rs.length≤96):(p.v.rs.flatMap (·.ns)).length≤640:=by
 have h1:((p.v.rs.take 16).flatMap (·.ns)).length≤(p.v.rs.take 16).length*0:=zkn _ fun x hx=>by
  obtain⟨i,hi,rfl⟩:=List.getElem_of_mem hx
  have hi2:i<16∧i<p.v.rs.length:=by rw[List.length_take] at hi;omega
  rw[List.getElem_take];have:=h.at hi2.2;rw[zaG _ _ _ hi2.2] at this;by_cases e:0<(p.v.rs[i]).ns.length
  ·have:=(this.ns0 e).2;omega
  ·omega
 have h2:((p.v.rs.drop 16).flatMap (·.ns)).length≤(p.v.rs.drop 16).length*8:=zkn _ fun x hx=>by
  have hx:=List.mem_of_mem_drop hx;obtain⟨i,hi,rfl⟩:=List.getElem_of_mem hx;have:=h.at hi;rw[zaG _ _ _ hi] at this;exact this.ns8
 have h3:p.v.rs.flatMap (·.ns)=(p.v.rs.take 16).flatMap (·.ns)++(p.v.rs.drop 16).flatMap (·.ns):=by rw[←List.flatMap_append,List.take_append_drop]
 rw[h3,List.length_append];rw[List.length_drop] at h2;omega
theorem zlv {p:Rp} (h:Fit5 p) (d:Nat):(at_ Rc.o p.v.rs d).es.length≤(p.v.rs.flatMap (·.ns)).length:=by
 obtain⟨es,he⟩:∃es,(at_ Rc.o p.v.rs d).es=es:=⟨_,rfl⟩
 have hpw:Pws es:=by rw[←he];exact h.pw d
 have hen:∀e∈es,Eo p d e:=by rw[←he];exact h.en d
 rw[he];have:=pigeon (P:=fun i (m:Nm)=>decide (m=⟨p.ref d,(at_ En.o es i).n⟩)) (p.v.rs.flatMap (·.ns)) (List.range es.length) List.nodup_range (fun i hi=> ?_) (fun m i j hi hj h1 h2=> ?_)
 ·simpa using this
 ·have hi:=List.mem_range.1 hi;obtain⟨_,_,c⟩:=hen _ (at_mem En.o es i hi);rw[List.any_eq_true];refine⟨⟨p.ref d,(at_ En.o es i).n⟩,?_,by simp⟩;rw[List.mem_flatMap]
  obtain⟨x,hx⟩:∃x,p.rc (at_ En.o es i).f.r=x:=⟨_,rfl⟩
  rw[hx] at c;refine⟨x,?_,c⟩;unfold Rp.rc rc at hx;by_cases hl:(at_ En.o es i).f.r.toNat<p.v.rs.length
  ·rw[←hx];exact at_mem Rc.o _ _ hl
  ·rw[zob _ _ _ (by omega)] at hx;rw[←hx] at c;cases c
 ·have hi:=List.mem_range.1 hi;have hj:=List.mem_range.1 hj;simp only[decide_eq_true_eq] at h1 h2
  have hnn:(at_ En.o es i).n=(at_ En.o es j).n:=by
   have:=h1.symm.trans h2;simp only[Nm.mk.injEq] at this;exact this.2
  unfold Pws at hpw;rw[List.pairwise_iff_getElem] at hpw;rw[zaG _ _ _ hi,zaG _ _ _ hj] at hnn
  rcases Nat.lt_trichotomy i j with c|c|c
  ·have:=hpw i j hi hj c;rw[hnn,zgo] at this;cases this
  ·exact c
  ·have:=hpw j i hj hi c;rw[hnn,zgo] at this;cases this
theorem nmErr_of {n:Nm} (h1:zaC n.d=0) (h2:zaw n.n=0):zcG n=0:=by unfold zcG;rw[if_pos h1];exact h2
theorem Rv.bring {p:Rp} (h:Rv p) (h96:p.v.rs.length≤96) {r:Nat} (hr:16≤r∧r<p.v.rs.length) (ho:own (p.rc r)=true) (h5:dir (at_ Rc.o p.v.rs 5)=true) (hm:(at_ Rc.o p.v.rs 5).es.length<700):Rv (bring p r):=by
 have hm5:(p.rc 5).es.length<700:=hm;obtain⟨_,hk⟩:=zg9 (es:=(p.rc 5).es) (r:=r) (by omega) (by omega);unfold Ck.bring;dsimp only
 generalize zbz (p.rc 5).es r 0 ((p.rc 5).es.length+1)=K at*
 have hN:zaw (zaf r K)=0:=zlM (by omega) (by omega)
 generalize zaf r K=N at*
 have hw:Rv (p.setR r {p.rc r with ns:=[⟨p.ref 5,N⟩]}):=h.setR r _ fun hrl=>by
  rw[zae] at ho⊢
  refine(h.at hrl).names ho (by omega) _ (by simp) fun n hn=> ?_
  rcases List.mem_singleton.1 hn with rfl
  exact nmErr_of (znL h h96 (r:=5) (by omega)) hN
 have hat:at_ Rc.o (p.setR r {p.rc r with ns:=[⟨p.ref 5,N⟩]}).v.rs 5=at_ Rc.o p.v.rs 5:=zau _ _ _ _ _ (by omega);have hrc:(p.setR r {p.rc r with ns:=[⟨p.ref 5,N⟩]}).rc 5=at_ Rc.o p.v.rs 5:=hat;have hln:(p.setR r {p.rc r with ns:=[⟨p.ref 5,N⟩]}).v.rs.length=p.v.rs.length:=List.length_set;exact hw.enter (by rw[hln];exact h96) (by rw[hln];exact hr.2) (by decide) (by rw[hrc];exact h5) (by rw[hrc];show _<700;exact hm) hN
theorem orphans_rv {p:Rp} (hv:Rv p) (h:Fit5 p) (h96:p.v.rs.length≤96) (h5:dir (at_ Rc.o p.v.rs 5)=true):Rv (orphans p):=by
 have key:∀k,k≤p.v.rs.length-16→Fit5 (it (fun q j=>if own (q.rc (16+j:Nat)) then zaz q (16+j) else q) p k)∧Rv (it (fun q j=>if own (q.rc (16+j:Nat)) then zaz q (16+j) else q) p k)∧Kp p (it (fun q j=>if own (q.rc (16+j:Nat)) then zaz q (16+j) else q) p k):=by
  refine zaJ (I:=fun k q=>Fit5 q∧Rv q∧Kp p q) (fun s k hk ⟨a1,a2,a3⟩=> ?_) ⟨h,hv,Kp.refl p⟩
  have hs96:s.v.rs.length≤96:=by rw[a3.2.2.2];exact h96
  have hs5:dir (at_ Rc.o s.v.rs 5)=true:=by rw[a3.2.1.dir];exact h5
  have hes:(at_ Rc.o s.v.rs 5).es.length≤640:=Nat.le_trans (zlv a1 5) (zgP a2 hs96);split
  ·rename_i ho;unfold zaz;split
   ·rename_i h0;rw[zae] at h0;have hn:Kp s (s.note 6 (16+k:Nat) 0):=(Kp.refl s).of_v rfl
    have hil:16≤16+k∧16+k<(s.note 6 (16+k:Nat) 0).v.rs.length:=⟨by omega,by show 16+k<s.v.rs.length;rw[a3.2.2.2];omega⟩
    refine⟨?_,?_,a3.trans (hn.bring _)⟩
    ·exact((a1.of_v (q:=s.note 6 (16+k:Nat) 0) rfl).fx (r:=16+k) (List.eq_nil_of_length_eq_zero h0)).bring hil hs96 ho hs5 (by show(at_ Rc.o s.v.rs 5).es.length<9000;omega)
    ·exact(a2.of_v (q:=s.note 6 (16+k:Nat) 0) rfl).bring hs96 hil ho hs5 (by show(at_ Rc.o s.v.rs 5).es.length<700;omega)
   ·exact⟨a1,a2,a3⟩
  ·exact⟨a1,a2,a3⟩
 exact(key _ (Nat.le_refl _)).2.1
theorem cycleR_rv {p:Rp} (h:Fit5 p) (hv:Rv p) (h96:p.v.rs.length≤96) (h5:dir (at_ Rc.o p.v.rs 5)=true) {j:Nat} (hj:16+j<p.v.rs.length):Rv (cycleR p j):=by
 unfold cycleR;split
 ·rename_i hc;simp only[Bool.and_eq_true] at hc;have hd:=hc.1;rw[zae] at hd⊢
  obtain⟨q,hq⟩:∃q,p.note 7 (16+j:Nat) 0=q:=⟨_,rfl⟩
  have hqv:q.v=p.v:=by rw[←hq];rfl
  have hfit:Fit5 q:=h.of_v hqv;have hqr:Rv q:=hv.of_v (by rw[hqv]);obtain⟨_,hkp⟩:=zlC hfit (16+j);rw[hq];rw[show at_ Rc.o p.v.rs (16+j)=at_ Rc.o q.v.rs (16+j) by rw[hqv]]
  have hw:∀k,Rv (it (fun q' k=>drop q' (16+j) (at_ Nm.o (at_ Rc.o q.v.rs (16+j)).ns k)) q k)∧(at_ Rc.o (it (fun q' k=>drop q' (16+j) (at_ Nm.o (at_ Rc.o q.v.rs (16+j)).ns k)) q k).v.rs 5).es.length≤640:=
   zaQ (I:=fun w:Rp=>Rv w∧(at_ Rc.o w.v.rs 5).es.length≤640) (fun s k hs=>⟨hs.1.drop _ _,by
    rw[zfs];split
    ·exact Nat.le_trans (List.length_filter_le _ _) hs.2
    ·exact hs.2⟩) ⟨hqr,Nat.le_trans (zlv hfit 5) (zgP hqr (by rw[hqv];exact h96))⟩
  obtain⟨g1,g2⟩:=hw (at_ Rc.o q.v.rs (16+j)).ns.length
  generalize it (fun q' k=>drop q' (16+j) (at_ Nm.o (at_ Rc.o q.v.rs (16+j)).ns k)) q (at_ Rc.o q.v.rs (16+j)).ns.length=w at*
  refine g1.bring (by rw[hkp.2.2.2,hqv];exact h96) ⟨by omega,by rw[hkp.2.2.2,hqv];exact hj⟩ ?_ (by rw[hkp.2.1.dir,hqv];exact h5) (by omega);rw[zae,zbE hkp,hqv];unfold dir at hd;simp only[Bool.and_eq_true,beq_iff_eq] at hd;unfold own;rw[hd.1,hd.2];rfl
 ·exact hv
theorem cyclesR_rv {p:Rp} {L:Nat} (h:Fit5 p) (hv:Rv p) (h96:p.v.rs.length≤96) (hL:EsL L p) (hl:L≤7000) (h5:dir (at_ Rc.o p.v.rs 5)=true):Rv (cyclesR p):=by
 have key:∀k,k≤p.v.rs.length-16→(Fit5 (it cycleR p k)∧EsL (L+k) (it cycleR p k)∧Kp p (it cycleR p k))∧Rv (it cycleR p k):=by
  refine zaJ (I:=fun k q=>(Fit5 q∧EsL (L+k) q∧Kp p q)∧Rv q) (fun s k hk ⟨⟨a1,a2,a3⟩,a4⟩=>⟨⟨?_,zjN a2 k,a3.trans (Kp.cycleR s k)⟩,?_⟩) ⟨⟨h,hL,Kp.refl p⟩,hv⟩
  ·exact zhM a1 (by rw[a3.2.2.2];exact h96) a2 (by omega) (by rw[a3.2.1.dir];exact h5) (by rw[a3.2.2.2];omega)
  ·exact cycleR_rv a1 a4 (by rw[a3.2.2.2];exact h96) (by rw[a3.2.1.dir];exact h5) (by rw[a3.2.2.2];omega)
 exact(key _ (Nat.le_refl _)).2
def Ks (p q:Rp):Prop:=Kp p q∧Kn p q∧∀d,(at_ Rc.o q.v.rs d).es.map (fun e=>(e.n,e.f))=(at_ Rc.o p.v.rs d).es.map (fun e=>(e.n,e.f))
theorem Ks.refl (p:Rp):Ks p p:=⟨Kp.refl p,fun _=>rfl,fun _=>rfl⟩
theorem Ks.mem {p q:Rp} (h:Ks p q) {d:Nat} {e:En} (he:e∈(at_ Rc.o q.v.rs d).es):∃e'∈(at_ Rc.o p.v.rs d).es,e'.n=e.n∧e'.f=e.f:=by
 have:(e.n,e.f)∈(at_ Rc.o p.v.rs d).es.map (fun e=>(e.n,e.f)):=by rw[←h.2.2 d];exact List.mem_map.2 ⟨e,he,rfl⟩
 obtain⟨e',h1,h2⟩:=List.mem_map.1 this;simp only[Prod.mk.injEq] at h2;exact⟨e',h1,h2.1,h2.2⟩
theorem Ks.mem' {p q:Rp} (h:Ks p q) {d:Nat} {e:En} (he:e∈(at_ Rc.o p.v.rs d).es):∃e'∈(at_ Rc.o q.v.rs d).es,e'.n=e.n∧e'.f=e.f:=by
 have:(e.n,e.f)∈(at_ Rc.o q.v.rs d).es.map (fun e=>(e.n,e.f)):=by rw[h.2.2 d];exact List.mem_map.2 ⟨e,he,rfl⟩
 obtain⟨e',h1,h2⟩:=List.mem_map.1 this;simp only[Prod.mk.injEq] at h2;exact⟨e',h1,h2.1,h2.2⟩
theorem pws_map {a b:List En} (h:a.map (fun e=>(e.n,e.f))=b.map (fun e=>(e.n,e.f))) (hb:Pws b):Pws a:=by
 have h2:∀l:List En,Pws l↔(l.map (fun e=>(e.n,e.f))).Pairwise (fun x y=>same x.1 y.1=false):=fun l=>by
  unfold Pws;rw[List.pairwise_map]
 rw[h2] at hb⊢;rw[h];exact hb
theorem Fit5.ks {p q:Rp} (h:Fit5 p) (g:Ks p q):Fit5 q:=by
 refine⟨fun d e he=> ?_,fun d=>pws_map (g.2.2 d) (h.pw d),fun d hd=> ?_,fun j=>⟨fun m hm=> ?_,fun hk=> ?_⟩⟩
 ·obtain⟨e',h1,h2,h3⟩:=g.mem he;have:=(h.en d e' h1).of g.1 g.2.1;unfold Eo at this⊢;rw[h2,h3] at this;exact this
 ·rw[g.1.2.1.dir] at hd;have:=h.e0 d hd;have h2:=g.2.2 d;rw[this] at h2;exact List.map_eq_nil_iff.1 h2
 ·rw[g.2.1] at hm;obtain⟨a,e,b,c,d⟩:=(h.nk j).1 m hm;obtain⟨e',h1,h2,h3⟩:=g.mem' (d:=m.d.r.toNat) b;exact⟨by rw[zid g.1];exact a,e',h1,by rw[h3,g.1.2.1.ref];exact c,by rw[h2];exact d⟩
 ·rw[g.2.1];exact(h.nk j).2 (by rw[←(g.1.2.1 j).2.1];exact hk)
theorem Ks.setR {p q:Rp} (h:Ks p q) (i:Nat) (x:Rc) (hx:(x.u=(at_ Rc.o q.v.rs i).u∧x.k=(at_ Rc.o q.v.rs i).k∧x.q=(at_ Rc.o q.v.rs i).q)∧x.ss=(at_ Rc.o q.v.rs i).ss) (hn:x.ns=(at_ Rc.o q.v.rs i).ns) (he:x.es.map (fun e=>(e.n,e.f))=(at_ Rc.o q.v.rs i).es.map (fun e=>(e.n,e.f))):Ks p (q.setR i x):=by
 have hat:∀j,at_ Rc.o (q.setR i x).v.rs j=if i=j∧j<q.v.rs.length then x else at_ Rc.o q.v.rs j:=fun j=>zbc _ _ _ _ _
 refine⟨h.1.setR i x hx,fun j=> ?_,fun d=> ?_⟩
 ·rw[hat];split
  ·rename_i c;obtain⟨rfl,_⟩:=c;exact hn.trans (h.2.1 i)
  ·exact h.2.1 j
 ·rw[hat];split
  ·rename_i c;obtain⟨rfl,_⟩:=c;exact he.trans (h.2.2 i)
  ·exact h.2.2 d
theorem Ks.of_v {p q r:Rp} (h:Ks p q) (hv:r.v=q.v):Ks p r:=by
 refine⟨h.1.of_v hv,?_,?_⟩
 ·unfold Kn;rw[hv];exact h.2.1
 ·rw[hv];exact h.2.2
theorem Ks.links (p:Rp):Ks p (links p):=zaQ (I:=fun q:Rp=>Ks p q) (fun s k hs=>by
 split
 ·unfold link1;split
  ·exact(hs.of_v (r:=s.note 8 (16+k:Nat) 0) rfl).setR _ _ (by rw[zae];exact⟨⟨rfl,rfl,rfl⟩,rfl⟩) (by rw[zae];rfl) (by rw[zae];rfl)
  ·exact hs
 ·exact hs) (Ks.refl p) _
theorem map_set_same {α β:Type} (f:α→β) (o:α) (l:List α) (k:Nat) (x:α) (h:k<l.length→f x=f (at_ o l k)):(l.set k x).map f=l.map f:=by
 by_cases hk:k<l.length
 ·rw[List.map_set,h hk,zaG _ _ _ hk];apply List.ext_getElem
  ·simp
  ·intro i h1 h2;rw[List.getElem_set];split
   ·rename_i e;subst e;simp
   ·rfl
 ·rw[List.set_eq_of_length_le (by omega)]
theorem Ks.sizes (p:Rp):Ks p (sizes p):=zaQ (I:=fun q:Rp=>Ks p q) (fun s i hs=>by
 unfold zak;split
 ·exact zaQ (I:=fun q:Rp=>Ks p q) (fun t k ht=>by
   unfold sizeStep;dsimp only;split
   ·exact(ht.of_v (r:=t.note 9 i k) rfl).setR _ _ (by rw[zae];exact⟨⟨rfl,rfl,rfl⟩,rfl⟩) (by rw[zae];rfl) (by
     rw[zae]
     exact map_set_same _ En.o _ _ _ fun _=>rfl)
   ·exact ht) hs _
 ·exact hs) (Ks.refl p) _
theorem Rv.of {v:Pt} (he:partsErr v=0):Rv ⟨v,[],[]⟩:=fun i hi=>RecOk.of ((Valid.of he).rcs i hi)
theorem Rv.e0 {p:Rp} (h:Rv p):E0 p:=fun d hd=>by
 by_cases hl:d<p.v.rs.length
 ·exact(h.at hl).noents hd
 ·rw[zob _ _ _ (by omega)];rfl
theorem zlB {v:Pt} (he:partsErr v=0):0≤at_ 0 v.ds 0∧at_ 0 v.ds 0≤2147483647:=by
 have hw:za1 v=0:=zaX he _ (by simp);have h2:=zaX hw;have a4:=h2 (goE (zbb v.ds) v.ds.length) (by simp);have hl:=(zcT he).1;have h3:=zdu _ _ a4 0 (by omega);unfold zbb at h3;split at h3
 ·rename_i h4;unfold wi at h4;simp only[Bool.and_eq_true,decide_eq_true_eq] at h4;omega
 ·omega
noncomputable def rep9 (v:Pt):Rp:=sizes (links (cyclesR (orphans (badNames (badEntries (descriptors (badRuns (lostParts ⟨v,[],[]⟩))))))))
theorem zgt (v:Pt):zai v=bits (rep9 v):=rfl
theorem rep9_fit {v:Pt} (hf:FitP v) (he:partsErr v=0):Rv (rep9 v)∧Fit5 (rep9 v):=by
 have hps:=passes (Ready.of hf he);have h0:=Rv.of he;have hds:=zlB he;unfold rep9;have h1:=h0.lost;have h2:=h1.badRuns;have w2:(badRuns (lostParts ⟨v,[],[]⟩)).v.ds=v.ds:=hps.w2
 generalize hp2:badRuns (lostParts ⟨v,[],[]⟩)=p2 at*
 have h3:=h2.descriptors (by rw[w2];exact hds)
 generalize hp3:descriptors p2=p3 at*
 have h4:=h3.badEntries;obtain⟨e1,e2,_⟩:=ze2 h3;have n4:=hps.f4.1.rf.n
 generalize hp4:badEntries p3=p4 at*
 have h96:=(Ready.of hf he).n.2;have h5:=h4.badNames (by omega);have f5:=zjm h4 e1 e2 h4.e0;have l5:=hps.f5.2.2;have n5:=hps.f5.1.rf.n;have l6:=hps.f6.2.2.1;have d6:=hps.f6.2.2.2;have n6:=hps.f6.1.rf.n
 generalize hp5:badNames p4=p5 at*
 have kp:=Kp.orphans p5
 have d5:dir (at_ Rc.o p5.v.rs 5)=true:=by rw[←kp.2.1.dir];exact d6
 have h6:=orphans_rv h5 f5 (by omega) d5;have f6:=orphans_fit f5 (by omega) l5 (by omega) d5
 generalize hp6:orphans p5=p6 at*
 have h7:=cyclesR_rv f6 h6 (by omega) l6 (by omega) d6;have f7:=cyclesR_fit f6 (by omega) l6 (by omega) d6
 generalize hp7:cyclesR p6=p7 at*
 exact⟨h7.links.sizes,(f7.ks (Ks.links p7)).ks (Ks.sizes _)⟩
def Nf (p:Rp):Prop:=∀j,16≤j→j<p.v.rs.length→own (at_ Rc.o p.v.rs j)=true→(at_ Rc.o p.v.rs j).ns≠[]
theorem zim {p:Rp} {r:Nat} (hr:r<p.v.rs.length) (j:Nat):(at_ Rc.o (bring p r).v.rs j).ns=if r=j then [⟨p.ref 5,zaf r (zbz (p.rc 5).es r 0 ((p.rc 5).es.length+1))⟩] else(at_ Rc.o p.v.rs j).ns:=by
 unfold bring;dsimp only;rw[zil];show(at_ Rc.o (p.v.rs.set r _) j).ns=_;rw[zbc];by_cases e:r=j
 ·subst e;rw[if_pos ⟨rfl,hr⟩,if_pos rfl]
 ·rw[if_neg (fun c=>e c.1),if_neg e]
theorem orphans_nf (p:Rp):Nf (orphans p):=by
 have key:∀k,k≤p.v.rs.length-16→(∀j,16≤j→j<16+k→own (at_ Rc.o p.v.rs j)=true→(at_ Rc.o (it (fun q j=>if own (q.rc (16+j:Nat)) then zaz q (16+j) else q) p k).v.rs j).ns≠[])∧Kp p (it (fun q j=>if own (q.rc (16+j:Nat)) then zaz q (16+j) else q) p k):=by
  refine zaJ (I:=fun k q=>(∀j,16≤j→j<16+k→own (at_ Rc.o p.v.rs j)=true→(at_ Rc.o q.v.rs j).ns≠[])∧Kp p q) (fun s k hk ⟨a1,a2⟩=> ?_) ⟨fun j h1 h2=>by omega,Kp.refl p⟩;split
  ·rename_i ho;unfold zaz;split
   ·have hn:Kp s (s.note 6 (16+k:Nat) 0):=(Kp.refl s).of_v rfl;refine⟨fun j h1 h2 h3=> ?_,a2.trans (hn.bring _)⟩;rw[zim (by show 16+k<s.v.rs.length;rw[a2.2.2.2];omega)];split
    ·simp
    ·rename_i e;exact a1 j h1 (by omega) h3
   ·rename_i h0;refine⟨fun j h1 h2 h3 c=> ?_,a2⟩;by_cases e:j=16+k
    ·subst e;exact h0 (by rw[zae,c];rfl)
    ·exact a1 j h1 (by omega) h3 c
  ·rename_i ho;refine⟨fun j h1 h2 h3=> ?_,a2⟩;by_cases e:j=16+k
   ·subst e;exact absurd (by rw[zae,zbE a2];exact h3) ho
   ·exact a1 j h1 (by omega) h3
 obtain⟨h1,h2⟩:=key _ (Nat.le_refl _);intro j hj hl ho
 have hl2:j<p.v.rs.length:=by
  have:(orphans p).v.rs.length=p.v.rs.length:=h2.2.2.2;omega
 exact h1 j hj (by omega) (by rw[←zbE h2];exact ho)
theorem ns_drops {q:Rp} {r:Nat} {l:List Nm} (j:Nat):∀k,(at_ Rc.o (it (fun q k=>drop q r (at_ Nm.o l k)) q k).v.rs j).ns=(at_ Rc.o q.v.rs j).ns:=
 zaQ (I:=fun w:Rp=>(at_ Rc.o w.v.rs j).ns=(at_ Rc.o q.v.rs j).ns) (fun s k hs=>(zkd j).trans hs) rfl
theorem zjh {p:Rp} {j:Nat} (hj:16+j<p.v.rs.length) (i:Nat):(at_ Rc.o (cycleR p j).v.rs i).ns=(at_ Rc.o p.v.rs i).ns∨(at_ Rc.o (cycleR p j).v.rs i).ns.length=1:=by
 unfold cycleR;split
 ·have hkp:∀k,Kp (p.note 7 (16+j:Nat) 0) (it (fun q k=>drop q (16+j) (at_ Nm.o (p.rc (16+j:Nat)).ns k)) (p.note 7 (16+j:Nat) 0) k):=Kp.it (g:=id) (fun(s:Rp) k=>show Kp s (Ck.drop s (16+j) (at_ Nm.o (p.rc (16+j:Nat)).ns k)) from(Kp.refl s).drop _ _) _;rw[zim (by rw[(hkp _).2.2.2];exact hj)];split
  ·exact .inr rfl
  ·exact .inl (ns_drops i _)
 ·exact .inl rfl
theorem cyclesR_nf {p:Rp} (h:Nf p):Nf (cyclesR p):=by
 have key:∀k,k≤p.v.rs.length-16→Nf (it cycleR p k)∧Kp p (it cycleR p k):=by
  refine zaJ (I:=fun k q=>Nf q∧Kp p q) (fun s k hk ⟨a1,a2⟩=>⟨fun j h1 h2 h3 c=> ?_,a2.trans (Kp.cycleR s k)⟩) ⟨h,Kp.refl p⟩;have hkp:=Kp.cycleR s k
  rcases zjh (p:=s) (j:=k) (by rw[a2.2.2.2];omega) j with e|e
  ·rw[e] at c;exact a1 j h1 (by rw[←hkp.2.2.2];exact h2) (by rw[←zbE hkp];exact h3) c
  ·rw[c] at e;cases e
 exact(key _ (Nat.le_refl _)).1
def Lk (p:Rp):Prop:=∀j,16≤j→j<p.v.rs.length→own (at_ Rc.o p.v.rs j)=true→(at_ Rc.o p.v.rs j).ln=(at_ Rc.o p.v.rs j).ns.length
theorem link1_at {p:Rp} {i:Nat} (hi:i<p.v.rs.length) (j:Nat):at_ Rc.o (link1 p i).v.rs j=if i=j then{at_ Rc.o p.v.rs j with ln:=(at_ Rc.o p.v.rs j).ns.length} else at_ Rc.o p.v.rs j:=by
 unfold link1;by_cases h:(p.rc i).ln≠(p.rc i).ns.length
 ·rw[if_pos h];show at_ Rc.o (p.v.rs.set i _) j=_;rw[zbc];by_cases e:i=j
  ·subst e;rw[if_pos ⟨rfl,hi⟩,if_pos rfl,zae]
  ·rw[if_neg (fun c=>e c.1),if_neg e]
 ·rw[if_neg h];by_cases e:i=j
  ·subst e;rw[if_pos rfl];rw[zae] at h;have h:=Decidable.not_not.1 h;rw[←h]
  ·rw[if_neg e]
theorem link1_kp (q:Rp) (i:Nat):Kp q (link1 q i):=by
 unfold link1;split
 ·exact((Kp.refl q).of_v (r:=q.note 8 i 0) rfl).setR i _ (by rw[zae];exact⟨⟨rfl,rfl,rfl⟩,rfl⟩)
 ·exact Kp.refl q
theorem links_lk (p:Rp):Lk (links p):=by
 have key:∀k,k≤p.v.rs.length-16→(∀j,16≤j→j<16+k→own (at_ Rc.o p.v.rs j)=true→(at_ Rc.o (it (fun q j=>if own (q.rc (16+j:Nat)) then link1 q (16+j) else q) p k).v.rs j).ln=(at_ Rc.o (it (fun q j=>if own (q.rc (16+j:Nat)) then link1 q (16+j) else q) p k).v.rs j).ns.length)∧Kp p (it (fun q j=>if own (q.rc (16+j:Nat)) then link1 q (16+j) else q) p k):=by
  refine zaJ (I:=fun k q=>(∀j,16≤j→j<16+k→own (at_ Rc.o p.v.rs j)=true→(at_ Rc.o q.v.rs j).ln=(at_ Rc.o q.v.rs j).ns.length)∧Kp p q) (fun s k hk ⟨a1,a2⟩=> ?_) ⟨fun j h1 h2=>by omega,Kp.refl p⟩;split
  ·rename_i ho;refine⟨fun j h1 h2 h3=> ?_,a2.trans (link1_kp s _)⟩;rw[link1_at (by rw[a2.2.2.2];omega)];split
   ·rfl
   ·exact a1 j h1 (by omega) h3
  ·rename_i ho;refine⟨fun j h1 h2 h3=> ?_,a2⟩;by_cases e:j=16+k
   ·subst e;exact absurd (by rw[zae,zbE a2];exact h3) ho
   ·exact a1 j h1 (by omega) h3
 obtain⟨h1,h2⟩:=key _ (Nat.le_refl _);intro j hj hl ho
 have hl2:j<p.v.rs.length:=by
  have:(links p).v.rs.length=p.v.rs.length:=h2.2.2.2;omega
 exact h1 j hj (by omega) (by rw[←zbE h2];exact ho)
theorem zi6 {p q:Rp} (h:Kp p q) (i:Int):sizeOf (q.rc i)=sizeOf (p.rc i):=by
 unfold sizeOf Rp.rc rc;rw[(h.2.1 _).2.1,h.2.2.1]
def Sd (p:Rp) (d n:Nat):Prop:=∀k,k<n→k<(at_ Rc.o p.v.rs d).es.length→right p.v (at_ En.o (at_ Rc.o p.v.rs d).es k).f=true→(at_ En.o (at_ Rc.o p.v.rs d).es k).z=sizeOf (p.rc (at_ En.o (at_ Rc.o p.v.rs d).es k).f.r)
theorem Kp.sizeStep (s:Rp) (i k:Nat):Kp s (sizeStep i s k):=by
 unfold Ck.sizeStep;dsimp only;split
 ·exact((Kp.refl s).of_v (r:=s.note 9 i k) rfl).setR i _ (by rw[zae];exact⟨⟨rfl,rfl,rfl⟩,rfl⟩)
 ·exact Kp.refl s
theorem zd8 {s:Rp} {i k:Nat} (hi:i<s.v.rs.length) (j:Nat):(at_ Rc.o (sizeStep i s k).v.rs j).es=if i=j∧right s.v (at_ En.o (at_ Rc.o s.v.rs i).es k).f=true then(at_ Rc.o s.v.rs j).es.set k {at_ En.o (at_ Rc.o s.v.rs i).es k with z:=sizeOf (s.rc (at_ En.o (at_ Rc.o s.v.rs i).es k).f.r)} else(at_ Rc.o s.v.rs j).es:=by
 unfold sizeStep;dsimp only;rw[zae]
 obtain⟨x,hx⟩:∃x,at_ En.o (at_ Rc.o s.v.rs i).es k=x:=⟨_,rfl⟩
 rw[hx];by_cases hr:right s.v x.f=true
 ·by_cases hz:x.z=sizeOf (s.rc x.f.r)
  ·rw[if_neg (by rw[hr,hz];simp)];split
   ·rename_i c;obtain⟨rfl,_⟩:=c;rw[←hz];by_cases hk:k<(at_ Rc.o s.v.rs i).es.length
    ·rw[zaG _ _ _ hk] at hx;rw[←hx];exact(List.set_getElem_self hk).symm
    ·rw[List.set_eq_of_length_le (by omega)]
   ·rfl
  ·rw[if_pos (by rw[hr];simpa using hz)];show(at_ Rc.o (s.v.rs.set i _) j).es=_;rw[zbc];by_cases e:i=j
   ·subst e;rw[if_pos ⟨rfl,hi⟩,if_pos ⟨rfl,hr⟩]
   ·rw[if_neg (fun c=>e c.1),if_neg (fun c=>e c.1)]
 ·rw[if_neg (by simp[hr]),if_neg (fun c=>hr c.2)]
theorem sizes_sd (p:Rp):∀d,dir (at_ Rc.o p.v.rs d)=true→d<p.v.rs.length→∀n,Sd (sizes p) d n:=by
 have inner:∀(s:Rp) (i:Nat),i<s.v.rs.length→∀k,Kp s (it (sizeStep i) s k)∧Sd (it (sizeStep i) s k) i k∧∀j,j≠i→(at_ Rc.o (it (sizeStep i) s k).v.rs j).es=(at_ Rc.o s.v.rs j).es:=by
  intro s i hi k
  induction k with
  |zero=>exact⟨Kp.refl s,fun k hk=>absurd hk (Nat.not_lt_zero _),fun _ _=>rfl⟩
  |succ k ih=>
   obtain⟨h1,h2,h3⟩:=ih;show Kp s (sizeStep i (it (sizeStep i) s k) k)∧Sd (sizeStep i (it (sizeStep i) s k) k) i (k+1)∧∀j,j≠i→(at_ Rc.o (sizeStep i (it (sizeStep i) s k) k).v.rs j).es=(at_ Rc.o s.v.rs j).es
   generalize it (sizeStep i) s k=t at*
   have hti:i<t.v.rs.length:=by rw[h1.2.2.2];exact hi
   have hk:=Kp.sizeStep t i k;refine⟨h1.trans hk,fun m hm hl hr=> ?_,fun j hj=> ?_⟩
   ·rw[zi6 hk];rw[hk.2.1.right hk.2.2.2] at hr;rw[zd8 hti] at hl hr⊢;split at hl
    ·rename_i c;rw[if_pos c] at hr⊢;rw[List.length_set] at hl;rw[zbc] at hr⊢;by_cases e:k=m
     ·subst e;rw[if_pos ⟨rfl,hl⟩]
     ·rw[if_neg (fun x=>e x.1)] at hr⊢;exact h2 m (by omega) hl hr
    ·rename_i c;rw[if_neg c] at hr⊢;by_cases e:k=m
     ·subst e;exact absurd ⟨rfl,hr⟩ c
     ·exact h2 m (by omega) hl hr
   ·rw[zd8 hti,if_neg (fun c=>hj c.1.symm)];exact h3 j hj
 have key:∀k,k≤p.v.rs.length→Kp p (it zak p k)∧∀d,d<k→dir (at_ Rc.o p.v.rs d)=true→∀n,Sd (it zak p k) d n:=by
  refine zaJ (I:=fun k q=>Kp p q∧∀d,d<k→dir (at_ Rc.o p.v.rs d)=true→∀n,Sd q d n) (fun s i hi ⟨h1,h2⟩=> ?_) ⟨Kp.refl p,fun d hd=>absurd hd (Nat.not_lt_zero _)⟩;unfold zak;split
  ·rename_i hd
   have hsi:i<s.v.rs.length:=by rw[h1.2.2.2];exact hi
   obtain⟨g1,g2,g3⟩:=inner s i hsi (s.rc i).es.length
   have hlen:(at_ Rc.o (it (sizeStep i) s (s.rc i).es.length).v.rs i).es.length=(s.rc i).es.length:=by
    have:∀k,(at_ Rc.o (it (sizeStep i) s k).v.rs i).es.length=(at_ Rc.o s.v.rs i).es.length:=by
     intro k
     induction k with
     |zero=>rfl
     |succ k ih=>
      show(at_ Rc.o (sizeStep i (it (sizeStep i) s k) k).v.rs i).es.length=_;have hl:=(inner s i hsi k).1.2.2.2;rw[zd8 (by rw[hl];exact hsi)];split
      ·rw[List.length_set];exact ih
      ·exact ih
    rw[this,zae]
   generalize it (sizeStep i) s (s.rc i).es.length=t at*
   refine⟨h1.trans g1,fun d hdk hdir n=> ?_⟩;by_cases e:d=i
   ·subst e
    exact fun m _ hl hr=>g2 m (by omega) hl hr
   ·intro m hm hl hr;rw[zi6 g1];rw[g1.2.1.right g1.2.2.2] at hr;rw[g3 d e] at hl hr⊢;exact h2 d (by omega) hdir n m hm hl hr
  ·rename_i hd;refine⟨h1,fun d hdk hdir n=> ?_⟩;by_cases e:d=i
   ·subst e;exact absurd (by rw[zae,h1.2.1.dir];exact hdir) hd
   ·exact h2 d (by omega) hdir n
 intro d hd hl n;exact(key _ (Nat.le_refl _)).2 d hl hd n
theorem zeR {S:Type} {f:S→Nat→S} {s:S} {n:Nat} (h:∀k,k<n→f s k=s):∀k,k≤n→it f s k=s
 |0,_=>rfl
 |k+1,hk=>by
  show f (it f s k) k=s;rw[zeR h k (by omega)];exact h k (by omega)
theorem zhc {f:Rp→Nat→Rp} {p:Rp} (h:∀j,16≤j→j<p.v.rs.length→own (at_ Rc.o p.v.rs j)=true→f p j=p):below f p=p:=
 zeR (n:=p.v.rs.length-16) (fun k hk=>by
  split
  ·rename_i ho;rw[zae] at ho;exact h (16+k) (by omega) (by omega) ho
  ·rfl) _ (Nat.le_refl _)
theorem links_fix {p:Rp} (h:Lk p):links p=p:=zhc fun j h1 h2 h3=>by
 unfold link1;rw[zae,if_neg (fun c=>c (h j h1 h2 h3))]
theorem orphans_fix {p:Rp} (h:Nf p):orphans p=p:=zhc fun j h1 h2 h3=>by
 unfold zaz;rw[zae,if_neg (fun c=>h j h1 h2 h3 (List.eq_nil_of_length_eq_zero c))]
theorem sizes_fix {p:Rp} (h:∀d,dir (at_ Rc.o p.v.rs d)=true→d<p.v.rs.length→∀n,Sd p d n):sizes p=p:=
 zeR (n:=p.v.rs.length) (fun i hi=>by
  unfold zak;split
  ·rename_i hd;refine zeR (n:=(p.rc i).es.length) (fun k hk=> ?_) _ (Nat.le_refl _);unfold sizeStep;dsimp only;rw[zae] at hd hk⊢;by_cases hr:right p.v (at_ En.o (at_ Rc.o p.v.rs i).es k).f=true
   ·have:=h i hd hi (k+1) k (by omega) hk hr;rw[if_neg (by rw[hr,this];simp)]
   ·rw[if_neg (by simp[hr])]
  ·rfl) _ (Nat.le_refl _)
theorem descriptors_fix {p:Rp} (h:∀j,j<p.v.rs.length→own (at_ Rc.o p.v.rs j)=true→(at_ Rc.o p.v.rs j).ds∈p.v.ds):descriptors p=p:=
 zeR (n:=p.v.rs.length) (fun i hi=>by
  unfold zao;dsimp only;rw[zae];by_cases ho:own (at_ Rc.o p.v.rs i)=true
  ·have:=h i hi ho;rw[if_neg (by simp[this])]
  ·rw[if_neg (by simp[ho])]) _ (Nat.le_refl _)
theorem lost_fix {p:Rp} (h:∀j,j<p.v.rs.length→(at_ Rc.o p.v.rs j).u=true→(at_ Rc.o p.v.rs j).k=3→right p.v (at_ Rc.o p.v.rs j).b=true):lostParts p=p:=
 zeR (n:=p.v.rs.length) (fun i hi=>by
  unfold zam;dsimp only;rw[zae];by_cases hu:(at_ Rc.o p.v.rs i).u=true
  ·by_cases hk:(at_ Rc.o p.v.rs i).k=3
   ·have:=h i hi hu hk;rw[if_neg (by simp[this])]
   ·rw[if_neg (by simp[hk])]
  ·rw[if_neg (by simp[hu])]) _ (Nat.le_refl _)
theorem zgn {p:Rp} {i:Nat} (hi:i<p.v.rs.length):p.setR i (at_ Rc.o p.v.rs i)=p:=by
 unfold Rp.setR;rw[zaG _ _ _ hi,List.set_getElem_self]
theorem badEntries_fix {p:Rp} (hE:EnOk p) (hP:Pw p):badEntries p=p:=
 zeR (n:=p.v.rs.length) (fun i hi=>by
  unfold zac;split
  ·have key:∀k,k≤(p.rc i).es.length→it (entryStep i (p.rc i).es) (p,[]) k=(p,(p.rc i).es.take k):=by
    intro k
    induction k with
    |zero=>intro _;rfl
    |succ k ih=>
     intro hk;show entryStep i (p.rc i).es (it (entryStep i (p.rc i).es) (p,[]) k) k=_;rw[ih (by omega)];unfold entryStep;dsimp only;have hx:=zae p i
     have hkl:k<(at_ Rc.o p.v.rs i).es.length:=by rw[←hx];omega
     have he:=hE i _ (at_mem En.o _ k hkl);have hpw:=hP i;unfold Pws at hpw;rw[List.pairwise_iff_getElem] at hpw
     have hent:isEntry p i ((p.rc i).es.take k) (at_ En.o (p.rc i).es k)=true:=by
      rw[hx];obtain⟨a,b,c⟩:=he;unfold isEntry
      have hany:((at_ Rc.o p.v.rs i).es.take k).any (fun y=>same (at_ En.o (at_ Rc.o p.v.rs i).es k).n y.n)=false:=by
       rw[List.any_eq_false];intro y hy;obtain⟨j,hj,rfl⟩:=List.getElem_of_mem hy;rw[List.getElem_take]
       have hj2:j<k:=by rw[List.length_take] at hj;omega
       have:=hpw j k (by omega) hkl hj2;rw[zaG _ _ _ hkl,zes,this];decide
      rw[hany,a]
      have hc:(p.rc (at_ En.o (at_ Rc.o p.v.rs i).es k).f.r).ns.contains ⟨p.ref i,(at_ En.o (at_ Rc.o p.v.rs i).es k).n⟩=true:=by simpa using c
      rw[hc];simp[b]
     rw[if_pos hent,zcz En.o _ k (by rw[hx];exact hkl)]
   dsimp only;rw[key _ (Nat.le_refl _)];dsimp only;rw[List.take_length,zae];exact zgn hi
  ·rfl) _ (Nat.le_refl _)
def Npl (l:List Nm):Prop:=l.Pairwise fun x y=>(decide (x.d=y.d)&&same x.n y.n)=false
def Np (p:Rp):Prop:=∀j,Npl (at_ Rc.o p.v.rs j).ns
theorem Np.kn {p q:Rp} (h:Np p) (g:Kn p q):Np q:=fun j=>by rw[g j];exact h j
theorem nameStep_np {i:Nat} {all:List Nm} {s:Rp×List Nm} {k:Nat} (h:Npl s.2):Npl (nameStep i all s k).2:=by
 unfold nameStep;dsimp only;split
 ·rename_i c1;have hb:=(zgX c1).2.2;unfold Npl at h⊢;rw[List.pairwise_append];refine⟨h,List.pairwise_singleton _ _,fun a ha b hb2=> ?_⟩
  rcases List.mem_singleton.1 hb2 with rfl
  rw[List.any_eq_false] at hb;simpa using hb a ha
 ·exact h
theorem names1_np {p:Rp} {i:Nat}:Npl (it (nameStep i (p.rc i).ns) (p,[]) (p.rc i).ns.length).2:=
 zaQ (I:=fun s:Rp×List Nm=>Npl s.2) (fun _ _ h=>nameStep_np h) (s:=(p,[])) (show Npl [] from List.Pairwise.nil) _
theorem zoK {l:List Nm} (h:l.length≤1):Npl l:=by
 match l,h with
 |[],_=>exact List.Pairwise.nil
 |[x],_=>exact List.pairwise_singleton _ _
theorem names_np {p:Rp} (h:Rv p) (hE:EnOk p) (hP:Pw p) (h0:E0 p):Np (badNames p):=by
 have key:∀k,k≤p.v.rs.length-16→(EnOk (it (fun q j=>if own (q.rc (16+j:Nat)) then badNames1 q (16+j) else q) p k)∧Pw (it (fun q j=>if own (q.rc (16+j:Nat)) then badNames1 q (16+j) else q) p k)∧E0 (it (fun q j=>if own (q.rc (16+j:Nat)) then badNames1 q (16+j) else q) p k)∧Kp p (it (fun q j=>if own (q.rc (16+j:Nat)) then badNames1 q (16+j) else q) p k))∧(∀j,(j<16+k∨p.v.rs.length≤j)→Npl (at_ Rc.o (it (fun q j=>if own (q.rc (16+j:Nat)) then badNames1 q (16+j) else q) p k).v.rs j).ns)∧(∀j,16+k≤j→(at_ Rc.o (it (fun q j=>if own (q.rc (16+j:Nat)) then badNames1 q (16+j) else q) p k).v.rs j).ns=(at_ Rc.o p.v.rs j).ns):=by
  refine zaJ (I:=fun k q=>(EnOk q∧Pw q∧E0 q∧Kp p q)∧(∀j,(j<16+k∨p.v.rs.length≤j)→Npl (at_ Rc.o q.v.rs j).ns)∧(∀j,16+k≤j→(at_ Rc.o q.v.rs j).ns=(at_ Rc.o p.v.rs j).ns)) (fun s k hk ⟨⟨a1,a2,a3,a4⟩,a5,a6⟩=> ?_) ⟨⟨hE,hP,h0,Kp.refl p⟩,fun j hj=> ?_,fun _ _=>rfl⟩
  ·split
   ·rename_i ho
    have hil:16≤16+k∧16+k<s.v.rs.length:=⟨by omega,by rw[a4.2.2.2];omega⟩
    obtain⟨b1,b2,b3,_,_,b6⟩:=zhx a1 a2 a3 hil ho;refine⟨⟨b1,b2,b3,a4.trans (Kp.badNames1 s (16+k))⟩,fun j hj=> ?_,fun j hj=>by rw[b6 j (by omega)];exact a6 j (by omega)⟩;by_cases e:j=16+k
    ·subst e;have hn:=names1_np (p:=s) (i:=16+k);have hkp:=Kp.it (g:=Prod.fst) (fun(s':Rp×List Nm) j=>Kp.nameStep (16+k) (s.rc (16+k:Nat)).ns s' j (Kp.refl _)) (s,[]) (s.rc (16+k:Nat)).ns.length;unfold badNames1;dsimp only
     generalize it (nameStep (16+k) (s.rc (16+k:Nat)).ns) (s,[]) (s.rc (16+k:Nat)).ns.length=t at*
     show Npl (at_ Rc.o (t.1.v.rs.set (16+k) _) (16+k)).ns;have hkp:Kp s t.1:=hkp;rw[zbc,if_pos ⟨rfl,by rw[hkp.2.2.2];exact hil.2⟩];exact hn
    ·rw[b6 j e];exact a5 j (by omega)
   ·rename_i ho;refine⟨⟨a1,a2,a3,a4⟩,fun j hj=> ?_,fun j hj=>a6 j (by omega)⟩;by_cases e:j=16+k
    ·subst e;rw[a6 _ (Nat.le_refl _),zin h fun c=>ho (by rw[zae,zbE a4];exact c.2.2)];exact List.Pairwise.nil
    ·exact a5 j (by omega)
  ·rw[zin h fun c=>by omega];exact List.Pairwise.nil
 obtain⟨_,a5,_⟩:=key _ (Nat.le_refl _)
 exact fun j=>a5 j (by omega)
theorem orphans_np {p:Rp} (h:Np p):Np (orphans p):=by
 have key:∀k,k≤p.v.rs.length-16→Np (it (fun q j=>if own (q.rc (16+j:Nat)) then zaz q (16+j) else q) p k)∧Kp p (it (fun q j=>if own (q.rc (16+j:Nat)) then zaz q (16+j) else q) p k):=by
  refine zaJ (I:=fun k q=>Np q∧Kp p q) (fun s k hk ⟨a1,a2⟩=> ?_) ⟨h,Kp.refl p⟩;split
  ·unfold zaz;split
   ·have hn:Kp s (s.note 6 (16+k:Nat) 0):=(Kp.refl s).of_v rfl;refine⟨fun j=> ?_,a2.trans (hn.bring _)⟩;rw[zim (by show 16+k<s.v.rs.length;rw[a2.2.2.2];omega)];split
    ·exact zoK (Nat.le_refl _)
    ·exact a1 j
   ·exact⟨a1,a2⟩
  ·exact⟨a1,a2⟩
 exact(key _ (Nat.le_refl _)).1
theorem cyclesR_np {p:Rp} (h:Np p):Np (cyclesR p):=by
 have key:∀k,k≤p.v.rs.length-16→Np (it cycleR p k)∧Kp p (it cycleR p k):=by
  refine zaJ (I:=fun k q=>Np q∧Kp p q) (fun s k hk ⟨a1,a2⟩=>⟨fun j=> ?_,a2.trans (Kp.cycleR s k)⟩) ⟨h,Kp.refl p⟩
  rcases zjh (p:=s) (j:=k) (by rw[a2.2.2.2];omega) j with e|e
  ·rw[e];exact a1 j
  ·exact zoK (by omega)
 exact(key _ (Nat.le_refl _)).1
theorem ixE_of {l:List En} (hP:Pws l) {e:En} (he:e∈l):∃k,ixE e.n l=some k∧at_ En.o l k=e:=by
 induction l with
 |nil=>cases he
 |cons x l ih=>
  unfold ixE;unfold Pws at hP;rw[List.pairwise_cons] at hP;by_cases hx:same x.n e.n=true
  ·rw[if_pos hx];refine⟨0,rfl,?_⟩
   rcases List.mem_cons.1 he with rfl|he
   ·rfl
   ·rw[hP.1 e he] at hx;cases hx
  ·rw[if_neg hx]
   rcases List.mem_cons.1 he with rfl|he
   ·exact absurd (zgo _) hx
   ·obtain⟨k,h1,h2⟩:=ih hP.2 he;exact⟨k+1,by rw[h1];rfl,h2⟩
theorem badNames_fix {p:Rp} (h:Fit5 p) (hn:Np p):badNames p=p:=zhc fun i h1 h2 h3=>by
 have hx:=zae p i
 have key:∀k,k≤(p.rc i).ns.length→it (nameStep i (p.rc i).ns) (p,[]) k=(p,(p.rc i).ns.take k):=by
  intro k
  induction k with
  |zero=>intro _;rfl
  |succ k ih=>
   intro hk;show nameStep i (p.rc i).ns (it (nameStep i (p.rc i).ns) (p,[]) k) k=_;rw[ih (by omega)];unfold nameStep;dsimp only
   have hkl:k<(at_ Rc.o p.v.rs i).ns.length:=by rw[←hx];omega
   obtain⟨m,hm⟩:∃m,at_ Nm.o (p.rc i).ns k=m:=⟨_,rfl⟩
   have hmm:m∈(at_ Rc.o p.v.rs i).ns:=by rw[←hm,hx];exact at_mem Nm.o _ k hkl
   obtain⟨g1,e,g2,g3,g4⟩:=(h.nk i).1 m hmm;obtain⟨j,j1,j2⟩:=ixE_of (h.pw m.d.r.toNat) g2
   have hany:((p.rc i).ns.take k).any (fun y=>decide (y.d=m.d)&&same y.n m.n)=false:=by
    rw[List.any_eq_false];intro y hy;obtain⟨a,ha,rfl⟩:=List.getElem_of_mem hy;rw[List.getElem_take]
    have ha2:a<k:=by rw[List.length_take] at ha;omega
    have hp:=hn i;unfold Npl at hp;rw[List.pairwise_iff_getElem] at hp;have:=hp a k (by omega) hkl ha2;rw[hx] at hm;rw[zaG _ _ _ hkl] at hm;rw[hm] at this
    have h5:(p.rc i).ns[a]'(by rw[hx];omega)=(at_ Rc.o p.v.rs i).ns[a]'(by omega):=by simp only[hx]
    rw[h5,this];decide
   have hone:¬((p.rc i).ns.take k≠[]∧(p.rc i).k≠1):=fun c=>by
    have:=(h.nk i).2 (by rw[←hx];exact c.2)
    have hk0:k≠0:=fun e=>c.1 (by rw[e];rfl)
    omega
   have his:isName p i ((p.rc i).ns.take k) m=(true,true):=by
    unfold isName;rw[if_pos g1,if_neg (by rw[hany];decide),if_neg hone]
    have:ixE m.n (p.rc m.d.r).es=some j:=by rw[←g4];exact j1
    rw[this];have h6:at_ En.o (p.rc m.d.r).es j=e:=j2;dsimp only;rw[h6,g3,g4];simp
   rw[hm,his,if_pos rfl,if_pos rfl,←hm];rw[zcz Nm.o _ k (by omega)]
 unfold badNames1;dsimp only;rw[key _ (Nat.le_refl _)];dsimp only;rw[List.take_length,zae];exact zgn h2
theorem drops_keep {q:Rp} {r:Nat} {l:List Nm} {d:Nat} {e:En} (he:e∈(at_ Rc.o q.v.rs d).es) (hf:e.f.r.toNat≠r):∀k,e∈(at_ Rc.o (it (fun q k=>drop q r (at_ Nm.o l k)) q k).v.rs d).es:=
 zaQ (I:=fun w:Rp=>e∈(at_ Rc.o w.v.rs d).es) (fun s k hs=>by
  rw[zfs];split
  ·rw[List.mem_filter];refine⟨hs,?_⟩
   have:e.f≠s.ref r:=fun c=>hf (by rw[c];show(((r:Nat):Int)).toNat=r;exact Int.toNat_natCast r)
   simp[this]
  ·exact hs) he
theorem es_bring {p:Rp} {r:Nat} (h5:5<p.v.rs.length) (hr5:r≠5) (j:Nat):∃z,(at_ Rc.o (bring p r).v.rs j).es=if 5=j then(at_ Rc.o p.v.rs j).es++[⟨zaf r (zbz (p.rc 5).es r 0 ((p.rc 5).es.length+1)),p.ref r,z⟩] else(at_ Rc.o p.v.rs j).es:=by
 unfold bring;dsimp only;generalize zaf r (zbz (p.rc 5).es r 0 ((p.rc 5).es.length+1))=N
 obtain⟨w,hw⟩:∃w,p.setR r {p.rc r with ns:=[⟨p.ref 5,N⟩]}=w:=⟨_,rfl⟩
 rw[hw]
 have hkw:Kp p w:=by rw[←hw];exact(Kp.refl p).setR r _ (by rw[zae];exact⟨⟨rfl,rfl,rfl⟩,rfl⟩)
 have hwes:∀j,(at_ Rc.o w.v.rs j).es=(at_ Rc.o p.v.rs j).es:=fun j=>by
  rw[←hw];show(at_ Rc.o (p.v.rs.set r _) j).es=_;rw[zbc];split
  ·rename_i e;obtain⟨rfl,_⟩:=e;rw[zae]
  ·rfl
 refine⟨sizeOf (w.rc r),?_⟩;rw[zgd (by rw[hkw.2.2.2];exact h5),hwes,hkw.2.1.ref];rfl
theorem cycleR_rch {p:Rp} {j:Nat} (h5:5<p.v.rs.length) (hd5:dir (at_ Rc.o p.v.rs 5)=true) (hj:16+j<p.v.rs.length):(∀i,Rch p.v i→Rch (cycleR p j).v i)∧(dir (at_ Rc.o p.v.rs (16+j))=true→Rch (cycleR p j).v (16+j)):=by
 have hkc:=Kp.cycleR p j;unfold cycleR at hkc⊢;split at hkc
 ·rename_i hc;rw[if_pos hc];simp only[Bool.and_eq_true,Bool.not_eq_true'] at hc
  have hnr:¬Rch p.v (16+j):=fun c=>by rw[(zcV _ _).2 c] at hc;cases hc.2
  obtain⟨w,hw⟩:∃w,it (fun q k=>drop q (16+j) (at_ Nm.o (p.rc (16+j:Nat)).ns k)) (p.note 7 (16+j:Nat) 0) (p.rc (16+j:Nat)).ns.length=w:=⟨_,rfl⟩
  have hkeep:∀d e,e∈(at_ Rc.o p.v.rs d).es→e.f.r.toNat≠16+j→e∈(at_ Rc.o w.v.rs d).es:=fun d e he hf=>by
   rw[←hw];exact drops_keep (q:=p.note 7 (16+j:Nat) 0) he hf _
  have hkp:Kp (p.note 7 (16+j:Nat) 0) w:=by
   rw[←hw];exact Kp.it (g:=id) (fun(s:Rp) k=>show Kp s (Ck.drop s (16+j) (at_ Nm.o (p.rc (16+j:Nat)).ns k)) from(Kp.refl s).drop _ _) _ _
  have hkp:Kp p w:=((Kp.refl p).of_v (r:=p.note 7 (16+j:Nat) 0) rfl).trans hkp;rw[hw] at hkc⊢
  have hes:=fun d=>es_bring (p:=w) (r:=16+j) (by rw[hkp.2.2.2];exact h5) (by omega) d
  have hin:∀d e,e∈(at_ Rc.o w.v.rs d).es→e∈(at_ Rc.o (bring w (16+j)).v.rs d).es:=fun d e he=>by
   obtain⟨z,hz⟩:=hes d;rw[hz];split
   ·exact List.mem_append_left _ he
   ·exact he
  refine⟨fun i hi=> ?_,fun hd=> ?_⟩
  ·induction hi with
   |root=>exact Rch.root
   |step h1 h2 h3 h4 ih=>
    refine Rch.step ih (by rw[hkc.2.1.dir];exact h2) (hin _ _ (hkeep _ _ h3 fun c=>hnr ?_)) (by rw[hkc.2.1.right hkc.2.2.2];exact h4);rw[←c];exact Rch.step h1 h2 h3 h4
  ·obtain⟨z,hz⟩:=hes 5;rw[if_pos rfl] at hz
   have hown:own (p.rc (16+j:Nat))=true:=by
    rw[zae];unfold dir at hd;simp only[Bool.and_eq_true,beq_iff_eq] at hd;unfold own;rw[hd.1,hd.2];rfl
   have:=Rch.step (v:=(bring w (16+j)).v) (d:=5) (x:=⟨zaf (16+j) (zbz (w.rc 5).es (16+j) 0 ((w.rc 5).es.length+1)),w.ref (16+j:Nat),z⟩) Rch.root (by rw[hkc.2.1.dir];exact hd5) (by rw[hz];exact List.mem_append_right _ (List.mem_singleton.2 rfl)) (by
    rw[hkc.2.1.right hkc.2.2.2];show right p.v (w.ref (16+j:Nat))=true;rw[hkp.2.1.ref]
    exact zch hj hown)
   have e:(w.ref (16+j:Nat)).r.toNat=16+j:=Int.toNat_natCast (16+j);have h7:Rch (bring w (16+j)).v (w.ref (16+j:Nat)).r.toNat:=this;rw[e] at h7;exact h7
 ·rename_i hc;rw[if_neg hc];refine⟨fun i hi=>hi,fun hd=> ?_⟩;rw[zae,hd] at hc
  have:rchB p.v (16+j)=true:=by
   cases e:rchB p.v (16+j)
   ·rw[e] at hc;exact absurd rfl hc
   ·rfl
  exact(zcV _ _).1 this
def Ar (p:Rp):Prop:=∀j,16≤j→j<p.v.rs.length→dir (at_ Rc.o p.v.rs j)=true→Rch p.v j
theorem cyclesR_ar {p:Rp} (h5:5<p.v.rs.length) (hd5:dir (at_ Rc.o p.v.rs 5)=true):Ar (cyclesR p):=by
 have key:∀k,k≤p.v.rs.length-16→(∀j,16≤j→j<16+k→dir (at_ Rc.o p.v.rs j)=true→Rch (it cycleR p k).v j)∧Kp p (it cycleR p k):=by
  refine zaJ (I:=fun k q=>(∀j,16≤j→j<16+k→dir (at_ Rc.o p.v.rs j)=true→Rch q.v j)∧Kp p q) (fun s k hk ⟨a1,a2⟩=> ?_) ⟨fun j h1 h2=>by omega,Kp.refl p⟩;have hl:=a2.2.2.2;obtain⟨g1,g2⟩:=cycleR_rch (p:=s) (j:=k) (by omega) (by rw[a2.2.1.dir];exact hd5) (by omega);refine⟨fun j h1 h2 h3=> ?_,a2.trans (Kp.cycleR s k)⟩;by_cases e:j=16+k
  ·subst e;exact g2 (by rw[a2.2.1.dir];exact h3)
  ·exact g1 j (a1 j h1 (by omega) h3)
 obtain⟨h1,h2⟩:=key _ (Nat.le_refl _);intro j hj hl hd;have hl2:(cyclesR p).v.rs.length=p.v.rs.length:=h2.2.2.2;exact h1 j hj (by omega) (by rw[←h2.2.1.dir];exact hd)
theorem cyclesR_fix {p:Rp} (h:Ar p):cyclesR p=p:=
 zeR (n:=p.v.rs.length-16) (fun k hk=>by
  unfold cycleR;rw[zae];by_cases hd:dir (at_ Rc.o p.v.rs (16+k))=true
  ·have:=(zcV p.v (16+k)).2 (h (16+k) (by omega) (by omega) hd);rw[if_neg (by rw[this];simp)]
  ·rw[if_neg (by simp[hd])]) _ (Nat.le_refl _)
theorem Rch.ks {p q:Rp} (h:Ks p q) {i:Nat} (hi:Rch p.v i):Rch q.v i:=by
 induction hi with
 |root=>exact Rch.root
 |step h1 h2 h3 h4 ih=>
  obtain⟨e',he',hn,hf⟩:=h.mem' h3;have:=Rch.step ih (by rw[h.1.2.1.dir];exact h2) he' (by rw[h.1.2.1.right h.1.2.2.2,hf];exact h4);rw[hf] at this;exact this
theorem Ar.ks {p q:Rp} (h:Ar p) (g:Ks p q):Ar q:=fun j h1 h2 h3=>(h j h1 (by rw[←g.1.2.2.2];exact h2) (by rw[←g.1.2.1.dir];exact h3)).ks g
def Fl {α:Type} (g:Rc→α) (p q:Rp):Prop:=∀i,g (at_ Rc.o q.v.rs i)=g (at_ Rc.o p.v.rs i)
def Gd {α:Type} (g:Rc→α):Prop:=∀x ns es ln,g {x with ns:=ns,es:=es,ln:=ln}=g x
section
variable {α : Type} {g : Rc → α}
theorem Fl.refl (p:Rp):Fl g p p:=fun _=>rfl
theorem Fl.trans {p q r:Rp} (h:Fl g p q) (k:Fl g q r):Fl g p r:=fun i=>(k i).trans (h i)
theorem Fl.of_v {p q r:Rp} (h:Fl g p q) (hv:r.v=q.v):Fl g p r:=by unfold Fl at h⊢;rw[hv];exact h
theorem Fl.setR {p q:Rp} (h:Fl g p q) (i:Nat) (x:Rc) (hx:g x=g (at_ Rc.o q.v.rs i)):Fl g p (q.setR i x):=fun j=>by
 show g (at_ Rc.o (q.v.rs.set i x) j)=_;rw[zbc];split
 ·rename_i e;obtain⟨rfl,_⟩:=e;exact hx.trans (h i)
 ·exact h j
theorem Gd.es (G:Gd g) (x:Rc) (es:List En):g {x with es:=es}=g x:=G x x.ns es x.ln
theorem Gd.ns (G:Gd g) (x:Rc) (ns:List Nm):g {x with ns:=ns}=g x:=G x ns x.es x.ln
theorem Gd.ln (G:Gd g) (x:Rc) (ln:Int):g {x with ln:=ln}=g x:=G x x.ns x.es ln
theorem Fl.drop (G:Gd g) {p q:Rp} (h:Fl g p q) (r:Nat) (m:Nm):Fl g p (drop q r m):=by
 unfold Ck.drop;split
 ·exact h.setR _ _ (G.es _ _)
 ·exact h
theorem Fl.enter (G:Gd g) {p q:Rp} (h:Fl g p q) (d:Int) (nm:List UInt8) (r:Nat):Fl g p (enter q d nm r):=h.setR _ _ (G.es _ _)
theorem Fl.bring (G:Gd g) {p q:Rp} (h:Fl g p q) (r:Nat):Fl g p (bring q r):=by
 unfold Ck.bring;dsimp only;exact(h.setR r _ (by rw[zae];exact G.ns _ _)).enter G _ _ _
theorem Fl.it {S:Type} {u:S→Rp} {f:S→Nat→S} (hf:∀s k,Fl g (u s) (u (f s k))) (s:S):∀k,Fl g (u s) (u (it f s k))
 |0=>Fl.refl _
 |k+1=>(Fl.it hf s k).trans (hf _ k)
theorem Fl.entryStep {p:Rp} (i:Nat) (es:List En) (s:Rp×List En) (k:Nat) (h:Fl g p s.1):Fl g p (entryStep i es s k).1:=by
 unfold Ck.entryStep;dsimp only;split
 ·exact h
 ·split
  ·exact h.of_v rfl
  ·exact h.of_v rfl
theorem Fl.badEntries (G:Gd g) (p:Rp):Fl g p (badEntries p):=Fl.it (u:=id) (fun q i=>by
 show Fl g q (zac q i);unfold zac;split
 ·have h:=Fl.it (g:=g) (u:=Prod.fst) (fun s k=>Fl.entryStep i (q.rc i).es s k (Fl.refl _)) (q,[]) (q.rc i).es.length;dsimp only;exact h.setR i _ (by rw[zae];exact G.es _ _)
 ·exact Fl.refl q) p _
theorem Fl.nameStep (G:Gd g) {p:Rp} (i:Nat) (all:List Nm) (s:Rp×List Nm) (k:Nat) (h:Fl g p s.1):Fl g p (nameStep i all s k).1:=by
 unfold Ck.nameStep;dsimp only;split
 ·split
  ·exact h
  ·exact(h.of_v (r:=s.1.note 5 i s.2.length) rfl).enter G _ _ _
 ·split
  ·exact(h.of_v (r:=s.1.note 4 i s.2.length) rfl).drop G _ _
  ·exact h.of_v rfl
theorem Fl.badNames1 (G:Gd g) (q:Rp) (i:Nat):Fl g q (badNames1 q i):=by
 unfold Ck.badNames1;have h:=Fl.it (g:=g) (u:=Prod.fst) (fun s k=>Fl.nameStep G i (q.rc i).ns s k (Fl.refl _)) (q,[]) (q.rc i).ns.length;dsimp only;exact h.setR i _ (by rw[zae];exact G.ns _ _)
theorem Fl.below {f:Rp→Nat→Rp} (hf:∀q i,Fl g q (f q i)) (p:Rp):Fl g p (below f p):=Fl.it (u:=id) (fun q j=>by
 show Fl g q (if own (q.rc (16+j:Nat)) then f q (16+j) else q);split
 ·exact hf _ _
 ·exact Fl.refl q) p _
theorem Fl.badNames (G:Gd g) (p:Rp):Fl g p (badNames p):=Fl.below (Fl.badNames1 G) p
theorem Fl.orphans (G:Gd g) (p:Rp):Fl g p (orphans p):=Fl.below (fun q i=>by
 unfold zaz;split
 ·exact((Fl.refl q).of_v (r:=q.note 6 i 0) rfl).bring G i
 ·exact Fl.refl q) p
theorem Fl.cycleR (G:Gd g) (q:Rp) (j:Nat):Fl g q (cycleR q j):=by
 unfold Ck.cycleR;split
 ·have h:=Fl.it (g:=g) (u:=id) (fun(s:Rp) k=>show Fl g s (Ck.drop s (16+j) (at_ Nm.o (q.rc (16+j:Nat)).ns k)) from(Fl.refl s).drop G _ _) (q.note 7 (16+j:Nat) 0) (q.rc (16+j:Nat)).ns.length;exact(((Fl.refl q).of_v (r:=q.note 7 (16+j:Nat) 0) rfl).trans h).bring G _
 ·exact Fl.refl q
theorem Fl.cyclesR (G:Gd g) (p:Rp):Fl g p (cyclesR p):=Fl.it (u:=id) (fun q j=>Fl.cycleR G q j) p _
theorem Fl.link1 (G:Gd g) (q:Rp) (i:Nat):Fl g q (link1 q i):=by
 unfold Ck.link1;split
 ·exact((Fl.refl q).of_v (r:=q.note 8 i 0) rfl).setR i _ (by rw[zae];exact G.ln _ _)
 ·exact Fl.refl q
theorem Fl.links (G:Gd g) (p:Rp):Fl g p (links p):=Fl.below (Fl.link1 G) p
theorem Fl.sizes (G:∀x es,g {x with es:=es}=g x) (p:Rp):Fl g p (sizes p):=Fl.it (u:=id) (fun q i=>by
 show Fl g q (zak q i);unfold zak;split
 ·exact Fl.it (u:=id) (fun(s:Rp) k=>by
   show Fl g s (sizeStep i s k);unfold sizeStep;dsimp only;split
   ·exact((Fl.refl s).of_v (r:=s.note 9 i k) rfl).setR i _ (by rw[zae];exact G _ _)
   ·exact Fl.refl s) q _
 ·exact Fl.refl q) p _
theorem Fl.descriptors (G:∀x ds,g {x with ds:=ds}=g x) (p:Rp):Fl g p (descriptors p):=Fl.it (u:=id) (fun q i=>by
 show Fl g q (zao q i);unfold zao;dsimp only;split
 ·exact((Fl.refl q).of_v (r:=q.note 2 i 0) rfl).setR i _ (by rw[zae];exact G _ _)
 ·exact Fl.refl q) p _
theorem Fl.cutStep (G:∀x ss,g {x with ss:=ss}=g x) (i:Nat) (s:Rp×List Bool) (k:Nat):Fl g s.1 (cutStep i s k).1:=by
 unfold Ck.cutStep;dsimp only;split
 ·exact Fl.refl _
 ·exact((Fl.refl s.1).of_v (r:=s.1.note 1 i k) rfl).setR i _ (by rw[zae];exact G _ _)
theorem Fl.badRuns (G:∀x ss,g {x with ss:=ss}=g x) (p:Rp):Fl g p (badRuns p):=Fl.it (g:=g) (u:=Prod.fst) (fun s i=>by
 show Fl g s.1 (zad s i).1;unfold zad;split
 ·exact Fl.it (g:=g) (u:=Prod.fst) (fun s k=>Fl.cutStep G i s k) s _
 ·exact Fl.refl _) (p,taken p.v) _
end
theorem Lk.sizes {p:Rp} (h:Lk p):Lk (sizes p):=fun j h1 h2 h3=>by
 have hl:=Fl.sizes (g:=fun x=>(x.ln,x.ns,own x)) (fun _ _=>rfl) p j;have hk:=(Ks.sizes p).1.2.2.2;have e1:(at_ Rc.o (Ck.sizes p).v.rs j).ln=(at_ Rc.o p.v.rs j).ln:=congrArg (·.1) hl;have e2:(at_ Rc.o (Ck.sizes p).v.rs j).ns=(at_ Rc.o p.v.rs j).ns:=congrArg (·.2.1) hl;have e3:own (at_ Rc.o (Ck.sizes p).v.rs j)=own (at_ Rc.o p.v.rs j):=congrArg (·.2.2) hl;rw[e1,e2];exact h j h1 (by omega) (by rw[←e3];exact h3)
theorem Nf.ks {p q:Rp} (h:Nf p) (g:Ks p q):Nf q:=fun j h1 h2 h3=>by
 rw[g.2.1 j];exact h j h1 (by rw[←g.1.2.2.2];exact h2) (by rw[←zbE g.1];exact h3)
end Ck
namespace Ck
def cl (t:List Bool):List Run→Option (List Bool)
 |[]=>some t
 |r::l=>
  if r.s= -1 then cl t l
  else match za9 t r.s 0 r.l.toNat with
   |(t',none)=>cl t' l
   |(_,some _)=>none
theorem zfA {t:List Bool} {r:Run} {l:List Run} (h:r.s= -1):cl t (r::l)=cl t l:=by
 show(if r.s= -1 then cl t l else _)=_;rw[if_pos h]
theorem zky {t t':List Bool} {r:Run} {l:List Run} (h:r.s≠-1) (ht:za9 t r.s 0 r.l.toNat=(t',none)):cl t (r::l)=cl t' l:=by
 show(if r.s= -1 then cl t l else match za9 t r.s 0 r.l.toNat with
   |(t',none)=>cl t' l
   |(_,some _)=>none)=_
 rw[if_neg h,ht]
theorem zlJ {t t':List Bool} {r:Run} {l:List Run} {k:Nat} (h:r.s≠-1) (ht:za9 t r.s 0 r.l.toNat=(t',some k)):cl t (r::l)=none:=by
 show(if r.s= -1 then cl t l else match za9 t r.s 0 r.l.toNat with
   |(t',none)=>cl t' l
   |(_,some _)=>none)=_
 rw[if_neg h,ht]
theorem zcw :∀(a b:List Run) (t:List Bool),cl t (a++b)=(cl t a).bind fun t'=>cl t' b
 |[],b,t=>rfl
 |r::a,b,t=>by
  show cl t (r::(a++b))=_;by_cases hs:r.s= -1
  ·rw[zfA hs,zfA hs];exact zcw a b t
  ·cases ht:za9 t r.s 0 r.l.toNat with
   |mk t' o=>
    cases o with
    |none=>rw[zky hs ht,zky hs ht];exact zcw a b t'
    |some k=>rw[zlJ hs ht,zlJ hs ht];rfl
theorem zg5 {a b:List Run} {t u:List Bool} (h:cl t (a++b)=some u):∃w,cl t a=some w∧cl w b=some u:=by
 rw[zcw] at h
 cases hc:cl t a with
 |none=>rw[hc] at h;cases h
 |some w=>rw[hc] at h;exact⟨w,rfl,h⟩
theorem zi0 (s:Int):∀(n k:Nat) (t t':List Bool) (j:Nat),za9 t s k n=(t',some j)→k≤j∧za9 t s k (j-k)=(t',none)
 |0,k,t,t',j,h=>by unfold za9 at h;cases h
 |n+1,k,t,t',j,h=>by
  unfold za9 at h;split at h
  ·rename_i hc;obtain⟨h1,h2⟩:=zi0 s n (k+1) _ t' j h;refine⟨by omega,?_⟩
   obtain⟨m,hm⟩:∃m,j-k=m+1:=⟨j-k-1,by omega⟩
   rw[hm];unfold za9;rw[if_pos hc,show m=j-(k+1) by omega];exact h2
  ·cases h;exact⟨Nat.le_refl _,by rw[Nat.sub_self];rfl⟩
theorem ziR :∀(l acc:List Run) (t t':List Bool),zcm t acc l=(t',none)→cl t l=some t'
 |[],acc,t,t',h=>by unfold zcm at h;cases h;rfl
 |r::l,acc,t,t',h=>by
  by_cases hs:r.s= -1
  ·rw[zcM hs] at h;rw[zfA hs];exact ziR l _ t t' h
  ·cases ht:za9 t r.s 0 r.l.toNat with
   |mk w o=>
    cases o with
    |none=>
     rw[zeW hs ht] at h;rw[zky hs ht];exact ziR l _ w t' h
    |some k=>rw[zdz hs ht] at h;cases h
theorem zek :∀(l acc:List Run) (t t':List Bool),cl t l=some t'→zcm t acc l=(t',none)
 |[],acc,t,t',h=>by cases h;rfl
 |r::l,acc,t,t',h=>by
  by_cases hs:r.s= -1
  ·rw[zcM hs];rw[zfA hs] at h;exact zek l _ t t' h
  ·cases ht:za9 t r.s 0 r.l.toNat with
   |mk w o=>
    cases o with
    |none=>
     rw[zeW hs ht];rw[zky hs ht] at h;exact zek l _ w t' h
    |some k=>rw[zlJ hs ht] at h;cases h
theorem zfx :∀(l acc:List Run) (t0 t t':List Bool) (l':List Run),cl t0 acc=some t→zcm t acc l=(t',some l')→cl t0 l'=some t'
 |[],acc,t0,t,t',l',ha,h=>by unfold zcm at h;cases h
 |r::l,acc,t0,t,t',l',ha,h=>by
  by_cases hs:r.s= -1
  ·rw[zcM hs] at h;refine zfx l _ t0 t t' l' ?_ h;rw[zcw,ha];show cl t [r]=some t;rw[zfA hs];rfl
  ·cases ht:za9 t r.s 0 r.l.toNat with
   |mk w o=>
    cases o with
    |none=>
     rw[zeW hs ht] at h;refine zfx l _ t0 w t' l' ?_ h;rw[zcw,ha];show cl t [r]=some w;rw[zky hs ht];rfl
    |some k=>
     rw[zdz hs ht] at h;obtain⟨_,h2⟩:=zi0 r.s _ 0 t w k ht;rw[Nat.sub_zero] at h2;obtain rfl:w=t':=congrArg Prod.fst h;cases h;rw[zcw,ha];show cl t (if 0<k then [⟨r.s,k⟩] else [])=some w;by_cases hk:0<k
     ·rw[if_pos hk,zky (r:=⟨r.s,k⟩) hs (by show za9 t r.s 0 (((k:Nat):Int)).toNat=_;rw[Int.toNat_natCast];exact h2)];rfl
     ·rw[if_neg hk]
      obtain rfl:k=0:=by omega
      unfold za9 at h2;cases h2;rfl
def zdj (x:Rc):List Run:=x.ss.flatMap (·.r)
def za7 (v:Pt) (n:Nat):List Run:=(List.range n).flatMap fun i=>if(at_ Rc.o v.rs i).u then zdj (at_ Rc.o v.rs i) else []
theorem za5 (v:Pt) (n:Nat):za7 v (n+1)=za7 v n++if(at_ Rc.o v.rs n).u then zdj (at_ Rc.o v.rs n) else []:=by
 unfold za7;rw[List.range_succ,List.flatMap_append,List.flatMap_singleton]
theorem zgq {v w:Pt}:∀n,(∀i,i<n→at_ Rc.o w.rs i=at_ Rc.o v.rs i)→za7 w n=za7 v n
 |0,_=>rfl
 |n+1,h=>by rw[za5,za5,zgq n fun i hi=>h i (by omega),h n (by omega)]
theorem zi9 {v w:Pt} (hu:∀i,(at_ Rc.o w.rs i).u=(at_ Rc.o v.rs i).u) (hs:∀i,(at_ Rc.o w.rs i).ss=(at_ Rc.o v.rs i).ss):∀n,za7 w n=za7 v n
 |0=>rfl
 |n+1=>by rw[za5,za5,zi9 hu hs n];unfold zdj;rw[hu,hs]
theorem zhl {v w:Pt} (hc:w.c=v.c) (ha:w.al=v.al):taken w=taken v:=by unfold taken;rw[hc,ha]
def Cl (p:Rp):Prop:=∃t,cl (taken p.v) (za7 p.v p.v.rs.length)=some t
theorem flat_take {α β:Type} (o:α) (f:α→List β) (l:List α) (k:Nat) (h:k<l.length):(l.take (k+1)).flatMap f=(l.take k).flatMap f++f (at_ o l k):=by
 rw[zcz o l k h,List.flatMap_append,List.flatMap_singleton]
theorem take_set {α:Type} (l:List α) (k:Nat) (x:α):(l.set k x).take k=l.take k:=by
 rw[List.take_set,List.set_eq_of_length_le (by rw[List.length_take];omega)]
theorem cutStep_cl {t0:List Bool} {i k:Nat} {s:Rp×List Bool} (hi:i<s.1.v.rs.length) (hu:(at_ Rc.o s.1.v.rs i).u=true) (hk:k<(at_ Rc.o s.1.v.rs i).ss.length) (h:cl t0 (za7 s.1.v i++((at_ Rc.o s.1.v.rs i).ss.take k).flatMap (·.r))=some s.2):
  cl t0 (za7 (cutStep i s k).1.v i++((at_ Rc.o (cutStep i s k).1.v.rs i).ss.take (k+1)).flatMap (·.r))=some (cutStep i s k).2∧(cutStep i s k).1.v.rs.length=s.1.v.rs.length∧(at_ Rc.o (cutStep i s k).1.v.rs i).ss.length=(at_ Rc.o s.1.v.rs i).ss.length∧(at_ Rc.o (cutStep i s k).1.v.rs i).u=true∧∀j,j≠i→at_ Rc.o (cutStep i s k).1.v.rs j=at_ Rc.o s.1.v.rs j:=by
 unfold cutStep;dsimp only;rw[zae]
 cases hc:cut (at_ Sm.o (at_ Rc.o s.1.v.rs i).ss k).r s.2 with
 |mk t o=>
  cases o with
  |none=>
   dsimp only;refine⟨?_,rfl,rfl,hu,fun _ _=>rfl⟩;rw[flat_take Sm.o _ _ _ hk,←List.append_assoc,zcw,h];exact ziR _ [] _ _ hc
  |some l=>
   dsimp only;have hat:at_ Rc.o ((s.1.note 1 i k).setR i {at_ Rc.o s.1.v.rs i with ss:=(at_ Rc.o s.1.v.rs i).ss.set k ⟨l,min (at_ Sm.o (at_ Rc.o s.1.v.rs i).ss k).z (clusters l*256)⟩}).v.rs i={at_ Rc.o s.1.v.rs i with ss:=(at_ Rc.o s.1.v.rs i).ss.set k ⟨l,min (at_ Sm.o (at_ Rc.o s.1.v.rs i).ss k).z (clusters l*256)⟩}:=zal _ _ _ _ hi
   have hne:∀j,j≠i→at_ Rc.o ((s.1.note 1 i k).setR i {at_ Rc.o s.1.v.rs i with ss:=(at_ Rc.o s.1.v.rs i).ss.set k ⟨l,min (at_ Sm.o (at_ Rc.o s.1.v.rs i).ss k).z (clusters l*256)⟩}).v.rs j=at_ Rc.o s.1.v.rs j:=fun j hj=>zau _ _ _ _ _ (Ne.symm hj)
   rw[hat];refine⟨?_,List.length_set,List.length_set,hu,hne⟩;rw[zgq (v:=s.1.v) i (fun j hj=>hne j (by omega)),flat_take Sm.o _ _ _ (by rw[List.length_set];exact hk),take_set,zal _ _ _ _ hk,←List.append_assoc,zcw,h];exact zfx _ [] _ _ _ _ rfl hc
theorem zmZ {t0:List Bool} {i:Nat} {s:Rp×List Bool} (hi:i<s.1.v.rs.length) (hu:(at_ Rc.o s.1.v.rs i).u=true) (h:cl t0 (za7 s.1.v i)=some s.2):∀k,k≤(at_ Rc.o s.1.v.rs i).ss.length→
  cl t0 (za7 (it (cutStep i) s k).1.v i++((at_ Rc.o (it (cutStep i) s k).1.v.rs i).ss.take k).flatMap (·.r))=some (it (cutStep i) s k).2∧(it (cutStep i) s k).1.v.rs.length=s.1.v.rs.length∧(at_ Rc.o (it (cutStep i) s k).1.v.rs i).ss.length=(at_ Rc.o s.1.v.rs i).ss.length∧(at_ Rc.o (it (cutStep i) s k).1.v.rs i).u=true∧∀j,j≠i→at_ Rc.o (it (cutStep i) s k).1.v.rs j=at_ Rc.o s.1.v.rs j
 |0,_=>⟨by rw[List.take_zero,List.flatMap_nil,List.append_nil];exact h,rfl,rfl,hu,fun _ _=>rfl⟩
 |k+1,hk=>by
  obtain⟨h1,h2,h3,h4,h5⟩:=zmZ hi hu h k (by omega);obtain⟨g1,g2,g3,g4,g5⟩:=cutStep_cl (t0:=t0) (i:=i) (k:=k) (s:=it (cutStep i) s k) (by omega) h4 (by omega) h1;exact⟨g1,g2.trans h2,g3.trans h3,g4,fun j hj=>(g5 j hj).trans (h5 j hj)⟩
theorem badRuns_cl (p:Rp):Cl (badRuns p):=by
 have key:∀k,k≤p.v.rs.length→cl (taken p.v) (za7 (it zad (p,taken p.v) k).1.v k)=some (it zad (p,taken p.v) k).2∧(it zad (p,taken p.v) k).1.v.rs.length=p.v.rs.length:=by
  refine zaJ (I:=fun k (q:Rp×List Bool)=>cl (taken p.v) (za7 q.1.v k)=some q.2∧q.1.v.rs.length=p.v.rs.length) (fun s i hi ⟨h1,h2⟩=> ?_) ⟨rfl,rfl⟩;unfold zad;rw[zae];split
  ·rename_i hu;obtain⟨g1,g2,g3,g4,g5⟩:=zmZ (t0:=taken p.v) (i:=i) (s:=s) (by omega) hu h1 _ (Nat.le_refl _);refine⟨?_,g2.trans h2⟩;rw[za5,if_pos g4];rw[List.take_of_length_le (Nat.le_of_eq g3)] at g1;exact g1
  ·rename_i hu;refine⟨?_,h2⟩;rw[za5,if_neg hu,List.append_nil];exact h1
 obtain⟨h1,h2⟩:=key _ (Nat.le_refl _);have hw:=(zh9 (p,taken p.v) p.v.rs.length).1;refine⟨(it zad (p,taken p.v) p.v.rs.length).2,?_⟩;show cl (taken (badRuns p).v) (za7 (badRuns p).v (badRuns p).v.rs.length)=some (it zad (p,taken p.v) p.v.rs.length).2;have e:badRuns p=(it zad (p,taken p.v) p.v.rs.length).1:=rfl;rw[e,h2];have et:taken (it zad (p,taken p.v) p.v.rs.length).1.v=taken p.v:=zhl hw.1 hw.2.1;rw[et];exact h1
theorem Cl.kp {p q:Rp} (h:Cl p) (g:Kp p q):Cl q:=by
 obtain⟨t,ht⟩:=h;refine⟨t,?_⟩;have et:taken q.v=taken p.v:=zhl g.1.1 g.1.2.1;rw[et,g.2.2.2,zi9 (fun i=>(g.2.1 i).1) g.2.2.1];exact ht
theorem zdi (v:Pt):∀(n k:Nat),k≤n→∃l,za7 v n=za7 v k++l
 |0,k,h=>⟨[],by(obtain rfl:k=0:=by omega);rfl⟩
 |n+1,k,h=>by
  by_cases e:k=n+1
  ·subst e;exact⟨[],by rw[List.append_nil]⟩
  ·obtain⟨l,hl⟩:=zdi v n k (by omega);exact⟨l++_,by rw[za5,hl,List.append_assoc]⟩
theorem badRuns_fix {p:Rp} (h:Cl p):badRuns p=p:=by
 obtain⟨t,ht⟩:=h
 have key:∀k,k≤p.v.rs.length→∃t',it zad (p,taken p.v) k=(p,t')∧cl (taken p.v) (za7 p.v k)=some t':=by
  intro k
  induction k with
  |zero=>intro _;exact⟨taken p.v,rfl,rfl⟩
  |succ k ih=>
   intro hk;obtain⟨t',h1,h2⟩:=ih (by omega);show ∃t',zad (it zad (p,taken p.v) k) k=(p,t')∧_;rw[h1];unfold zad;rw[za5];dsimp only;rw[zae];split
   ·rename_i hu;obtain⟨l,hl⟩:=zdi p.v p.v.rs.length (k+1) hk;rw[za5,if_pos hu] at hl;rw[hl] at ht;obtain⟨w,hw,_⟩:=zg5 ht;rw[zcw,h2] at hw;have hw:cl t' (zdj (at_ Rc.o p.v.rs k))=some w:=hw
    have inner:∀m,m≤(at_ Rc.o p.v.rs k).ss.length→∃u,it (cutStep k) (p,t') m=(p,u)∧cl t' (((at_ Rc.o p.v.rs k).ss.take m).flatMap (·.r))=some u:=by
     intro m
     induction m with
     |zero=>intro _;exact⟨t',rfl,rfl⟩
     |succ m im=>
      intro hm;obtain⟨u,i1,i2⟩:=im (by omega);show ∃u,cutStep k (it (cutStep k) (p,t') m) m=(p,u)∧_;rw[i1]
      have e:zdj (at_ Rc.o p.v.rs k)=((at_ Rc.o p.v.rs k).ss.take (m+1)).flatMap (·.r)++((at_ Rc.o p.v.rs k).ss.drop (m+1)).flatMap (·.r):=by
       unfold zdj;rw[←List.flatMap_append,List.take_append_drop]
      rw[e] at hw;obtain⟨a,ha,_⟩:=zg5 hw;have ha2:=ha;rw[flat_take Sm.o _ _ _ hm,zcw,i2] at ha2;have ha2:cl u (at_ Sm.o (at_ Rc.o p.v.rs k).ss m).r=some a:=ha2;refine⟨a,?_,ha⟩;unfold cutStep;dsimp only;rw[zae];have hcut:cut (at_ Sm.o (at_ Rc.o p.v.rs k).ss m).r u=(a,none):=zek _ [] _ _ ha2;rw[hcut]
    obtain⟨u,i1,i2⟩:=inner _ (Nat.le_refl _);refine⟨u,i1,?_⟩;rw[zcw,h2];rw[List.take_length] at i2;exact i2
   ·rename_i hu;refine⟨t',rfl,?_⟩;rw[List.append_nil];exact h2
 obtain⟨t',h1,_⟩:=key _ (Nat.le_refl _);unfold badRuns;rw[h1]
structure Good (p:Rp):Prop where
 rv:Rv p
 fit:Fit5 p
 np:Np p
 nf:Nf p
 lk:Lk p
 sd:∀d,dir (at_ Rc.o p.v.rs d)=true→d<p.v.rs.length→∀n,Sd p d n
 ar:Ar p
 cl:Cl p
 de:∀j,j<p.v.rs.length→own (at_ Rc.o p.v.rs j)=true→(at_ Rc.o p.v.rs j).ds∈p.v.ds
 lo:∀j,j<p.v.rs.length→(at_ Rc.o p.v.rs j).u=true→(at_ Rc.o p.v.rs j).k=3→right p.v (at_ Rc.o p.v.rs j).b=true
theorem Good.fixes {p:Rp} (h:Good p):sizes (links (cyclesR (orphans (badNames (badEntries (descriptors (badRuns (lostParts p))))))))=p:=by
 rw[lost_fix h.lo,badRuns_fix h.cl,descriptors_fix h.de,badEntries_fix h.fit.en h.fit.pw,badNames_fix h.fit h.np,orphans_fix h.nf,cyclesR_fix h.ar,links_fix h.lk,sizes_fix h.sd]
theorem right_gone {p:Rp} {k:Nat} {x:Rc} (h1:own x=false) (h2:own (at_ Rc.o p.v.rs k)=false) (r:Ref):right (p.setR k x).v r=right p.v r:=by
 unfold right rc;show(wi r.r 0 (((p.v.rs.set k x).length:Int)-1)&&own (at_ Rc.o (p.v.rs.set k x) r.r.toNat)&&(at_ Rc.o (p.v.rs.set k x) r.r.toNat).q==r.q)=_;rw[List.length_set,zbc];split
 ·rename_i e;rw[←e.1,h1,h2];simp
 ·rfl
theorem lost_lo (p:Rp):∀j,j<(lostParts p).v.rs.length→(at_ Rc.o (lostParts p).v.rs j).u=true→(at_ Rc.o (lostParts p).v.rs j).k=3→right (lostParts p).v (at_ Rc.o (lostParts p).v.rs j).b=true:=by
 have key:∀k,k≤p.v.rs.length→(∀j,j<k→(at_ Rc.o (it zam p k).v.rs j).u=true→(at_ Rc.o (it zam p k).v.rs j).k=3→right (it zam p k).v (at_ Rc.o (it zam p k).v.rs j).b=true)∧(it zam p k).v.rs.length=p.v.rs.length:=by
  refine zaJ (I:=fun k (q:Rp)=>(∀j,j<k→(at_ Rc.o q.v.rs j).u=true→(at_ Rc.o q.v.rs j).k=3→right q.v (at_ Rc.o q.v.rs j).b=true)∧q.v.rs.length=p.v.rs.length) (fun s i hi ⟨h1,h2⟩=> ?_) ⟨fun j hj=>absurd hj (Nat.not_lt_zero _),rfl⟩;unfold zam;dsimp only;rw[zae];split
  ·rename_i hc;simp only[Bool.and_eq_true,beq_iff_eq,Bool.not_eq_true'] at hc
   have hg:∀r,right ((s.note 0 i 0).setR i {Rc.o with q:=(at_ Rc.o s.v.rs i).q%65535+1}).v r=right s.v r:=right_gone (p:=s.note 0 i 0) (by rfl) (by
    show own (at_ Rc.o s.v.rs i)=false;unfold own;rw[hc.1.2]
    simp)
   refine⟨fun j hj=> ?_,by show(s.v.rs.set i _).length=_;rw[List.length_set];exact h2⟩;rw[hg];show(at_ Rc.o (s.v.rs.set i _) j).u=true→(at_ Rc.o (s.v.rs.set i _) j).k=3→right s.v (at_ Rc.o (s.v.rs.set i _) j).b=true;rw[zbc];split
   ·intro hu;exact Bool.noConfusion (show false=true from hu)
   ·rename_i e;exact h1 j (by omega)
  ·rename_i hc;refine⟨fun j hj hu hk=> ?_,h2⟩;by_cases e:j=i
   ·subst e;rw[hu,hk] at hc;simpa using hc
   ·exact h1 j (by omega) hu hk
 obtain⟨h1,h2⟩:=key _ (Nat.le_refl _);intro j hj;have hl:(lostParts p).v.rs.length=p.v.rs.length:=h2;exact h1 j (by omega)
theorem desc_de {p:Rp} (hd:0<p.v.ds.length):∀j,j<(descriptors p).v.rs.length→own (at_ Rc.o (descriptors p).v.rs j)=true→(at_ Rc.o (descriptors p).v.rs j).ds∈(descriptors p).v.ds:=by
 have key:∀k,k≤p.v.rs.length→(∀j,j<k→own (at_ Rc.o (it zao p k).v.rs j)=true→(at_ Rc.o (it zao p k).v.rs j).ds∈p.v.ds)∧(it zao p k).v.rs.length=p.v.rs.length∧(it zao p k).v.ds=p.v.ds:=by
  refine zaJ (I:=fun k (q:Rp)=>(∀j,j<k→own (at_ Rc.o q.v.rs j)=true→(at_ Rc.o q.v.rs j).ds∈p.v.ds)∧q.v.rs.length=p.v.rs.length∧q.v.ds=p.v.ds) (fun s i hi ⟨h1,h2,h3⟩=> ?_) ⟨fun j hj=>absurd hj (Nat.not_lt_zero _),rfl,rfl⟩;unfold zao;dsimp only;rw[zae];split
  ·rename_i hc;refine⟨fun j hj=> ?_,by show(s.v.rs.set i _).length=_;rw[List.length_set];exact h2,h3⟩;show own (at_ Rc.o (s.v.rs.set i _) j)=true→(at_ Rc.o (s.v.rs.set i _) j).ds∈p.v.ds;rw[zbc];split
   ·intro _;show at_ 0 s.v.ds 0∈p.v.ds;rw[h3];exact at_mem 0 _ _ hd
   ·rename_i e;exact h1 j (by omega)
  ·rename_i hc;refine⟨fun j hj ho=> ?_,h2,h3⟩;by_cases e:j=i
   ·subst e;rw[ho,h3] at hc;simpa using hc
   ·exact h1 j (by omega) ho
 obtain⟨h1,h2,h3⟩:=key _ (Nat.le_refl _);intro j hj ho;have hl:(descriptors p).v.rs.length=p.v.rs.length:=h2;have hds:(descriptors p).v.ds=p.v.ds:=h3;rw[hds];exact h1 j (by omega) ho
def kpt (x:Rc):Int×Ref×Bool×Int×Int:=(x.ds,x.b,x.u,x.k,x.q)
theorem kpt_own {x y:Rc} (h:kpt x=kpt y):own x=own y:=by
 unfold kpt at h;simp only[Prod.mk.injEq] at h;unfold own;rw[h.2.2.1,h.2.2.2.1]
theorem zjb {v:Pt} (hf:FitP v) (he:partsErr v=0):Good (rep9 v):=by
 obtain⟨hrv,hfit⟩:=rep9_fit hf he;have hps:=passes (Ready.of hf he);have h0:=Rv.of he;have hds:=zlB he;have h1:=h0.lost;have h2:=h1.badRuns;have l1:=lost_lo ⟨v,[],[]⟩;have b1:=Fl.badRuns (g:=fun x=>(x.b,x.u,x.k,x.q)) (fun _ _=>rfl) (lostParts ⟨v,[],[]⟩)
 have k1:=(zh9 (lostParts ⟨v,[],[]⟩,taken (lostParts ⟨v,[],[]⟩).v) (lostParts ⟨v,[],[]⟩).v.rs.length)
 have k1:Kd (lostParts ⟨v,[],[]⟩) (badRuns (lostParts ⟨v,[],[]⟩))∧(badRuns (lostParts ⟨v,[],[]⟩)).v.rs.length=(lostParts ⟨v,[],[]⟩).v.rs.length:=k1.2;have w2:(badRuns (lostParts ⟨v,[],[]⟩)).v.ds=v.ds:=hps.w2;have c2:=badRuns_cl (lostParts ⟨v,[],[]⟩);have hdl:=(zcT he).1;unfold rep9 at hrv hfit⊢
 generalize lostParts ⟨v,[],[]⟩=p1 at*
 generalize hp2:badRuns p1=p2 at*
 have h3:=h2.descriptors (by rw[w2];exact hds);have k2:=Kp.descriptors p2;have b2:=Fl.descriptors (g:=fun x=>(x.b,x.u,x.k,x.q)) (fun _ _=>rfl) p2;have d3:=desc_de (p:=p2) (by rw[w2];omega)
 generalize hp3:descriptors p2=p3 at*
 have h4:=h3.badEntries;obtain⟨e1,e2,_⟩:=ze2 h3;have n4:=hps.f4.1.rf.n;have k3:=Kp.badEntries p3;have b3:=Fl.badEntries (g:=kpt) (fun _ _ _ _=>rfl) p3
 generalize hp4:badEntries p3=p4 at*
 have h96:=(Ready.of hf he).n.2;have f5:=zjm h4 e1 e2 h4.e0;have np5:=names_np h4 e1 e2 h4.e0;have k4:=Kp.badNames p4;have b4:=Fl.badNames (g:=kpt) (fun _ _ _ _=>rfl) p4;have l5:=hps.f5.2.2;have l6:=hps.f6.2.2.1;have d6:=hps.f6.2.2.2;have n6:=hps.f6.1.rf.n;have h5l:=(Ready.of hf he).n.1
 generalize hp5:badNames p4=p5 at*
 have k5:=Kp.orphans p5;have b5:=Fl.orphans (g:=kpt) (fun _ _ _ _=>rfl) p5;have nf6:=orphans_nf p5;have np6:=orphans_np np5
 generalize hp6:orphans p5=p6 at*
 have k6:=Kp.cyclesR p6;have b6:=Fl.cyclesR (g:=kpt) (fun _ _ _ _=>rfl) p6;have nf7:=cyclesR_nf nf6;have np7:=cyclesR_np np6;have ar7:=cyclesR_ar (p:=p6) (by omega) d6
 generalize hp7:cyclesR p6=p7 at*
 have s7:=Ks.links p7;have b7:=Fl.links (g:=kpt) (fun _ _ _ _=>rfl) p7;have lk8:=links_lk p7
 generalize hp8:links p7=p8 at*
 have s8:=Ks.sizes p8;have b8:=Fl.sizes (g:=kpt) (fun _ _=>rfl) p8;have sd9:=sizes_sd p8;have lk9:=lk8.sizes
 generalize hp9:sizes p8=p9 at*
 have kk:=((((k3.trans k4).trans k5).trans k6).trans s7.1).trans s8.1;have bk:=((((b3.trans b4).trans b5).trans b6).trans b7).trans b8;refine⟨hrv,hfit,(np7.kn s7.2.1).kn s8.2.1,(nf7.ks s7).ks s8,lk9,fun d hd hl n=> ?_,(ar7.ks s7).ks s8,(c2.kp k2).kp kk,fun j hj ho=> ?_,fun j hj hu hk=> ?_⟩
 ·exact sd9 d (by rw[←s8.1.2.1.dir];exact hd) (by rw[←s8.1.2.2.2];exact hl) n
 ·rw[kk.1.2.2.1];have e:(at_ Rc.o p9.v.rs j).ds=(at_ Rc.o p3.v.rs j).ds:=congrArg (·.1) (bk j);rw[e];exact d3 j (by rw[←kk.2.2.2];exact hj) (by rw[←kpt_own (bk j)];exact ho)
 ·have e1:(at_ Rc.o p9.v.rs j).b=(at_ Rc.o p1.v.rs j).b:=((congrArg (·.2.1) (bk j)).trans (congrArg (·.1) (b2 j))).trans (congrArg (·.1) (b1 j));have e2:(at_ Rc.o p9.v.rs j).u=(at_ Rc.o p1.v.rs j).u:=((congrArg (·.2.2.1) (bk j)).trans (congrArg (·.2.1) (b2 j))).trans (congrArg (·.2.1) (b1 j));have e3:(at_ Rc.o p9.v.rs j).k=(at_ Rc.o p1.v.rs j).k:=((congrArg (·.2.2.2.1) (bk j)).trans (congrArg (·.2.2.1) (b2 j))).trans (congrArg (·.2.2.1) (b1 j));have hkp:=k2.trans kk;rw[hkp.2.1.right hkp.2.2.2,k1.1.right k1.2,e1];exact l1 j (by rw[←k1.2,←hkp.2.2.2];exact hj) (by rw[←e2];exact hu) (by rw[←e3];exact hk)
theorem Rch.rs {v w:Pt} (h:w.rs=v.rs) {i:Nat} (hi:Rch v i):Rch w i:=by
 induction hi with
 |root=>exact Rch.root
 |step h1 h2 h3 h4 ih=>
  exact Rch.step ih (by rw[h];exact h2) (by rw[h];exact h3) (by unfold right rc at h4⊢;rw[h];exact h4)
theorem Good.map {v:Pt} {fd:List Fd} {fl:List Int} (h:Good ⟨v,fd,fl⟩) (m:List UInt8) (fd':List Fd) (fl':List Int):Good ⟨{v with mp:=m},fd',fl'⟩:=
 ⟨h.rv,⟨h.fit.en,h.fit.pw,h.fit.e0,h.fit.nk⟩,h.np,h.nf,h.lk,h.sd,fun j h1 h2 h3=>show Rch {v with mp:=m} j from Rch.rs (v:=v) (w:={v with mp:=m}) rfl (h.ar j h1 h2 h3),h.cl,h.de,h.lo⟩
theorem zhT (W:List UInt8) (p:Rp) (n:Nat):(it (zar W) p n).v=p.v:=zaQ (I:=fun q:Rp=>q.v=p.v) (fun s k hs=>by
 unfold zar;split
 ·exact hs
 ·exact hs) rfl n
theorem bits_v (p:Rp):(bits p).v={p.v with mp:=used p.v}:=by
 unfold bits;dsimp only;rw[zhT]
theorem bits_fix {p:Rp} (h:p.v.mp=used p.v):bits p=p:=by
 have hs:it (zar (used p.v)) p p.v.c.toNat=p:=zeR (n:=p.v.c.toNat) (fun k _=>by
  unfold zar
  rw[h,if_neg (fun c=>c rfl)]) _ (Nat.le_refl _)
 unfold bits;dsimp only;rw[hs,←h]
theorem zbO (v:Pt):(zai v).v={(rep9 v).v with mp:=used (rep9 v).v}:=by rw[zgt,bits_v]
theorem zeB {v:Pt} (hf:FitP v) (he:partsErr v=0) (fd:List Fd) (fl:List Int):Good ⟨(zai v).v,fd,fl⟩:=by
 have h:=zjb hf he;rw[zbO];generalize rep9 v=p at h⊢;obtain⟨w,a,b⟩:=p;exact h.map _ _ _
theorem zfO (v:Pt):(zai v).v.mp=used (zai v).v:=by
 rw[zbO];generalize rep9 v=p;rfl
theorem repaired_again {v:Pt} (hf:FitP v) (he:partsErr v=0):zai (zai v).v=⟨(zai v).v,[],[]⟩:=by
 have h:=zeB hf he [] [];have hm:=zfO v
 obtain⟨w,hw⟩:∃w,(zai v).v=w:=⟨_,rfl⟩
 rw[hw] at h hm⊢;show bits (sizes (links (cyclesR (orphans (badNames (badEntries (descriptors (badRuns (lostParts ⟨w,[],[]⟩)))))))))=_;rw[h.fixes];exact bits_fix hm
theorem zm6 (f:Nat→Bool) (j a:Nat) (h:∀k,a≤k→f (8*j+k)=false):∀m,a≤m→bsum f j m<2^a
 |0,hm=>by
  have e:a=0:=by omega
  rw[e];exact zg8 f j 0
 |m+1,hm=>by
  by_cases e:a=m+1
  ·subst e;exact zg8 f j _
  ·unfold bsum;rw[h m (by omega)];simpa using zm6 f j a h m (by omega)
theorem zlh (l:List UInt8):l.getLast?.getD 0=at_ 0 l (l.length-1):=by
 unfold at_;rw[List.getLast?_eq_getElem?]
theorem mapErr_usd {c:Int} (hc:64≤c∧c≤512) {b:List UInt8} {t:List Bool} (h:zda c b t):zaO b c=0:=by
 obtain⟨h1,h2⟩:=h
 have hl:b.length=((c+7)/8).toNat:=by rw[h1];unfold zg6;exact zhR _ _
 unfold zaO;rw[if_pos (by unfold wi;simp only[Bool.and_eq_true,decide_eq_true_eq];omega),if_pos hl];by_cases h8:c%8=0
 ·rw[if_pos (.inl h8)]
 refine if_pos (.inr ?_);rw[zlh,hl,h1];unfold zg6;rw[zjQ _ _ _ (by omega),zeY];apply Nat.div_eq_of_lt;refine zm6 _ _ _ (fun k hk=> ?_) 8 (by omega);unfold at_;rw[List.getElem?_eq_none (by omega)];rfl
theorem whole_of {v w:Pt} (h:za1 v=0) (hc:w.c=v.c) (ha:w.al=v.al) (hd:w.ds=v.ds) (hr:w.rs.length=v.rs.length) (hm:zaO w.mp w.c=0):za1 w=0:=by
 have h2:=zaX h;refine zgb ?_;intro e he;simp only[List.mem_cons,List.not_mem_nil,or_false] at he;rw[hc] at hm he;rw[ha,hd,hr] at he
 rcases he with rfl|rfl|rfl|rfl|rfl|rfl
 ·exact h2 _ (by simp)
 ·exact h2 _ (by simp)
 ·exact h2 _ (by simp)
 ·exact h2 _ (by simp)
 ·exact h2 _ (by simp)
 ·exact hm
theorem zmm {v:Pt} (hf:FitP v) (he:partsErr v=0):(rep9 v).v.c=v.c∧(rep9 v).v.al=v.al∧(rep9 v).v.mp=v.mp∧(rep9 v).v.ds=v.ds∧(rep9 v).v.rs.length=v.rs.length∧dir (at_ Rc.o (rep9 v).v.rs 5)=true:=by
 have hps:=passes (Ready.of hf he);obtain⟨h1,h2,h3,h4⟩:=hps.w9;have hd:=hps.f6.2.2.2;have hn:=hps.f9.1.n;unfold rep9;refine⟨h1,h2,h3,h4,hn,?_⟩;rw[(Kp.sizes _).2.1.dir,(Kp.links _).2.1.dir,(Kp.cyclesR _).2.1.dir];exact hd
theorem zd1 {v:Pt} (hf:FitP v) (he:partsErr v=0):partsErr (zai v).v=0:=by
 obtain⟨w1,w2,w3,w4,w5,w6⟩:=zmm hf he;have hv:=Valid.of he;have hg:=(zjb hf he).rv;have hw:za1 v=0:=zaX he _ (by simp[partsErr]);rw[zbO]
 generalize rep9 v=p at*
 have hal:∀r∈p.v.al,-1≤r.s:=fun r hr=>by
  rw[w2] at hr;have:=hv.al r hr;omega
 have hss:∀x∈p.v.rs,∀s∈x.ss,∀r∈s.r,-1≤r.s:=fun x hx s hs r hr=>by
  obtain⟨i,hi,rfl⟩:=List.getElem_of_mem hx;have h1:=(hg.at hi).sn;rw[zaG _ _ _ hi] at h1;have:=zcx ((zdE (h1 s hs)).2.1 r hr);omega
 have hb:=used_bits p.v hal hss;have hc:=hv.c;refine zgb ?_;intro e hee;simp only[List.mem_cons,List.not_mem_nil,or_false] at hee
 rcases hee with rfl|rfl|rfl
 ·exact whole_of (w:={p.v with mp:=used p.v}) hw w1 w2 w4 w5 (mapErr_usd (by show 64≤p.v.c∧p.v.c≤512;omega) hb)
 ·unfold zaU;have h5:=hv.root.1;unfold dir at w6;simp only[Bool.and_eq_true,beq_iff_eq] at w6;rw[if_neg];rintro(h|h|h)
  ·have h:p.v.rs.length≤5:=h;omega
  ·have h:(at_ Rc.o p.v.rs 5).u=false:=h;rw[h] at w6;exact absurd w6.1 (by decide)
  ·exact h w6.2
 ·exact zmM (fun i hi=>(hg i hi).err)
theorem zk9 {s:List UInt8} (h:zaw s=0):s.length≤32:=by
 unfold zaw at h;split at h
 ·omega
 ·omega
theorem FitP.of {v:Pt} (he:partsErr v=0):FitP v:=by
 have hv:=Valid.of he
 have hr:∀x∈v.rs,∃i:Int,RecOk i x:=fun x hx=>by
  obtain⟨i,hi,rfl⟩:=List.getElem_of_mem hx;have:=(Rv.of he) i hi;rw[zaG _ _ _ hi] at this;exact⟨_,this⟩
 have hl:=hv.lens;have hc:=hv.c;refine⟨⟨by omega,by omega,by omega,fun x hx=> ?_,fun x hx=> ?_,fun x hx=> ?_,fun x hx y hy=> ?_⟩,fun x hx n hn=> ?_,fun x hx n hn=> ?_,?_⟩
 ·obtain⟨i,h⟩:=hr x hx;have:=h.ns8;omega
 ·obtain⟨i,h⟩:=hr x hx;have:=h.ss8;omega
 ·obtain⟨i,h⟩:=hr x hx;have:=h.esm;have:=zla i;omega
 ·obtain⟨i,h⟩:=hr x hx;have:=(zdE (h.sn y hy)).1;omega
 ·obtain⟨i,h⟩:=hr x hx;have:=zk9 (zgL (h.nn n hn)).2;omega
 ·obtain⟨i,h⟩:=hr x hx;have:=zk9 (zej (h.en n hn)).1;omega
 ·rw[(zcT he).2];omega
theorem lost_or (p:Rp) (j:Nat):∀k,at_ Rc.o (it zam p k).v.rs j=at_ Rc.o p.v.rs j∨((at_ Rc.o p.v.rs j).u=true∧(at_ Rc.o p.v.rs j).k=3∧∃q,at_ Rc.o (it zam p k).v.rs j={Rc.o with q:=q}):=
 zaQ (I:=fun q:Rp=>at_ Rc.o q.v.rs j=at_ Rc.o p.v.rs j∨((at_ Rc.o p.v.rs j).u=true∧(at_ Rc.o p.v.rs j).k=3∧∃c,at_ Rc.o q.v.rs j={Rc.o with q:=c})) (fun s i hs=>by
  unfold zam;dsimp only;rw[zae];split
  ·rename_i hc;simp only[Bool.and_eq_true,beq_iff_eq,Bool.not_eq_true'] at hc;show at_ Rc.o (s.v.rs.set i _) j=_∨_∧_∧∃c,at_ Rc.o (s.v.rs.set i _) j=_;rw[zbc];split
   ·rename_i e;obtain⟨rfl,_⟩:=e
    rcases hs with hs|⟨_,_,c,hs⟩
    ·rw[hs] at hc;exact .inr ⟨hc.1.1,hc.1.2,_,rfl⟩
    ·rw[hs] at hc;exact Bool.noConfusion (show false=true from hc.1.1)
   ·exact hs
  ·exact hs) (.inl rfl)
theorem rep9_kd {v:Pt}:Kd (lostParts ⟨v,[],[]⟩) (rep9 v):=by
 have k1:=(zh9 (lostParts ⟨v,[],[]⟩,taken (lostParts ⟨v,[],[]⟩).v) (lostParts ⟨v,[],[]⟩).v.rs.length).2.1;have k1:Kd (lostParts ⟨v,[],[]⟩) (badRuns (lostParts ⟨v,[],[]⟩)):=k1;unfold rep9;exact(((((((k1.trans (Kp.descriptors _).2.1).trans (Kp.badEntries _).2.1).trans (Kp.badNames _).2.1).trans (Kp.orphans _).2.1).trans (Kp.cyclesR _).2.1).trans (Kp.links _).2.1).trans (Kp.sizes _).2.1)
theorem repaired_use (v:Pt) (j:Nat):((at_ Rc.o (zai v).v.rs j).u=(at_ Rc.o v.rs j).u∧(at_ Rc.o (zai v).v.rs j).k=(at_ Rc.o v.rs j).k∧(at_ Rc.o (zai v).v.rs j).q=(at_ Rc.o v.rs j).q)∨((at_ Rc.o v.rs j).u=true∧(at_ Rc.o v.rs j).k=3∧(at_ Rc.o (zai v).v.rs j).u=false):=by
 rw[zbO];obtain⟨h1,h2,h3⟩:=(rep9_kd (v:=v)) j;generalize rep9 v=p at h1 h2 h3⊢
 rcases lost_or ⟨v,[],[]⟩ j v.rs.length with h|⟨h4,h5,c,h⟩
 ·have h:at_ Rc.o (lostParts ⟨v,[],[]⟩).v.rs j=at_ Rc.o v.rs j:=h;rw[h] at h1 h2 h3;exact .inl ⟨h1,h2,h3⟩
 ·have h:at_ Rc.o (lostParts ⟨v,[],[]⟩).v.rs j={Rc.o with q:=c}:=h;rw[h] at h1;exact .inr ⟨h4,h5,h1⟩
def Gq (p q:Rp):Prop:=p.fd.length≤q.fd.length∧(q.fd.length=p.fd.length→q.v=p.v)
theorem Gq.refl (p:Rp):Gq p p:=⟨Nat.le_refl _,fun _=>rfl⟩
theorem Gq.trans {p q r:Rp} (h:Gq p q) (g:Gq q r):Gq p r:=⟨Nat.le_trans h.1 g.1,fun e=>by
 have:=h.1;have:=g.1
 exact(g.2 (by omega)).trans (h.2 (by omega))⟩
theorem Gq.more {p q:Rp} (h:p.fd.length<q.fd.length):Gq p q:=⟨by omega,fun e=>by omega⟩
theorem Gq.it {S:Type} {u:S→Rp} {f:S→Nat→S} (hf:∀s k,Gq (u s) (u (f s k))) (s:S):∀k,Gq (u s) (u (it f s k))
 |0=>Gq.refl _
 |k+1=>(Gq.it hf s k).trans (hf _ k)
theorem Gq.below {f:Rp→Nat→Rp} (hf:∀q i,Gq q (f q i)) (p:Rp):Gq p (below f p):=Gq.it (u:=id) (fun q j=>by
 show Gq q (if own (q.rc (16+j:Nat)) then f q (16+j) else q);split
 ·exact hf _ _
 ·exact Gq.refl q) p _
theorem zck (p:Rp) (k r i:Int):p.fd.length<(p.note k r i).fd.length:=by rw[zbF];omega
theorem Gq.lostParts (p:Rp):Gq p (lostParts p):=Gq.it (u:=id) (fun q i=>by
 show Gq q (zam q i);unfold zam;dsimp only;split
 ·exact Gq.more (zck q 0 i 0)
 ·exact Gq.refl q) p _
theorem Gq.badRuns (p:Rp):Gq p (badRuns p):=Gq.it (u:=Prod.fst) (fun s i=>by
 show Gq s.1 (zad s i).1;unfold zad;split
 ·exact Gq.it (u:=Prod.fst) (fun s k=>by
   show Gq s.1 (cutStep i s k).1;unfold cutStep;dsimp only;split
   ·exact Gq.refl _
   ·exact Gq.more (zck s.1 1 i k)) s _
 ·exact Gq.refl _) (p,taken p.v) _
theorem Gq.descriptors (p:Rp):Gq p (descriptors p):=Gq.it (u:=id) (fun q i=>by
 show Gq q (zao q i);unfold zao;dsimp only;split
 ·exact Gq.more (zck q 2 i 0)
 ·exact Gq.refl q) p _
theorem zfW {p:Rp} (i:Nat) (x:Rc) (hx:x=at_ Rc.o p.v.rs i):p.setR i x=p:=by
 by_cases hi:i<p.v.rs.length
 ·rw[hx];exact zgn hi
 ·unfold Rp.setR;rw[List.set_eq_of_length_le (by omega)]
theorem Gq.badEntries (p:Rp):Gq p (badEntries p):=Gq.it (u:=id) (fun q i=>by
 show Gq q (zac q i);unfold zac;split
 ·have key:∀k,k≤(q.rc i).es.length→(q.fd.length≤(Ck.it (entryStep i (q.rc i).es) (q,[]) k).1.fd.length∧((Ck.it (entryStep i (q.rc i).es) (q,[]) k).1.fd.length=q.fd.length→Ck.it (entryStep i (q.rc i).es) (q,[]) k=(q,(q.rc i).es.take k))):=by
   refine zaJ (I:=fun k (s:Rp×List En)=>q.fd.length≤s.1.fd.length∧(s.1.fd.length=q.fd.length→s=(q,(q.rc i).es.take k))) (fun s k hk ⟨h1,h2⟩=> ?_) ⟨Nat.le_refl _,fun _=>rfl⟩;unfold entryStep;dsimp only;split
   ·refine⟨h1,fun e=> ?_⟩;have:=h2 e;subst this;dsimp only;rw[zcz En.o _ k hk]
   ·have hlt:=zck s.1 3 i s.2.length;split
    ·exact⟨by show q.fd.length≤(s.1.note 3 i s.2.length).fd.length;omega,fun e=>by have e:(s.1.note 3 i s.2.length).fd.length=q.fd.length:=e;omega⟩
    ·exact⟨by show q.fd.length≤(s.1.note 3 i s.2.length).fd.length;omega,fun e=>by have e:(s.1.note 3 i s.2.length).fd.length=q.fd.length:=e;omega⟩
  obtain⟨h1,h2⟩:=key _ (Nat.le_refl _);refine⟨h1,fun e=> ?_⟩;have:=h2 e;dsimp only;rw[this];dsimp only;rw[List.take_length,zfW i _ (by rw[zae])]
 ·exact Gq.refl q) p _
theorem Gq.badNames (p:Rp):Gq p (badNames p):=Gq.below (fun q i=>by
 unfold badNames1;dsimp only
 have key:∀k,k≤(q.rc i).ns.length→(q.fd.length≤(Ck.it (nameStep i (q.rc i).ns) (q,[]) k).1.fd.length∧((Ck.it (nameStep i (q.rc i).ns) (q,[]) k).1.fd.length=q.fd.length→Ck.it (nameStep i (q.rc i).ns) (q,[]) k=(q,(q.rc i).ns.take k))):=by
  refine zaJ (I:=fun k (s:Rp×List Nm)=>q.fd.length≤s.1.fd.length∧(s.1.fd.length=q.fd.length→s=(q,(q.rc i).ns.take k))) (fun s k hk ⟨h1,h2⟩=> ?_) ⟨Nat.le_refl _,fun _=>rfl⟩;have hl5:=zck s.1 5 i s.2.length;have hl4:=zck s.1 4 i s.2.length;unfold nameStep;dsimp only;split
  ·split
   ·refine⟨h1,fun e=> ?_⟩;have:=h2 e;subst this;dsimp only;rw[zcz Nm.o _ k hk]
   ·exact⟨by show q.fd.length≤(s.1.note 5 i s.2.length).fd.length;omega,fun e=>by have e:(s.1.note 5 i s.2.length).fd.length=q.fd.length:=e;omega⟩
  ·dsimp only;split
   ·rw[zft];exact⟨by omega,fun e=>by omega⟩
   ·exact⟨by omega,fun e=>by omega⟩
 obtain⟨h1,h2⟩:=key _ (Nat.le_refl _);refine⟨h1,fun e=> ?_⟩;have:=h2 e;rw[this];dsimp only
 rw[List.take_length,zfW i _ (by rw[zae])]) p
theorem Gq.orphans (p:Rp):Gq p (orphans p):=Gq.below (fun q i=>by
 unfold zaz;split
 ·exact Gq.more (by rw[zdU];exact zck q 6 i 0)
 ·exact Gq.refl q) p
theorem zlD (r:Nat) (l:List Nm) (q:Rp) (k:Nat):(it (fun q k=>drop q r (at_ Nm.o l k)) q k).fd=q.fd:=zaQ (I:=fun s:Rp=>s.fd=q.fd) (fun s k hs=>(zft _ _ _).trans hs) rfl k
theorem Gq.cyclesR (p:Rp):Gq p (cyclesR p):=Gq.it (u:=id) (fun q j=>by
 show Gq q (cycleR q j);unfold cycleR;split
 ·exact Gq.more (by rw[zdU,zlD];exact zck q 7 (16+j:Nat) 0)
 ·exact Gq.refl q) p _
theorem Gq.links (p:Rp):Gq p (links p):=Gq.below (fun q i=>by
 unfold link1;split
 ·exact Gq.more (zck q 8 i 0)
 ·exact Gq.refl q) p
theorem Gq.sizes (p:Rp):Gq p (sizes p):=Gq.it (u:=id) (fun q i=>by
 show Gq q (zak q i);unfold zak;split
 ·exact Gq.it (u:=id) (fun s k=>by
   show Gq s (sizeStep i s k);unfold sizeStep;dsimp only;split
   ·exact Gq.more (zck s 9 i k)
   ·exact Gq.refl s) q _
 ·exact Gq.refl q) p _
theorem rep9_gq (v:Pt):Gq ⟨v,[],[]⟩ (rep9 v):=(((((((((Gq.lostParts _).trans (Gq.badRuns _)).trans (Gq.descriptors _)).trans (Gq.badEntries _)).trans (Gq.badNames _)).trans (Gq.orphans _)).trans (Gq.cyclesR _)).trans (Gq.links _)).trans (Gq.sizes _))
theorem zjV {W:List UInt8} {p:Rp}:∀n,p.fd.length≤(it (zar W) p n).fd.length∧((it (zar W) p n).fd.length=p.fd.length→∀c,c<n→zcQ W c=zcQ p.v.mp c)
 |0=>⟨Nat.le_refl _,fun _ c hc=>absurd hc (Nat.not_lt_zero _)⟩
 |n+1=>by
  obtain⟨h1,h2⟩:=zjV (W:=W) (p:=p) n
  show _≤(zar W (it (zar W) p n) n).fd.length∧((zar W (it (zar W) p n) n).fd.length=_→_)
  have hv:=zhT W p n
  generalize it (zar W) p n=s at*
  unfold zar;rw[hv];split
  ·have:=zck s 10 n 0;exact⟨by omega,fun e=>by omega⟩
  ·rename_i hc;refine⟨h1,fun e c hcn=> ?_⟩;by_cases e2:c=n
   ·subst e2
    exact Classical.byContradiction fun x=>hc x
   ·exact h2 e c (by omega)
theorem byte_ext {a b:UInt8} (h:∀k,k<8→a.toNat/2^k%2=b.toNat/2^k%2):a=b:=by
 apply UInt8.toNat_inj.1;apply Nat.eq_of_testBit_eq;intro i;rw[Nat.testBit_eq_decide_div_mod_eq,Nat.testBit_eq_decide_div_mod_eq];by_cases hi:i<8
 ·rw[h i hi]
 ·have ha:a.toNat<2^i:=Nat.lt_of_lt_of_le (UInt8.toNat_lt a) (Nat.pow_le_pow_right (by omega) (by omega));have hb:b.toNat<2^i:=Nat.lt_of_lt_of_le (UInt8.toNat_lt b) (Nat.pow_le_pow_right (by omega) (by omega));rw[Nat.div_eq_of_lt ha,Nat.div_eq_of_lt hb]
theorem map_ext {a b:List UInt8} {c:Int} (hc:64≤c∧c≤512) (ha:zaO a c=0) (hb:zaO b c=0) (h:∀i,i<c.toNat→zcQ a i=zcQ b i):a=b:=by
 have parts:∀{s:List UInt8},zaO s c=0→s.length=((c+7)/8).toNat∧(c%8=0∨(at_ 0 s (s.length-1)).toNat/2^(c%8).toNat=0):=fun{s} hs=>by
  unfold zaO at hs;rw[if_pos (by unfold wi;simp only[Bool.and_eq_true,decide_eq_true_eq];omega)] at hs;split at hs
  ·rename_i h1;split at hs
   ·rename_i h2;rw[zlh] at h2;exact⟨h1,h2⟩
   ·omega
  ·omega
 obtain⟨a1,a2⟩:=parts ha;obtain⟨b1,b2⟩:=parts hb;apply List.ext_getElem (by omega);intro j h1 h2;apply byte_ext;intro k hk;by_cases hjk:8*j+k<c.toNat
 ·have:=h (8*j+k) hjk;unfold zcQ at this;rw[show(8*j+k)/8=j by omega,show(8*j+k)%8=k by omega,zaG _ _ _ h1,zaG _ _ _ h2] at this;exact this
 ·have hj:j=((c+7)/8).toNat-1:=by omega
  have h8:c%8≠0:=by omega
  have hk8:(c%8).toNat≤k:=by omega
  have z:∀{s:List UInt8} (hs:j<s.length),s.length=((c+7)/8).toNat→(c%8=0∨(at_ 0 s (s.length-1)).toNat/2^(c%8).toNat=0)→s[j].toNat/2^k=0:=fun{s} hs e1 e2=>by
   have e3:=e2.resolve_left h8;rw[e1,←hj,zaG _ _ _ hs] at e3;rw[show k=(c%8).toNat+(k-(c%8).toNat) by omega,Nat.pow_add,←Nat.div_div_eq_div_mul,e3,Nat.zero_div]
  rw[z h1 a1 a2,z h2 b1 b2]
theorem zjq {w:Pt} (hw:partsErr w=0):zaO w.mp w.c=0:=by
 have h1:za1 w=0:=zaX hw _ (by simp[partsErr]);exact zaX h1 _ (by simp)
theorem same_bits {v:Pt} {p:Rp} (hc:64≤v.c∧v.c≤512) (hm:zaO v.mp v.c=0) (hg:Gq ⟨v,[],[]⟩ p) (hwm:zaO (used p.v) p.v.c=0) (h:(bits p).fd=[]):({p.v with mp:=used p.v}:Pt)=v:=by
 have hb:=zjV (W:=used p.v) (p:=p) p.v.c.toNat;have hfd:(it (zar (used p.v)) p p.v.c.toNat).fd=[]:=h;rw[hfd] at hb
 have h0:p.fd.length=0:=by have:=hb.1;simpa using this
 have h9:p.v=v:=hg.2 h0;have hbit:=hb.2 (by rw[h0];rfl);rw[h9] at hbit hwm⊢;rw[map_ext hc hwm hm hbit]
theorem repaired_same {v:Pt} (hf:FitP v) (he:partsErr v=0) (h:(zai v).fd=[]):(zai v).v=v:=by
 have hg:=rep9_gq v;have hval:=zjq (zd1 hf he);rw[zgt] at h;rw[zbO] at hval⊢
 generalize rep9 v=p at*
 exact same_bits (Valid.of he).c (zjq he) hg hval h
end Ck
