/- Own text, part Kee 1: walks of the package acl and of its reference, and the plain laws that they lean on; no statement of the seat is here. -/
import Derived.Test.YtgcjejajljhnaaaGreatDoorTrnk8
set_option linter.all false
namespace Go.Proofs.YtgcjejajljhnaaaGreatDoor
open Go.Ex Ck
set_option maxRecDepth 100000
set_option maxHeartbeats 16000000
theorem zjk {h:T AO} {z:List Nat} {ns ns':List Nm} (e:ns'=ns):Wz h z (aRcs ⟨false,0,0,Ref.o,0,0,ns,[],[]⟩) (.agg [bb false,ib 0,ib 0,ib 0,ib 0,ib 0,ib 0,LS 3 aNm Nm.o ns', .sc (.slice none 0 0), .sc (.slice none 0 0)]):=by
 subst e;exact⟨zaa rfl,zaa rfl,zaa rfl,zaa rfl,zaa rfl,zaa rfl,zaa rfl,zaa rfl,Wz.nil rfl,Wz.nil rfl,trivial⟩
theorem CheckerKeeps_few (v:Pt) (h:fewP v=false):PureC Tryz.prog 6 [aPts v] (bb true):=by
 refine PureC.of kmix rfl ?_
 (conv=>whnf);repeat(first|refine KIf.t rfl ?_|refine KIf.f rfl ?_|refine KCall.pure (zdB) ?_|refine KCall.pure (zjJ v h) ?_);conv=>whnf
 refine .z [] ?_;exact zaa rfl
theorem CheckerKeeps_bad (v:Pt) (hfew:fewP v=true) (he:Ck.partsErr v≠0):PureC Tryz.prog 6 [aPts v] (bb true):=by
 have h:=zdR hfew;refine PureC.of kmix rfl ?_
 (conv=>whnf);repeat(first|refine KIf.t rfl ?_|refine KIf.f rfl ?_|refine KCall.pure (zdB) ?_|refine KCall.pure (zjJ v hfew) ?_|refine KCall.pure (zfQ v h) ?_|refine KIf.t (congrArg Bool.not (decide_eq_false he)) ?_);conv=>whnf
 refine .z [] ?_;exact zaa rfl
theorem CheckerKeeps_foreign (v:Pt) (hfew:fewP v=true) (he:Ck.partsErr v=0) (hfo:za4 v=true):PureC Tryz.prog 6 [aPts v] (bb true):=by
 have h:=zdR hfew;have hn:=h.f.rs;refine PureC.of kmix rfl ?_
 (conv=>whnf);repeat(first|refine KIf.t rfl ?_|refine KIf.f rfl ?_|refine KCall.pure (zdB) ?_|refine KCall.pure (zjJ v hfew) ?_|refine KCall.pure (zfQ v h) ?_|refine KCall.pure (zeT v hn hfo) ?_|refine KIf.f (congrArg Bool.not (decide_eq_true he)) ?_);conv=>whnf
 refine .z [] ?_;exact zaa rfl
theorem CheckerKeeps_good (v:Pt) (hfew:fewP v=true) (he:Ck.partsErr v=0) (hfo:za4 v=false):PureC Tryz.prog 6 [aPts v] (bb true):=by
 have h:=zdR hfew;have hn:=h.f.rs;have hr:=Ready.of h he;have F:=facts h he;have hcR:=zen znv v h he hr;have hcS:=SoundIn_ok znv v h he hr
 generalize zai v=p at*
 have hew:=F.val;have hfw:=FitP.of hew;have hlen:=F.len;have huse:=F.use;have hcK:=zfX p.v hfw hew
 have hS:∀k,k<(snd v p v.rs.length).length→∃j:Nat,at_ 0 (snd v p v.rs.length) k=(j:Nat)∧j<v.rs.length∧Keep v p.v j:=fun k hk=>by
  obtain⟨j,h1,h2,h3⟩:=snd_at hk;exact⟨j,h1,h2,sound_kept F.good huse hfo hlen (F.sn j) h2 h3⟩
 have hsl:=zmc v p v.rs.length;have hkl:=ziG p.v p.v.rs.length;clear F;unfold Keep at hS
 generalize snd v p v.rs.length=S at*
 generalize p.fd=fd at*
 generalize p.v=w at*
 generalize filt w w.rs.length=R at*
 have hn96:=hr.n.2;clear hr;refine PureC.of kmix rfl ?_
 (conv=>whnf);repeat(first|refine KIf.f rfl ?_|refine KCall.pure (zdB) ?_|refine KCall.pure (zjJ v hfew) ?_|refine KCall.pure (zfQ v h) ?_|refine KCall.pure (zeT v hn hfo) ?_|refine KIf.f (congrArg Bool.not (decide_eq_true he)) ?_|refine KCall.pure (zlQ v h.f) ?_|refine KCall.pure (hcR) ?_|refine KCall.pure (hcS) ?_|refine KCall.pure (zlQ w hfw.f) ?_|refine KCall.pure (hcK) ?_|refine KCall.pure (zfQ w hfw) ?_|refine KIf.f (congrArg Bool.not (decide_eq_true hew)) ?_|refine KIf.f (congrArg Bool.not (decide_eq_true (by omega))) ?_);conv=>whnf
 refine WLoop.inv kmix (D:=Nat) (fun d=>v.rs.length-d) (fun d=>d≤v.rs.length) (fun d=>slots [(1, .ptr 0 0),(2,bb false),(3, .ptr 1 0),(6,LS 1 aI 0 S),(8,LS 1 aI 0 R),(10,ib d)] 238) (fun d=>zaj [.row (aPt v) 26 0, .row (aPt w) 26 0]) 0 (Nat.zero_le _) ?_ ?_
 ·(refine Weak.of [0,1] [] rfl rfl ?_ ?_<;>(repeat' first|exact zT|refine zA ?_ ?_)<;>(conv=>whnf)<;>(repeat'(exact rfl))<;>(first|(intro _ _;rfl)|(exact Or.inr ⟨rfl,rfl⟩)))
 intro d hd;by_cases hlt:d<v.rs.length
 ·have hltw:d<w.rs.length:=by omega
  rcases huse d with⟨e1,e2,_⟩|⟨e1,e2,e3⟩
  ·have e4:(!((at_ Rc.o v.rs d).u==(at_ Rc.o w.rs d).u))=false:=by rw[e1];simp
   (conv=>whnf);repeat(first|refine KIf.f ?_ ?_;assumption|refine KIf.f rfl ?_|refine Need.mk (p:=zah _=true) ?_ ?_;decide+kernel|refine Need.mk ?_ ?_;(first|omega|(constructor<;>omega))|refine KIf.t (decide_eq_true (by omega)) ?_);conv=>whnf
   refine⟨d+1,hlt,by dsimp only;omega,?_⟩
   (refine Weak.of [0,1] [] rfl rfl ?_ ?_<;>(repeat' first|exact zT|refine zA ?_ ?_)<;>(conv=>whnf)<;>(repeat'(exact rfl))<;>(first|(intro _ _;rfl)|(exact Or.inr ⟨rfl,rfl⟩)))
  ·have e4:(!((at_ Rc.o v.rs d).u==(at_ Rc.o w.rs d).u))=true:=by rw[e1,e3];rfl
   (conv=>whnf);repeat(first|refine KIf.t ?_ ?_;assumption|refine KIf.f ?_ ?_;assumption|refine Need.mk (p:=zah _=true) ?_ ?_;decide+kernel|refine Need.mk ?_ ?_;(first|omega|(constructor<;>omega))|refine KIf.t (decide_eq_true (by omega)) ?_|refine KIf.f (congrArg Bool.not (decide_eq_true e2)) ?_);conv=>whnf
   refine⟨d+1,hlt,by dsimp only;omega,?_⟩
   (refine Weak.of [0,1] [] rfl rfl ?_ ?_<;>(repeat' first|exact zT|refine zA ?_ ?_)<;>(conv=>whnf)<;>(repeat'(exact rfl))<;>(first|(intro _ _;rfl)|(exact Or.inr ⟨rfl,rfl⟩)))
 (conv=>whnf);repeat(((refine KIf.f (decide_eq_false (by omega)) ?_;conv=>whnf)))
 refine WLoop.inv kmix (D:=Nat) (fun d=>S.length-d) (fun d=>d≤S.length) (fun d=>slots [(1, .ptr 0 0),(2,bb false),(3, .ptr 1 0),(6,LS 1 aI 0 S),(8,LS 1 aI 0 R),(11,ib d)] 238) (fun d=>zaj [.row (aPt v) 26 0, .row (aPt w) 26 0]) 0 (Nat.zero_le _) ?_ ?_
 ·(refine Weak.of [0,1] [] rfl rfl ?_ ?_<;>(repeat' first|exact zT|refine zA ?_ ?_)<;>(conv=>whnf)<;>(repeat'(exact rfl))<;>(first|(intro _ _;rfl)|(exact Or.inr ⟨rfl,rfl⟩)))
 intro d hd;by_cases hlt:d<S.length
 ·obtain⟨j,hj,hjn,h16,hjR,hss,hds,hns,hne,hms⟩:=hS d hlt
  have hJ:(at_ 0 S d).toNat=j:=by rw[hj];exact Int.toNat_natCast j
  have hJi:(((at_ 0 S d).toNat:Nat):Int)=at_ 0 S d:=by rw[hJ];exact hj.symm
  subst hJ;rw[hJi] at hjR hms;clear hj
  have hjw:(at_ 0 S d).toNat<w.rs.length:=by omega
  have hidx:0≤at_ 0 S d∧at_ 0 S d<v.rs.length:=by omega
  have hidw:0≤at_ 0 S d∧at_ 0 S d<w.rs.length:=by omega
  have hwi:wi (at_ 0 S d) 16 ((v.rs.length:Int)-1)=true:=by unfold wi;simp only[Bool.and_eq_true,decide_eq_true_eq];omega
  have hB:=zaR (at_ 0 S d) 16 ((v.rs.length:Int)-1);rw[hwi] at hB;have hH:=zoT R (at_ 0 S d) (by omega) hjR;have hRf:=RefOf_k w (at_ 0 S d).toNat hjw;rw[hJi] at hRf;have hvm:=at_mem Rc.o v.rs (at_ 0 S d).toNat hjn;have hwm:=at_mem Rc.o w.rs (at_ 0 S d).toNat hjw;have hst:=ze6 (at_ Rc.o v.rs (at_ 0 S d).toNat).ss (at_ Rc.o w.rs (at_ 0 S d).toNat).ss (h.f.ss _ hvm) (hfw.f.ss _ hwm) (h.f.rr _ hvm) (hfw.f.rr _ hwm);rw[decide_eq_true hss.symm] at hst;have hnl:0<(at_ Rc.o v.rs (at_ 0 S d).toNat).ns.length:=List.length_pos_iff.2 hne;have hnl2:=h.f.ns _ hvm
  have hnz:¬(((at_ Rc.o v.rs (at_ 0 S d).toNat).ns.length:Nat):Int)=0:=by omega
  (conv=>whnf);repeat(first|refine KIf.df ?_ ?_;assumption|refine KIf.f rfl ?_|refine Need.mk (p:=zah _=true) ?_ ?_;decide+kernel|refine Need.mk ?_ ?_;(first|trivial|omega|(constructor<;>omega))|refine KIf.t (decide_eq_true (by omega)) ?_|refine DCall.pure (hB) ?_|refine DCall.pure (hH) ?_|refine KCall.pure (hst) ?_|refine KIf.f (congrArg Bool.not (decide_eq_true hds.symm)) ?_|refine KCall.frz [] (ze7 ⟨false,0,0,Ref.o,0,0,(at_ Rc.o v.rs (at_ 0 S d).toNat).ns,[],[]⟩ hnl2 (Nat.zero_le _) (Nat.zero_le _) (fun y hy=>by cases hy)) ⟨zjk rfl,zjk hns,trivial⟩ ?_);conv=>whnf
  refine WLoop.inv kmix (D:=Nat) (fun k=>(at_ Rc.o v.rs (at_ 0 S d).toNat).ns.length-k) (fun k=>k≤(at_ Rc.o v.rs (at_ 0 S d).toNat).ns.length) (fun k=>slots [(1, .ptr 0 0),(2,bb false),(3, .ptr 1 0),(6,LS 1 aI 0 S),(8,LS 1 aI 0 R),(11,ib d),(12, .ptr 2 0),(14,ib k)] 238) (fun k=>zaj [.row (aPt v) 26 0, .row (aPt w) 26 0, .row (aRc (at_ Rc.o v.rs (at_ 0 S d).toNat)) 66 0]) 0 (Nat.zero_le _) ?_ ?_
  ·(refine Weak.of [0,1,2] [] rfl rfl ?_ ?_<;>(repeat' first|exact zT|refine zA ?_ ?_)<;>(conv=>whnf)<;>(repeat'(exact rfl))<;>(first|(intro _ _;rfl)|(exact Or.inr ⟨rfl,rfl⟩)))
  intro k hk;by_cases hkl:k<(at_ Rc.o v.rs (at_ 0 S d).toNat).ns.length
  ·have hkm:=at_mem Nm.o _ k hkl;obtain⟨d0,d1,e,he1,he2,he3⟩:=hms _ hkm
   have hD:0≤(at_ Nm.o (at_ Rc.o v.rs (at_ 0 S d).toNat).ns k).d.r∧(at_ Nm.o (at_ Rc.o v.rs (at_ 0 S d).toNat).ns k).d.r<w.rs.length:=by omega
   have hel:=hfw.f.es _ (at_mem Rc.o w.rs _ d1)
   have hkl2:((k:Nat):Int)<(((at_ Rc.o v.rs (at_ 0 S d).toNat).ns.length:Nat):Int):=by omega
   have hdl:((d:Nat):Int)<((S.length:Nat):Int):=by omega
   (conv=>whnf);repeat(first|refine KIf.dt ?_ ?_;assumption|refine Need.mk (p:=zah _=true) ?_ ?_;decide+kernel|refine Need.mk ?_ ?_;(first|trivial|omega));conv=>whnf
   refine WLoop.inv kmix (D:=Nat×Bool) (fun x=>(at_ Rc.o w.rs (at_ Nm.o (at_ Rc.o v.rs (at_ 0 S d).toNat).ns k).d.r.toNat).es.length-x.1) (fun x=>x.1≤(at_ Rc.o w.rs (at_ Nm.o (at_ Rc.o v.rs (at_ 0 S d).toNat).ns k).d.r.toNat).es.length∧(x.2=false→∀i,i<x.1→¬((at_ En.o (at_ Rc.o w.rs (at_ Nm.o (at_ Rc.o v.rs (at_ 0 S d).toNat).ns k).d.r.toNat).es i).f=(⟨at_ 0 S d,(at_ Rc.o w.rs (at_ 0 S d).toNat).q⟩:Ref)∧(at_ En.o (at_ Rc.o w.rs (at_ Nm.o (at_ Rc.o v.rs (at_ 0 S d).toNat).ns k).d.r.toNat).es i).n=(at_ Nm.o (at_ Rc.o v.rs (at_ 0 S d).toNat).ns k).n))) (fun x=>slots [(1, .ptr 0 0),(2,bb false),(3, .ptr 1 0),(6,LS 1 aI 0 S),(8,LS 1 aI 0 R),(11,ib d),(12, .ptr 2 0),(14,ib k),(15,bb x.2),(16,LS 4 aEn En.o (at_ Rc.o w.rs (at_ Nm.o (at_ Rc.o v.rs (at_ 0 S d).toNat).ns k).d.r.toNat).es),(17,ib x.1)] 238) (fun k=>zaj [.row (aPt v) 26 0, .row (aPt w) 26 0, .row (aRc (at_ Rc.o v.rs (at_ 0 S d).toNat)) 66 0]) (0,false) ⟨Nat.zero_le _,fun _ i hi=>absurd hi (Nat.not_lt_zero _)⟩ ?_ ?_
   ·(refine Weak.of [0,1,2] [] rfl rfl ?_ ?_<;>(repeat' first|exact zT|refine zA ?_ ?_)<;>(conv=>whnf)<;>(repeat'(exact rfl))<;>(first|(intro _ _;rfl)|(exact Or.inr ⟨rfl,rfl⟩)))
   rintro⟨i,fnd⟩ ⟨hi,hI⟩;dsimp only at hi hI;by_cases hil:i<(at_ Rc.o w.rs (at_ Nm.o (at_ Rc.o v.rs (at_ 0 S d).toNat).ns k).d.r.toNat).es.length
   ·have hil2:((i:Nat):Int)<(((at_ Rc.o w.rs (at_ Nm.o (at_ Rc.o v.rs (at_ 0 S d).toNat).ns k).d.r.toNat).es.length:Nat):Int):=by omega
    cases fnd
    ·by_cases hf:(at_ En.o (at_ Rc.o w.rs (at_ Nm.o (at_ Rc.o v.rs (at_ 0 S d).toNat).ns k).d.r.toNat).es i).f=(⟨at_ 0 S d,(at_ Rc.o w.rs (at_ 0 S d).toNat).q⟩:Ref)
     ·by_cases hnm:(at_ En.o (at_ Rc.o w.rs (at_ Nm.o (at_ Rc.o v.rs (at_ 0 S d).toNat).ns k).d.r.toNat).es i).n=(at_ Nm.o (at_ Rc.o v.rs (at_ 0 S d).toNat).ns k).n
      ·(conv=>whnf);repeat(first|refine KIf.dt ?_ ?_;assumption|refine KIf.f rfl ?_|refine Need.mk (p:=zah _=true) ?_ ?_;decide+kernel|refine Need.mk ?_ ?_;(first|omega|(constructor<;>omega))|refine DCall.pure (hRf) ?_|refine EqK.of (zaY (at_ En.o (at_ Rc.o w.rs (at_ Nm.o (at_ Rc.o v.rs (at_ 0 S d).toNat).ns k).d.r.toNat).es i).f (⟨at_ 0 S d,(at_ Rc.o w.rs (at_ 0 S d).toNat).q⟩:Ref)) ?_);conv=>whnf
       refine⟨(i+1,true),⟨hil,fun c=>by cases c⟩,by dsimp only;omega,?_⟩
       (refine Weak.of [0,1,2] [] rfl rfl ?_ ?_<;>(repeat' first|exact zT|refine zA ?_ ?_)<;>(conv=>whnf)<;>(repeat'(exact rfl))<;>(first|(intro _ _;rfl)|(first|(simp[hnm];done)|(exact Or.inr ⟨rfl,rfl⟩))))
      ·(conv=>whnf);repeat(first|refine KIf.dt ?_ ?_;assumption|refine KIf.f rfl ?_|refine Need.mk (p:=zah _=true) ?_ ?_;decide+kernel|refine Need.mk ?_ ?_;(first|omega|(constructor<;>omega))|refine DCall.pure (hRf) ?_|refine EqK.of (zaY (at_ En.o (at_ Rc.o w.rs (at_ Nm.o (at_ Rc.o v.rs (at_ 0 S d).toNat).ns k).d.r.toNat).es i).f (⟨at_ 0 S d,(at_ Rc.o w.rs (at_ 0 S d).toNat).q⟩:Ref)) ?_);conv=>whnf
       refine⟨(i+1,false),⟨hil,fun _ a ha=> ?_⟩,by dsimp only;omega,?_⟩
       ·by_cases e:a=i
        ·subst e;exact fun c=>hnm c.2
        ·exact hI rfl a (by omega)
       ·(refine Weak.of [0,1,2] [] rfl rfl ?_ ?_<;>(repeat' first|exact zT|refine zA ?_ ?_)<;>(conv=>whnf)<;>(repeat'(exact rfl))<;>(first|(intro _ _;rfl)|(first|(simp[hnm];done)|(exact Or.inr ⟨rfl,rfl⟩))))
     ·(conv=>whnf);repeat(first|refine KIf.dt ?_ ?_;assumption|refine KIf.df ?_ ?_;assumption|refine KIf.f rfl ?_|refine Need.mk (p:=zah _=true) ?_ ?_;decide+kernel|refine Need.mk ?_ ?_;(first|omega|(constructor<;>omega))|refine DCall.pure (hRf) ?_|refine EqK.of (zaY (at_ En.o (at_ Rc.o w.rs (at_ Nm.o (at_ Rc.o v.rs (at_ 0 S d).toNat).ns k).d.r.toNat).es i).f (⟨at_ 0 S d,(at_ Rc.o w.rs (at_ 0 S d).toNat).q⟩:Ref)) ?_);conv=>whnf
      refine⟨(i+1,false),⟨hil,fun _ a ha=> ?_⟩,by dsimp only;omega,?_⟩
      ·by_cases e:a=i
       ·subst e;exact fun c=>hf c.1
       ·exact hI rfl a (by omega)
      ·(refine Weak.of [0,1,2] [] rfl rfl ?_ ?_<;>(repeat' first|exact zT|refine zA ?_ ?_)<;>(conv=>whnf)<;>(repeat'(exact rfl))<;>(first|(intro _ _;rfl)|((exact Or.inr ⟨rfl,rfl⟩))))
    ·(conv=>whnf);repeat(first|refine KIf.dt ?_ ?_;assumption|refine KIf.t rfl ?_|refine Need.mk (p:=zah _=true) ?_ ?_;decide+kernel|refine Need.mk ?_ ?_;((constructor<;>omega)));conv=>whnf
     refine⟨(i+1,true),⟨hil,fun c=>by cases c⟩,by dsimp only;omega,?_⟩
     (refine Weak.of [0,1,2] [] rfl rfl ?_ ?_<;>(repeat' first|exact zT|refine zA ?_ ?_)<;>(conv=>whnf)<;>(repeat'(exact rfl))<;>(first|(intro _ _;rfl)|(exact Or.inr ⟨rfl,rfl⟩)))
   ·have hil2:¬((i:Nat):Int)<(((at_ Rc.o w.rs (at_ Nm.o (at_ Rc.o v.rs (at_ 0 S d).toNat).ns k).d.r.toNat).es.length:Nat):Int):=by omega
    cases fnd
    ·exfalso;obtain⟨a,ha,rfl⟩:=List.getElem_of_mem he1;have:=hI rfl a (by omega);rw[zaG _ _ _ ha] at this;exact this ⟨he2,he3⟩
    ·(conv=>whnf);repeat(first|refine KIf.df ?_ ?_;assumption|refine KIf.f rfl ?_|refine Need.mk ?_ ?_;((constructor<;>omega)));conv=>whnf
     refine⟨k+1,hkl,by dsimp only;omega,?_⟩
     (refine Weak.of [0,1,2] [] rfl rfl ?_ ?_<;>(repeat' first|exact zT|refine zA ?_ ?_)<;>(conv=>whnf)<;>(repeat'(exact rfl))<;>(first|(intro _ _;rfl)|(exact Or.inr ⟨rfl,rfl⟩)))
  ·have hkl2:¬((k:Nat):Int)<(((at_ Rc.o v.rs (at_ 0 S d).toNat).ns.length:Nat):Int):=by omega
   (conv=>whnf);repeat(first|refine KIf.df ?_ ?_;assumption|refine Need.mk ?_ ?_;((constructor<;>omega)));conv=>whnf
   refine⟨d+1,hlt,by dsimp only;omega,?_⟩
   (refine Weak.of [0,1] [] rfl rfl ?_ ?_<;>(repeat' first|exact zT|refine zA ?_ ?_)<;>(conv=>whnf)<;>(repeat'(exact rfl))<;>(first|(intro _ _;rfl)|(exact Or.inr ⟨rfl,rfl⟩)))
 ·(conv=>whnf);repeat(((refine KIf.f (decide_eq_false (by omega)) ?_;conv=>whnf)))
  refine .z [] ?_;exact zaa rfl
theorem CheckerKeeps_k (v:Pt):PureC Tryz.prog 6 [aPts v] (bb true):=by
 cases hf:fewP v
 ·exact CheckerKeeps_few v hf
 ·by_cases he:Ck.partsErr v=0
  ·cases hfo:za4 v
   ·exact CheckerKeeps_good v hf he hfo
   ·exact CheckerKeeps_foreign v hf he hfo
  ·exact CheckerKeeps_bad v hf he
end Go.Proofs.YtgcjejajljhnaaaGreatDoor
