/- Own text, part Sec 1: walks of the package acl and of its reference, and the plain laws that they lean on; no statement of the seat is here. -/
import Derived.Test.YtgcjejajljhnaaaGreatDoorTrnk8
import Derived.Test.YtgcjejajljhnaaaGreatDoorTrnk5
set_option linter.all false
namespace Ck
open Go Go.Ex
theorem partsIx_ok {v:Pt} (h:partsErr v=0):partsIx v=0:=by
 have h1:=zaX h;have hw:za1 v=0:=h1 _ (by simp[partsErr]);have hr:zaU v=0:=h1 _ (by simp);have hc:zff v=0:=h1 _ (by simp);unfold partsIx;rw[if_neg (fun c=>c hw),if_neg (fun c=>c hr)];exact ziA _ _ hc
def ob (b:Bool):AV:=ib (match b with|true=>1|false=>0)
theorem take1_step {t t':List Bool} {s:Int} {k n:Nat} (h:za9 t s k (n+1)=(t',none)):s+k<t.length∧at_ false t (s+k).toNat=false∧za9 (t.set (s+k).toNat true) s (k+1) n=(t',none):=by
 unfold za9 at h;split at h
 ·rename_i hc;exact⟨hc.1,hc.2,h⟩
 ·cases h
theorem cl_run {t u:List Bool} {r:Run} (h:cl t [r]=some u) (hs:r.s≠-1):za9 t r.s 0 r.l.toNat=(u,none):=by
 cases ht:za9 t r.s 0 r.l.toNat with
 |mk w o=>
  cases o with
  |none=>rw[zky hs ht] at h;cases h;rfl
  |some k=>rw[zlJ hs ht] at h;cases h
theorem cl_at {t u w:List Bool} {l:List Run} {k:Nat} (h:cl t l=some u) (hk:k<l.length) (hw:cl t (l.take k)=some w):∃x,cl w [at_ Run.o l k]=some x∧cl t (l.take (k+1))=some x:=by
 rw[←List.take_append_drop (k+1) l] at h;obtain⟨x,hx,_⟩:=zg5 h;refine⟨x,?_,hx⟩;rw[zcz Run.o _ _ hk,zcw,hw] at hx;exact hx
theorem cl_sm {t u w:List Bool} {l:List Sm} {k:Nat} (h:cl t (l.flatMap (·.r))=some u) (hk:k<l.length) (hw:cl t ((l.take k).flatMap (·.r))=some w):∃x,cl w (at_ Sm.o l k).r=some x∧cl t ((l.take (k+1)).flatMap (·.r))=some x:=by
 rw[←List.take_append_drop (k+1) l,List.flatMap_append] at h;obtain⟨x,hx,_⟩:=zg5 h;refine⟨x,?_,hx⟩;rw[flat_take Sm.o _ _ _ hk,zcw,hw] at hx;exact hx
end Ck
namespace Go.Proofs.YtgcjejajljhnaaaGreatDoor
open Go.Ex Ck
set_option maxRecDepth 100000
set_option maxHeartbeats 16000000
theorem CheckerSecond_few (v:Pt) (h:fewP v=false):PureC Tryz.prog 7 [aPts v] (bb true):=by
 refine PureC.of kmix rfl ?_
 (conv=>whnf);repeat(first|refine KIf.t rfl ?_|refine KIf.f rfl ?_|refine KCall.pure (zdB) ?_|refine KCall.pure (zjJ v h) ?_);conv=>whnf
 refine .z [] ?_;exact zaa rfl
theorem CheckerSecond_bad (v:Pt) (hfew:fewP v=true) (he:Ck.partsErr v≠0):PureC Tryz.prog 7 [aPts v] (bb true):=by
 have h:=zdR hfew;refine PureC.of kmix rfl ?_
 (conv=>whnf);repeat(first|refine KIf.t rfl ?_|refine KIf.f rfl ?_|refine KCall.pure (zdB) ?_|refine KCall.pure (zjJ v hfew) ?_|refine KCall.pure (zfQ v h) ?_|refine KIf.t (congrArg Bool.not (decide_eq_false he)) ?_);conv=>whnf
 refine .z [] ?_;exact zaa rfl
theorem CheckerSecond_foreign (v:Pt) (hfew:fewP v=true) (he:Ck.partsErr v=0) (hfo:za4 v=true):PureC Tryz.prog 7 [aPts v] (bb true):=by
 have h:=zdR hfew;have hn:=h.f.rs;refine PureC.of kmix rfl ?_
 (conv=>whnf);repeat(first|refine KIf.t rfl ?_|refine KIf.f rfl ?_|refine KCall.pure (zdB) ?_|refine KCall.pure (zjJ v hfew) ?_|refine KCall.pure (zfQ v h) ?_|refine KCall.pure (zeT v hn hfo) ?_|refine KIf.f (congrArg Bool.not (decide_eq_true he)) ?_);conv=>whnf
 refine .z [] ?_;exact zaa rfl
theorem CheckerSecond_good (v:Pt) (hfew:fewP v=true) (he:Ck.partsErr v=0) (hfo:za4 v=false):PureC Tryz.prog 7 [aPts v] (bb true):=by
 have h:=zdR hfew;have hn:=h.f.rs;have hr:=Ready.of h he;have hn96:=hr.n.2;have F:=facts h he;have hcR:=zen znv v h he hr
 generalize zai v=p at*
 clear hr;have hew:=F.val;have hfw:=FitP.of hew;have hlen:=F.len;have hcP:=zfY p.v hfw;rw[partsIx_ok hew,hew] at hcP;have hcA:=zen znv p.v hfw hew (Ready.of hfw hew);rw[F.again] at hcA;have hcA:PureC Tryz.prog 21 [aPts p.v] (.tup [aPts p.v,LS 3 aFd Fd.o [],ib 0]):=hcA;have hcU:=UsedBy_ok p.v hfw hew;rw[←F.map] at hcU;have hcK:=zfX p.v hfw hew;have hkl:=ziG p.v p.v.rs.length
 have hbel:∀j,16≤j→j<p.v.rs.length→own (at_ Rc.o p.v.rs j)=true→((j:Nat):Int)∈filt p.v p.v.rs.length∧(((at_ Rc.o p.v.rs j).ns.length:Nat):Int)=(at_ Rc.o p.v.rs j).ln∧((at_ Rc.o p.v.rs j).k≠1→(at_ Rc.o p.v.rs j).ns.length=1):=fun j h1 h2 h3=>below_ok F.good F.use hfo h1 h2 h3
 have hcl:∃u,cl (taken p.v) (za7 p.v p.v.rs.length)=some u:=F.good.cl
 have hun:∀j,j<p.v.rs.length→(at_ Rc.o p.v.rs j).u=true∨(at_ Rc.o p.v.rs j).ss=[]:=fun j hj=>by
  cases hu:(at_ Rc.o p.v.rs j).u
  ·have:=((F.good.rv.at hj).un hu).2;have h1:=(F.good.rv.at hj).ln;have h2:=(F.good.rv.at hj).ds;have h3:=(F.good.rv.at hj).k;unfold Rc.parts at this
   exact .inr (List.eq_nil_of_length_eq_zero (by
    have h1:0≤(at_ Rc.o p.v.rs j).ln:=h1.1;have h2:0≤(at_ Rc.o p.v.rs j).ds:=h2.1;have h3:0≤(at_ Rc.o p.v.rs j).k:=h3.1;have this:(at_ Rc.o p.v.rs j).ln+(at_ Rc.o p.v.rs j).ds+(((at_ Rc.o p.v.rs j).ns.length+(at_ Rc.o p.v.rs j).ss.length+(at_ Rc.o p.v.rs j).es.length:Nat):Int)+(at_ Rc.o p.v.rs j).k≤0:=this
    omega))
  ·exact .inl rfl
 have hS0:p.fd=[]→p.v=v:=F.same;have hvw:=Valid.of hew
 have hrun:∀j,j<p.v.rs.length→∀x∈(at_ Rc.o p.v.rs j).ss,∀r∈x.r,(-1≤r.s∧r.s≤2147483647)∧1≤r.l∧r.l≤512:=fun j hj x hx r hr=>zcx ((zdE ((F.good.rv.at hj).sn x hx)).2.1 r hr)
 clear F
 generalize p.fd=fd at*
 generalize p.v=w at*
 generalize filt w w.rs.length=R at*
 have hcS:fd=[]→PureC Tryz.prog 24 [aPts w,aPts v] (bb true):=fun e=>by rw[hS0 e];exact zni v h
 clear hS0;have hcC:=hvw.c;have hal24:=hvw.lens
 have hmk:(0:Int)≤w.c∧w.c≤w.c∧w.c.toNat*8≤2^47∧w.c≤2^60:=by refine⟨?_,?_,?_,?_⟩<;>omega
 have hzr:zeros w.c.toNat (.int .i64 0)=(List.replicate w.c.toNat false).map ob:=by
  rw[zdc (x:=ob false) _ _ rfl];simp
 have hcl0:cl (taken w) (za7 w 0)=some (taken w):=rfl;have htk:taken w=it (fun t i=>fill t (at_ Run.o w.al i).s (at_ Run.o w.al i).l.toNat) (List.replicate w.c.toNat false) w.al.length:=rfl
 obtain⟨T0,hT0⟩:∃T,T=List.replicate w.c.toNat false:=⟨_,rfl⟩
 have hT0l:T0.length=w.c.toNat:=by rw[hT0];simp
 rw[←hT0] at hzr htk;clear hT0;refine PureC.of kmix rfl ?_
 (conv=>whnf);repeat(first|refine KIf.f rfl ?_|refine KCall.pure (zdB) ?_|refine KCall.pure (zjJ v hfew) ?_|refine KCall.pure (zfQ v h) ?_|refine KCall.pure (zeT v hn hfo) ?_|refine KIf.f (congrArg Bool.not (decide_eq_true he)) ?_|refine KCall.pure (zlQ v h.f) ?_|refine KCall.pure (hcR) ?_);conv=>whnf
 refine KIf.dec (fun hz=> ?_) (fun hz=> ?_)
 all_goals
  (conv=>whnf);repeat(first|refine KIf.dt ?_ ?_;assumption|refine KIf.df ?_ ?_;assumption|refine KIf.f rfl ?_|refine Need.mk ?_ ?_;trivial|refine KCall.pure (zlQ w hfw.f) ?_|refine KCall.pure (hcP) ?_|refine KCall.pure (hcA) ?_|refine KCall.pure (hcU) ?_|refine KCall.pure (hcK) ?_|refine KCall.pure (hcS (List.eq_nil_of_length_eq_zero (by omega))) ?_|refine KCall.pure (zfQ w hfw) ?_|refine KIf.f (congrArg Bool.not (decide_eq_true hew)) ?_|refine KCall.pure (zni w hfw) ?_|refine KIf.f (congrArg Bool.not (decide_eq_true rfl)) ?_);conv=>whnf
  refine WLoop.inv kmix (D:=Nat×List Bool) (fun x=>w.al.length-x.1) (fun x=>x.1≤w.al.length∧x.2=it (fun t i=>fill t (at_ Run.o w.al i).s (at_ Run.o w.al i).l.toNat) T0 x.1∧x.2.length=w.c.toNat) (fun x=>slots [(2,bb false),(3, .ptr 0 0),(13,LS 1 aI 0 R),(15, .sl 1 0 w.c.toNat w.c.toNat),(16,ib x.1)] 252) (fun x=>zaj [.row (aPt w) 26 0, .row (x.2.map ob) 3 0]) (0,T0) ⟨Nat.zero_le _,rfl,hT0l⟩ ?_ ?_
  ·(refine Weak.of [1,3] [] rfl rfl ?_ ?_<;>(repeat' first|exact zT|refine zA ?_ ?_)<;>(conv=>whnf)<;>(repeat'(exact rfl))<;>(first|(intro _ _;rfl)|(first|exact zdd hzr.symm (contL_map (enc:=ob) (fun _=>rfl) _)|(exact Or.inr ⟨rfl,rfl⟩))))
  rintro⟨i,t⟩ ⟨hi,ht,htl⟩;dsimp only at hi ht htl;by_cases hlt:i<w.al.length
  ·have hm:=hvw.al _ (at_mem Run.o w.al i hlt)
   (conv=>whnf);repeat(((refine KIf.t (decide_eq_true (by omega)) ?_;conv=>whnf)))
   refine WLoop.inv kmix (D:=Nat×List Bool) (fun x=>(at_ Run.o w.al i).l.toNat-x.1) (fun x=>x.1≤(at_ Run.o w.al i).l.toNat∧x.2=fill t (at_ Run.o w.al i).s x.1∧x.2.length=w.c.toNat) (fun x=>slots [(2,bb false),(3, .ptr 0 0),(13,LS 1 aI 0 R),(15, .sl 1 0 w.c.toNat w.c.toNat),(16,ib i),(17,ib x.1)] 252) (fun x=>zaj [.row (aPt w) 26 0, .row (x.2.map ob) 3 0]) (0,t) ⟨Nat.zero_le _,rfl,htl⟩ ?_ ?_
   ·(refine Weak.of [0,1] [] rfl rfl ?_ ?_<;>(repeat' first|exact zT|refine zA ?_ ?_)<;>(conv=>whnf)<;>(repeat'(exact rfl))<;>(first|(intro _ _;rfl)|(first|exact Or.inr ⟨rfl,rfl⟩|exact Or.inr ⟨rfl,Ck.contL_map (fun _=>rfl) _⟩)))
   rintro⟨k,t2⟩ ⟨hk,ht2,ht2l⟩;dsimp only at hk ht2 ht2l;by_cases hkl:k<(at_ Run.o w.al i).l.toNat
   ·have hkl2:((k:Nat):Int)<(at_ Run.o w.al i).l:=by omega
    have hix:0≤(at_ Run.o w.al i).s+(k:Int)∧(at_ Run.o w.al i).s+(k:Int)<w.c.toNat:=by omega
    have hoff:0+((at_ Run.o w.al i).s+(k:Int)).toNat*1=((at_ Run.o w.al i).s+(k:Int)).toNat:=by omega
    have hj:((at_ Run.o w.al i).s+(k:Int)).toNat<t2.length:=by omega
    (conv=>whnf);repeat(first|refine KIf.dt ?_ ?_;assumption|refine Need.mk ?_ ?_;(first|trivial|omega|(constructor<;>omega)|(simp only[Int.toNat_natCast];((constructor<;>omega))))|refine Ck.storeM ob true rfl hoff rfl rfl rfl rfl rfl hj ?_);conv=>whnf
    refine⟨(k+1,t2.set ((at_ Run.o w.al i).s+(k:Int)).toNat true),⟨hkl,by rw[ht2];rfl,by rw[List.length_set];exact ht2l⟩,by dsimp only;omega,?_⟩
    (refine Weak.of [0,1] [] rfl rfl ?_ ?_<;>(repeat' first|exact zT|refine zA ?_ ?_)<;>(conv=>whnf)<;>(repeat'(exact rfl))<;>(first|(intro _ _;rfl)|(first|exact Or.inr ⟨rfl,rfl⟩|exact Or.inr ⟨rfl,Ck.contL_map (fun _=>rfl) _⟩)))
   ·have hkl2:¬((k:Nat):Int)<(at_ Run.o w.al i).l:=by omega
    have hke:k=(at_ Run.o w.al i).l.toNat:=by omega
    (conv=>whnf);repeat(first|refine KIf.df ?_ ?_;assumption|refine Need.mk ?_ ?_;(first|omega|(constructor<;>omega)));conv=>whnf
    refine⟨(i+1,t2),⟨hlt,by rw[ht2,hke,ht];rfl,ht2l⟩,by dsimp only;omega,?_⟩
    (refine Weak.of [0,1] [] rfl rfl ?_ ?_<;>(repeat' first|exact zT|refine zA ?_ ?_)<;>(conv=>whnf)<;>(repeat'(exact rfl))<;>(first|(intro _ _;rfl)|(first|exact Or.inr ⟨rfl,rfl⟩|exact Or.inr ⟨rfl,Ck.contL_map (fun _=>rfl) _⟩)))
  have hie:i=w.al.length:=by omega
  have hcl1:cl (taken w) (za7 w 0)=some t:=by rw[hcl0,htk,ht,hie]
  (conv=>whnf);repeat(((refine KIf.f (decide_eq_false (by omega)) ?_;conv=>whnf)))
  refine WLoop.inv kmix (D:=Nat×List Bool) (fun x=>w.rs.length-x.1) (fun x=>x.1≤w.rs.length∧cl (taken w) (za7 w x.1)=some x.2∧x.2.length=w.c.toNat) (fun x=>slots [(2,bb false),(3, .ptr 0 0),(13,LS 1 aI 0 R),(15, .sl 1 0 w.c.toNat w.c.toNat),(18,ib x.1)] 252) (fun x=>zaj [.row (aPt w) 26 0, .row (x.2.map ob) 3 0]) (0,t) ⟨Nat.zero_le _,hcl1,htl⟩ ?_ ?_
  ·(refine Weak.of [0,1] [] rfl rfl ?_ ?_<;>(repeat' first|exact zT|refine zA ?_ ?_)<;>(conv=>whnf)<;>(repeat'(exact rfl))<;>(first|(intro _ _;rfl)|(first|exact Or.inr ⟨rfl,rfl⟩|exact Or.inr ⟨rfl,Ck.contL_map (fun _=>rfl) _⟩)))
  clear ht htl hcl1 hlt hie hi;rintro⟨j,t3⟩ ⟨hjl,ht3,ht3l⟩;dsimp only at hjl ht3 ht3l;by_cases hlt:j<w.rs.length
  ·obtain⟨t9,hx1,hx2⟩:=cl_rec hlt hcl ht3 (hun j hlt);unfold zdj at hx1;have hjm:=at_mem Rc.o w.rs j hlt;have hssl:=hfw.f.ss _ hjm
   (conv=>whnf);repeat(first|refine Need.mk ?_ ?_;omega|refine KIf.t (decide_eq_true (by omega)) ?_);conv=>whnf
   refine WLoop.inv kmix (D:=Nat×List Bool) (fun x=>(at_ Rc.o w.rs j).ss.length-x.1) (fun x=>x.1≤(at_ Rc.o w.rs j).ss.length∧cl t3 (((at_ Rc.o w.rs j).ss.take x.1).flatMap (·.r))=some x.2∧x.2.length=w.c.toNat) (fun x=>slots [(2,bb false),(3, .ptr 0 0),(13,LS 1 aI 0 R),(15, .sl 1 0 w.c.toNat w.c.toNat),(18,ib j),(19, .ptr 2 0),(20,ib x.1)] 252) (fun x=>zaj [.row (aPt w) 26 0, .row (x.2.map ob) 3 0, .row (aRc (at_ Rc.o w.rs j)) 66 0]) (0,t3) ⟨Nat.zero_le _,rfl,ht3l⟩ ?_ ?_
   ·(refine Weak.of [0,1,2] [] rfl rfl ?_ ?_<;>(repeat' first|exact zT|refine zA ?_ ?_)<;>(conv=>whnf)<;>(repeat'(exact rfl))<;>(first|(intro _ _;rfl)|(first|exact Or.inr ⟨rfl,rfl⟩|exact Or.inr ⟨rfl,Ck.contL_map (fun _=>rfl) _⟩)))
   rintro⟨k,t4⟩ ⟨hk,ht4,ht4l⟩;dsimp only at hk ht4 ht4l;by_cases hkl:k<(at_ Rc.o w.rs j).ss.length
   ·have hkl2:((k:Nat):Int)<(((at_ Rc.o w.rs j).ss.length:Nat):Int):=by omega
    obtain⟨t8,hy1,hy2⟩:=cl_sm hx1 hkl ht4;have hrl:=hfw.f.rr _ hjm _ (at_mem Sm.o _ k hkl)
    (conv=>whnf);repeat((refine KIf.dt ?_ ?_;assumption;conv=>whnf))
    refine WLoop.inv kmix (D:=Nat×List Bool) (fun x=>(at_ Sm.o (at_ Rc.o w.rs j).ss k).r.length-x.1) (fun x=>x.1≤(at_ Sm.o (at_ Rc.o w.rs j).ss k).r.length∧cl t4 ((at_ Sm.o (at_ Rc.o w.rs j).ss k).r.take x.1)=some x.2∧x.2.length=w.c.toNat) (fun x=>slots [(2,bb false),(3, .ptr 0 0),(13,LS 1 aI 0 R),(15, .sl 1 0 w.c.toNat w.c.toNat),(18,ib j),(19, .ptr 2 0),(20,ib k),(21,ib x.1)] 252) (fun x=>zaj [.row (aPt w) 26 0, .row (x.2.map ob) 3 0, .row (aRc (at_ Rc.o w.rs j)) 66 0]) (0,t4) ⟨Nat.zero_le _,rfl,ht4l⟩ ?_ ?_
    ·(refine Weak.of [0,1,2] [] rfl rfl ?_ ?_<;>(repeat' first|exact zT|refine zA ?_ ?_)<;>(conv=>whnf)<;>(repeat'(exact rfl))<;>(first|(intro _ _;rfl)|(first|exact Or.inr ⟨rfl,rfl⟩|exact Or.inr ⟨rfl,Ck.contL_map (fun _=>rfl) _⟩)))
    rintro⟨m,t5⟩ ⟨hml,ht5,ht5l⟩;dsimp only at hml ht5 ht5l;by_cases hmm:m<(at_ Sm.o (at_ Rc.o w.rs j).ss k).r.length
    ·have hmm2:((m:Nat):Int)<(((at_ Sm.o (at_ Rc.o w.rs j).ss k).r.length:Nat):Int):=by omega
     obtain⟨t7,hz1,hz2⟩:=cl_at hy1 hmm ht5
     (conv=>whnf);repeat(first|refine KIf.dt ?_ ?_;assumption|refine Need.mk ?_ ?_;(first|omega|(simp only[Int.toNat_natCast];(omega))));conv=>whnf
     obtain⟨hs1,hl1,hl2⟩:=hrun j hlt _ (at_mem Sm.o _ k hkl) _ (at_mem Run.o _ m hmm);by_cases hs:(at_ Run.o (at_ Sm.o (at_ Rc.o w.rs j).ss k).r m).s= -1
     ·rw[zfA hs] at hz1;have ht7:t5=t7:=Option.some.inj hz1;refine WLoop.inv kmix (D:=Nat) (fun x=>x) (fun x=>x=0) (fun x=>slots [(2,bb false),(3, .ptr 0 0),(13,LS 1 aI 0 R),(15, .sl 1 0 w.c.toNat w.c.toNat),(18,ib j),(19, .ptr 2 0),(20,ib k),(21,ib m),(22, .ptr 3 0),(23,ib x)] 252) (fun x=>zaj [.row (aPt w) 26 0, .row (t5.map ob) 3 0, .row (aRc (at_ Rc.o w.rs j)) 66 0, .row (aRun (at_ Run.o (at_ Sm.o (at_ Rc.o w.rs j).ss k).r m)) 78 0]) 0 rfl ?_ ?_
      ·(refine Weak.of [0,1,2,3] [] rfl rfl ?_ ?_<;>(repeat' first|exact zT|refine zA ?_ ?_)<;>(conv=>whnf)<;>(repeat'(exact rfl))<;>(first|(intro _ _;rfl)|(first|exact Or.inr ⟨rfl,rfl⟩|exact Or.inr ⟨rfl,Ck.contL_map (fun _=>rfl) _⟩)))
      intro n hn0
      have hn1:((n:Nat):Int)<(at_ Run.o (at_ Sm.o (at_ Rc.o w.rs j).ss k).r m).l:=by omega
      (conv=>whnf);repeat(first|refine KIf.dt ?_ ?_;assumption|refine Need.mk ?_ ?_;((constructor<;>omega))|refine KIf.f (congrArg Bool.not (decide_eq_true (by omega))) ?_);conv=>whnf
      refine⟨(m+1,t5),⟨hmm,by rw[ht7];exact hz2,ht5l⟩,by dsimp only;omega,?_⟩
      (refine Weak.of [0,1,2] [] rfl rfl ?_ ?_<;>(repeat' first|exact zT|refine zA ?_ ?_)<;>(conv=>whnf)<;>(repeat'(exact rfl))<;>(first|(intro _ _;rfl)|(first|exact Or.inr ⟨rfl,rfl⟩|exact Or.inr ⟨rfl,Ck.contL_map (fun _=>rfl) _⟩)))
     ·have hz1:=cl_run hz1 hs;refine WLoop.inv kmix (D:=Nat×List Bool) (fun x=>(at_ Run.o (at_ Sm.o (at_ Rc.o w.rs j).ss k).r m).l.toNat-x.1) (fun x=>x.1≤(at_ Run.o (at_ Sm.o (at_ Rc.o w.rs j).ss k).r m).l.toNat∧za9 x.2 (at_ Run.o (at_ Sm.o (at_ Rc.o w.rs j).ss k).r m).s x.1 ((at_ Run.o (at_ Sm.o (at_ Rc.o w.rs j).ss k).r m).l.toNat-x.1)=(t7,none)∧x.2.length=w.c.toNat) (fun x=>slots [(2,bb false),(3, .ptr 0 0),(13,LS 1 aI 0 R),(15, .sl 1 0 w.c.toNat w.c.toNat),(18,ib j),(19, .ptr 2 0),(20,ib k),(21,ib m),(22, .ptr 3 0),(23,ib x.1)] 252) (fun x=>zaj [.row (aPt w) 26 0, .row (x.2.map ob) 3 0, .row (aRc (at_ Rc.o w.rs j)) 66 0, .row (aRun (at_ Run.o (at_ Sm.o (at_ Rc.o w.rs j).ss k).r m)) 78 0]) (0,t5) ⟨Nat.zero_le _,hz1,ht5l⟩ ?_ ?_
      ·(refine Weak.of [0,1,2,3] [] rfl rfl ?_ ?_<;>(repeat' first|exact zT|refine zA ?_ ?_)<;>(conv=>whnf)<;>(repeat'(exact rfl))<;>(first|(intro _ _;rfl)|(first|exact Or.inr ⟨rfl,rfl⟩|exact Or.inr ⟨rfl,Ck.contL_map (fun _=>rfl) _⟩)))
      rintro⟨n,t6⟩ ⟨hn,ht6,ht6l⟩;dsimp only at hn ht6 ht6l;by_cases hnl:n<(at_ Run.o (at_ Sm.o (at_ Rc.o w.rs j).ss k).r m).l.toNat
      ·have hn1:((n:Nat):Int)<(at_ Run.o (at_ Sm.o (at_ Rc.o w.rs j).ss k).r m).l:=by omega
       obtain⟨q,hq⟩:∃q,(at_ Run.o (at_ Sm.o (at_ Rc.o w.rs j).ss k).r m).l.toNat-n=q+1:=⟨(at_ Run.o (at_ Sm.o (at_ Rc.o w.rs j).ss k).r m).l.toNat-n-1,by omega⟩
       rw[hq] at ht6;obtain⟨g1,g2,g3⟩:=take1_step ht6
       have hcc:¬(at_ Run.o (at_ Sm.o (at_ Rc.o w.rs j).ss k).r m).s+(n:Int)≥w.c:=by omega
       have hix:0≤(at_ Run.o (at_ Sm.o (at_ Rc.o w.rs j).ss k).r m).s+(n:Int)∧(at_ Run.o (at_ Sm.o (at_ Rc.o w.rs j).ss k).r m).s+(n:Int)<w.c.toNat:=by omega
       have hoff:0+((at_ Run.o (at_ Sm.o (at_ Rc.o w.rs j).ss k).r m).s+(n:Int)).toNat*1=((at_ Run.o (at_ Sm.o (at_ Rc.o w.rs j).ss k).r m).s+(n:Int)).toNat:=by omega
       have hj:((at_ Run.o (at_ Sm.o (at_ Rc.o w.rs j).ss k).r m).s+(n:Int)).toNat<t6.length:=by omega
       have hgt:decide ((match at_ false t6 ((at_ Run.o (at_ Sm.o (at_ Rc.o w.rs j).ss k).r m).s+(n:Int)).toNat with|true=>(1:Int)|false=>0)>0)=false:=by rw[g2];rfl
       (conv=>whnf);repeat(first|refine KIf.dt ?_ ?_;assumption|refine KIf.df ?_ ?_;assumption|refine KIf.f ?_ ?_;assumption|refine Need.mk ?_ ?_;(first|trivial|(constructor<;>omega))|refine KIf.t (congrArg Bool.not (decide_eq_false (by omega))) ?_|refine RK.of (Ck.loadM ob false hoff rfl rfl hj) ?_|refine Ck.storeM ob true rfl hoff rfl rfl rfl rfl rfl hj ?_);conv=>whnf
       refine⟨(n+1,t6.set ((at_ Run.o (at_ Sm.o (at_ Rc.o w.rs j).ss k).r m).s+(n:Int)).toNat true),⟨hnl,by rw[show(at_ Run.o (at_ Sm.o (at_ Rc.o w.rs j).ss k).r m).l.toNat-(n+1)=q by omega];exact g3,by rw[List.length_set];exact ht6l⟩,by dsimp only;omega,?_⟩
       (refine Weak.of [0,1,2,3] [] rfl rfl ?_ ?_<;>(repeat' first|exact zT|refine zA ?_ ?_)<;>(conv=>whnf)<;>(repeat'(exact rfl))<;>(first|(intro _ _;rfl)|(first|exact Or.inr ⟨rfl,rfl⟩|exact Or.inr ⟨rfl,Ck.contL_map (fun _=>rfl) _⟩)))
      ·have hn1:¬((n:Nat):Int)<(at_ Run.o (at_ Sm.o (at_ Rc.o w.rs j).ss k).r m).l:=by omega
       rw[show(at_ Run.o (at_ Sm.o (at_ Rc.o w.rs j).ss k).r m).l.toNat-n=0 by omega] at ht6;have ht7:t6=t7:=congrArg Prod.fst ht6
       (conv=>whnf);repeat(first|refine KIf.df ?_ ?_;assumption|refine KIf.f rfl ?_|refine Need.mk ?_ ?_;((constructor<;>omega)));conv=>whnf
       refine⟨(m+1,t6),⟨hmm,by rw[ht7];exact hz2,ht6l⟩,by dsimp only;omega,?_⟩
       (refine Weak.of [0,1,2] [] rfl rfl ?_ ?_<;>(repeat' first|exact zT|refine zA ?_ ?_)<;>(conv=>whnf)<;>(repeat'(exact rfl))<;>(first|(intro _ _;rfl)|(first|exact Or.inr ⟨rfl,rfl⟩|exact Or.inr ⟨rfl,Ck.contL_map (fun _=>rfl) _⟩)))
    ·have hmm2:¬((m:Nat):Int)<(((at_ Sm.o (at_ Rc.o w.rs j).ss k).r.length:Nat):Int):=by omega
     have hme:m=(at_ Sm.o (at_ Rc.o w.rs j).ss k).r.length:=by omega
     have ht8:t5=t8:=by
      rw[hme,List.take_length,hy1] at ht5;exact(Option.some.inj ht5).symm
     (conv=>whnf);repeat(first|refine KIf.df ?_ ?_;assumption|refine Need.mk ?_ ?_;(first|omega|(constructor<;>omega)));conv=>whnf
     refine⟨(k+1,t5),⟨hkl,by rw[ht8];exact hy2,ht5l⟩,by dsimp only;omega,?_⟩
     (refine Weak.of [0,1,2] [] rfl rfl ?_ ?_<;>(repeat' first|exact zT|refine zA ?_ ?_)<;>(conv=>whnf)<;>(repeat'(exact rfl))<;>(first|(intro _ _;rfl)|(first|exact Or.inr ⟨rfl,rfl⟩|exact Or.inr ⟨rfl,Ck.contL_map (fun _=>rfl) _⟩)))
   ·have hkl2:¬((k:Nat):Int)<(((at_ Rc.o w.rs j).ss.length:Nat):Int):=by omega
    have hke:k=(at_ Rc.o w.rs j).ss.length:=by omega
    have ht9:t4=t9:=by
     rw[hke,List.take_length,hx1] at ht4;exact(Option.some.inj ht4).symm
    have hBk:=Below_k w j hlt hfw.f.rs
    have next:cl (taken w) (za7 w (j+1))=some t4:=by rw[ht9];exact hx2
    by_cases h16:16≤j
    ·obtain⟨ow,how⟩:∃b,own (at_ Rc.o w.rs j)=b:=⟨_,rfl⟩
     rw[decide_eq_true h16,how] at hBk;cases ow
     ·(conv=>whnf);repeat(first|refine KIf.df ?_ ?_;assumption|refine KIf.f rfl ?_|refine Need.mk ?_ ?_;((constructor<;>omega))|refine KCall.pure (hBk) ?_);conv=>whnf
      refine⟨(j+1,t4),⟨hlt,next,ht4l⟩,by dsimp only;omega,?_⟩
      (refine Weak.of [0,1] [] rfl rfl ?_ ?_<;>(repeat' first|exact zT|refine zA ?_ ?_)<;>(conv=>whnf)<;>(repeat'(exact rfl))<;>(first|(intro _ _;rfl)|(first|exact Or.inr ⟨rfl,rfl⟩|exact Or.inr ⟨rfl,Ck.contL_map (fun _=>rfl) _⟩)))
     ·obtain⟨b1,b2,b3⟩:=hbel j h16 hlt how;have hH:=zoT R ((j:Nat):Int) (by omega) b1;by_cases hk1:(at_ Rc.o w.rs j).k=1
      ·(conv=>whnf);repeat(first|refine KIf.df ?_ ?_;assumption|refine KIf.t rfl ?_|refine KIf.f rfl ?_|refine Need.mk ?_ ?_;((constructor<;>omega))|refine KIf.f (congrArg Bool.not (decide_eq_true (by omega))) ?_|refine KCall.pure (hBk) ?_|refine KCall.pure (hH) ?_);conv=>whnf
       refine⟨(j+1,t4),⟨hlt,next,ht4l⟩,by dsimp only;omega,?_⟩
       (refine Weak.of [0,1] [] rfl rfl ?_ ?_<;>(repeat' first|exact zT|refine zA ?_ ?_)<;>(conv=>whnf)<;>(repeat'(exact rfl))<;>(first|(intro _ _;rfl)|(first|exact Or.inr ⟨rfl,rfl⟩|exact Or.inr ⟨rfl,Ck.contL_map (fun _=>rfl) _⟩)))
      ·have b4:(((at_ Rc.o w.rs j).ns.length:Nat):Int)=1:=by rw[b3 hk1];rfl
       (conv=>whnf);repeat(first|refine KIf.df ?_ ?_;assumption|refine KIf.t rfl ?_|refine KIf.f rfl ?_|refine Need.mk ?_ ?_;((constructor<;>omega))|refine KIf.t (congrArg Bool.not (decide_eq_false (by omega))) ?_|refine KIf.f (congrArg Bool.not (decide_eq_true (by omega))) ?_|refine KCall.pure (hBk) ?_|refine KCall.pure (hH) ?_);conv=>whnf
       refine⟨(j+1,t4),⟨hlt,next,ht4l⟩,by dsimp only;omega,?_⟩
       (refine Weak.of [0,1] [] rfl rfl ?_ ?_<;>(repeat' first|exact zT|refine zA ?_ ?_)<;>(conv=>whnf)<;>(repeat'(exact rfl))<;>(first|(intro _ _;rfl)|(first|exact Or.inr ⟨rfl,rfl⟩|exact Or.inr ⟨rfl,Ck.contL_map (fun _=>rfl) _⟩)))
    ·rw[decide_eq_false h16,Bool.false_and] at hBk
     (conv=>whnf);repeat(first|refine KIf.df ?_ ?_;assumption|refine KIf.f rfl ?_|refine Need.mk ?_ ?_;((constructor<;>omega))|refine KCall.pure (hBk) ?_);conv=>whnf
     refine⟨(j+1,t4),⟨hlt,next,ht4l⟩,by dsimp only;omega,?_⟩
     (refine Weak.of [0,1] [] rfl rfl ?_ ?_<;>(repeat' first|exact zT|refine zA ?_ ?_)<;>(conv=>whnf)<;>(repeat'(exact rfl))<;>(first|(intro _ _;rfl)|(first|exact Or.inr ⟨rfl,rfl⟩|exact Or.inr ⟨rfl,Ck.contL_map (fun _=>rfl) _⟩)))
  ·(conv=>whnf);repeat(((refine KIf.f (decide_eq_false (by omega)) ?_;conv=>whnf)))
   refine .z [] ?_;exact zaa rfl
theorem CheckerSecond_k (v:Pt):PureC Tryz.prog 7 [aPts v] (bb true):=by
 cases hf:fewP v
 ·exact CheckerSecond_few v hf
 ·by_cases he:Ck.partsErr v=0
  ·cases hfo:za4 v
   ·exact CheckerSecond_good v hf he hfo
   ·exact CheckerSecond_foreign v hf he hfo
  ·exact CheckerSecond_bad v hf he
end Go.Proofs.YtgcjejajljhnaaaGreatDoor
