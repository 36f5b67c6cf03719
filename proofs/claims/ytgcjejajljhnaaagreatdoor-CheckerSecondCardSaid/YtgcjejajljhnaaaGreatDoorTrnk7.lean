/- Own text, part Trnk 7: walks of the package acl and of its reference, and the plain laws that they lean on; no statement of the seat is here. -/
import Derived.Test.YtgcjejajljhnaaaGreatDoorTrnk5
import Derived.Test.YtgcjejajljhnaaaGreatDoorTrnk3
import Derived.Test.YtgcjejajljhnaaaGreatDoorTrnk6
import Derived.Test.YtgcjejajljhnaaaGreatDoorTrnk4
set_option linter.all false
namespace Go.Proofs.YtgcjejajljhnaaaGreatDoor
open Go.Ex Ck
set_option maxRecDepth 100000
set_option maxHeartbeats 16000000
theorem zlz (n:Nat) (p:Ck.Rp) (d:Int) (r:Nat) (nm:List UInt8) (hf:Rf n p) (hn:n≤96) (hd:0≤d∧d<n) (hr:r<n) (hse:∀x∈p.v.rs,x.ss.length≤100000∧x.es.length≤1000):HG Tryz.prog 2 20 220 154 [.ptr 0 0,ib d,tb nm,ib (r:Nat)] (gP false p) [.row (pRow 20 1 p) 106 0, .row (flatI (rcP false 20) 0 p.v.rs) 66 10] (.tup [])
  (gP false (Ck.enter p d nm r)) [.row (pRow 20 1 (Ck.enter p d nm r)) 106 0, .row (flatI (rcP false 20) 0 (Ck.enter p d nm r).v.rs) 66 10]:=by
 obtain⟨k,rfl⟩:=Int.eq_ofNat_of_zero_le hd.1;exact zkr n p k r nm hf hn (by omega) hr hse
theorem names1_h (n:Nat) (q0:Ck.Rp) (i:Nat) (hf:Rk n q0) (hn:n≤96) (hi:i<n) (hb:q0.fd.length≤500000):HG Tryz.prog 3 20 220 150 [ib (i:Nat), .ptr 2 0] (gP false q0) [.row (pRow 20 1 q0) 106 0, .row (flatI (rcP false 20) 0 q0.v.rs) 66 10, .row [.ptr 0 0] 107 0] (.tup [])
   (gP false (badNames1 q0 i)) [.row (pRow 20 1 (badNames1 q0 i)) 106 0, .row (flatI (rcP false 20) 0 (badNames1 q0 i).v.rs) 66 10, .row [.ptr 0 0] 107 0]:=by
 have hqn:=hf.rf.n
 have hq96:q0.v.rs.length≤96:=by omega
 have hlt:i<q0.v.rs.length:=by omega
 have hi96:i<96:=by omega
 have hd0:(0:Int)≤(i:Nat)∧((i:Nat):Int)<(q0.v.rs.length:Nat):=⟨by omega,by omega⟩
 have h7:0+((i:Nat):Int).toNat*10+7=i*10+7:=by simp
 obtain⟨a1,a2,a3,a4⟩:=hf.at hi
 have hls:badNames1 q0 i=(it (nameStep i (at_ Rc.o q0.v.rs i).ns) (q0,[]) (at_ Rc.o q0.v.rs i).ns.length).1.setR i {(it (nameStep i (at_ Rc.o q0.v.rs i).ns) (q0,[]) (at_ Rc.o q0.v.rs i).ns.length).1.rc i with ns:=(it (nameStep i (at_ Rc.o q0.v.rs i).ns) (q0,[]) (at_ Rc.o q0.v.rs i).ns.length).2}:=by unfold badNames1;simp only[zae]
 obtain⟨all,hall⟩:∃all,(at_ Rc.o q0.v.rs i).ns=all:=⟨_,rfl⟩
 refine HG.of kmix (by omega) ?_
 (conv=>whnf);repeat(first|refine Need.mk ?_ ?_;exact hd0|refine RK.of (zaP (zat false 20) Rc.o (k:=7) h7 rfl rfl hlt (by decide) rfl) ?_|rw[hall]);conv=>whnf
 rw[hall] at a1 hls;have hin:=zkh (i:=i) (all:=all) hf a1.2
 refine WLoop.inv kmix (D:=Nat) (fun k=>all.length-k) (fun k=>k≤all.length) (fun k=>slots [(0,ib i),(1, .ptr 2 0),(3,stN 3 (it (nameStep i all) (q0,[]) k).2),(4,LS 3 aNm Nm.o all),(18,LS 3 aNm Nm.o all),(19,ib all.length),(20,ib k)] 86)
  (fun k=>zax 20 220 (gP false (it (nameStep i all) (q0,[]) k).1) (stQ (.row (pRow 20 1 (it (nameStep i all) (q0,[]) k).1) 106 0) (.row (flatI (rcP false 20) 0 (it (nameStep i all) (q0,[]) k).1.v.rs) 66 10) (.row [.ptr 0 0] 107 0) (it (nameStep i all) (q0,[]) k).2)) 0 (Nat.zero_le _) ?_ ?_
 ·(refine Weak.ofG [0,1,2] [] [] rfl rfl rfl rfl ?_ ?_ ?_ ?_;exact⟨pQ rfl rfl,rQ hq96,⟨rfl,rfl,WL.row (zbl ⟨rfl,rfl⟩)⟩,trivial⟩;exact gQ;exact zN;(focus((repeat' first|exact zT|exact rfl|(intro _ _;exact rfl)|refine zA ?_ ?_))))
 ·intro k hk;obtain⟨h3,h4,h5,h6⟩:=hin k hk;have hst2:it (nameStep i all) (q0,[]) (k+1)=nameStep i all (it (nameStep i all) (q0,[]) k) k:=rfl
  have hfin2:k=all.length→badNames1 q0 i=(it (nameStep i all) (q0,[]) k).1.setR i {(it (nameStep i all) (q0,[]) k).1.rc i with ns:=(it (nameStep i all) (q0,[]) k).2}:=fun e=>by rw[hls,e]
  generalize it (nameStep i all) (q0,[]) k=s2 at*
  obtain⟨q,st⟩:=s2;dsimp only at h3 h4 h5 h6 hst2 hfin2;have hqqn:q.v.rs.length=n:=h3.rf.n
  have hqq96:q.v.rs.length≤96:=by omega
  have hqd:i<q.v.rs.length:=by omega
  have hstl:st.length≤1000:=by omega
  have hstn:∀e∈st,NmOk e.n:=fun e he=>a1.2 e (h6 e he)
  have stay2:∀{t:Tm} {s:St} {q':Ck.Rp} {st':List Nm},nameStep i all (q,st) k=(q',st')→Weak 3 t s (slots [(0,ib i),(1, .ptr 2 0),(3,stN 3 st'),(4,LS 3 aNm Nm.o all),(18,LS 3 aNm Nm.o all),(19,ib all.length),(20,ib (k+1:Nat))] 86) (zax 20 220 (gP false q') (stQ (.row (pRow 20 1 q') 106 0) (.row (flatI (rcP false 20) 0 q'.v.rs) 66 10) (.row [.ptr 0 0] 107 0) st'))→
   Weak 3 t s (slots [(0,ib i),(1, .ptr 2 0),(3,stN 3 (it (nameStep i all) (q0,[]) (k+1)).2),(4,LS 3 aNm Nm.o all),(18,LS 3 aNm Nm.o all),(19,ib all.length),(20,ib (k+1:Nat))] 86) (zax 20 220 (gP false (it (nameStep i all) (q0,[]) (k+1)).1) (stQ (.row (pRow 20 1 (it (nameStep i all) (q0,[]) (k+1)).1) 106 0) (.row (flatI (rcP false 20) 0 (it (nameStep i all) (q0,[]) (k+1)).1.v.rs) 66 10) (.row [.ptr 0 0] 107 0) (it (nameStep i all) (q0,[]) (k+1)).2)):=fun he hw=>by rw[hst2,he];exact hw
  dsimp only
  cases st with
  |nil=>
   conv=>whnf
   refine KIf.dec (fun hkl=> ?_) (fun hkl=> ?_)
   ·have hkx:k<all.length:=by omega
    have hk0:(0:Int)≤(k:Nat)∧((k:Nat):Int)<(all.length:Nat):=⟨by omega,by omega⟩
    have hxm:=at_mem Nm.o all k hkx
    obtain⟨x,hx⟩:∃x,at_ Nm.o all k=x:=⟨_,rfl⟩
    rw[hx] at hxm
    have hx2:at_ Nm.o all (((k:Nat):Int)).toNat=x:=by rw[Int.toNat_natCast];exact hx
    have hxn:=a1.2 x hxm;have hen:=zln q i [] x h3.na hqd hxn hstl hstn
    obtain⟨R,hR⟩:∃R,Ck.isName q i [] x=R:=⟨_,rfl⟩
    have hes:nameStep i all (q,[]) k=if R.1=true then(if R.2=true then q else enter (q.note 5 i ([]:List Nm).length) x.d.r x.n i,[]++[x]) else(if(!([]:List Nm).contains x&& !(all.drop (k+1)).contains x)=true then drop (q.note 4 i ([]:List Nm).length) i x else q.note 4 i ([]:List Nm).length,[]):=by
     unfold nameStep;dsimp only;rw[hx,hR]
    rw[hR] at hen;obtain⟨b1,b2⟩:=R;dsimp only at hen hes
    have hb9:q.fd.length≤1000000:=by omega
    (conv=>whnf);repeat(first|refine Need.mk ?_ ?_;exact hk0|rw[hx2]|refine KCall.lend (zF 20 [0,1]) (hen) rfl ?_ ?_;exact Wzc (zhi (Lies.mk (fun j hj=>zbd hj) (fun j hj=>zaq (by omega))) hqq96 rfl (zbA (by simp)) rfl (zbA (by simp))) (Wzc (zaa rfl) (Wzc (by unfold Wz;rfl) (Wzc (zaa rfl) Wzn))));conv=>whnf
    cases b1
    ·have hk1:Small (((k:Nat):Int)+1):=⟨by omega,by omega⟩
     have hk2:(0:Int)≤((k:Nat):Int)+1∧((k:Nat):Int)+1≤(all.length:Nat):=⟨by omega,by omega⟩
     have hdl:all.length-(((k:Nat):Int)+1).toNat=all.length-(k+1):=by omega
     have hc3:=zcq ([]:List Nm) x (by omega);have hc4:=zcq (all.drop (k+1)) x (by rw[List.length_drop];omega)
     obtain⟨b3,hb3⟩:∃b,([]:List Nm).contains x=b:=⟨_,rfl⟩
     obtain⟨b4,hb4⟩:∃b,(all.drop (k+1)).contains x=b:=⟨_,rfl⟩
     rw[hb3] at hc3;rw[hb4] at hc4;rw[hb3,hb4] at hes;cases b3
     ·cases b4
      ·have hes2:nameStep i all (q,[]) k=(drop (q.note 4 i ([]:List Nm).length) i x,[]):=hes;have hdp:=zmX n (q.note 4 i ([]:List Nm).length) i x (h3.note 4 i ([]:List Nm).length).rf hn hi (fun w hw=>(h3.na.es w hw).1)
       have hd96:(drop (q.note 4 i ([]:List Nm).length) i x).v.rs.length≤96:=by
        have:=(h3.note 4 i ([]:List Nm).length).drop (r:=i) (m:=x);rw[this.rf.n];exact hn
       (conv=>whnf);repeat(first|refine Need.mk ?_ ?_;(focus(first|exact hk1|exact hk2))|refine KCall.liftG [0,1] (.tup []) [.row (pRow 221 1 (q.note 4 i ([]:List Nm).length)) 106 0, .row (flatI (rcP false 221) 0 ((q.note 4 i ([]:List Nm).length)).v.rs) 66 10] (zcF false q 4 i ([]:List Nm).length hqq96 h3.rf.fl hb9) rfl (zab _ _) (zab _ _) ?_ ?_ ?_ ?_;exact⟨pF FR.G ⟨rfl,rfl⟩,rF FR.G hqq96,trivial⟩;(focus((repeat' first|exact zT|exact rfl|refine zA ?_ ?_)));exact⟨(by unfold Rn Rnl;trivial),rfl,⟨⟨rfl,rfl, .inl (zaA rfl)⟩,⟨rfl,rfl, .inl (zay hqq96)⟩,trivial⟩⟩|refine DCall.lend ([]) (hc3) rfl ?_ ?_;exact Wzc (by unfold Wz;rfl) (Wzc (zaa rfl) Wzn)|refine DCall.lend ([]) (hc4) rfl ?_ ?_;exact Wzc (ziN hdl) (Wzc (zaa rfl) Wzn)|refine KCall.liftG [0,1] (.tup []) [.row (pRow 439 1 (drop (q.note 4 i ([]:List Nm).length) i x)) 106 0, .row (flatI (rcP false 439) 0 ((drop (q.note 4 i ([]:List Nm).length) i x)).v.rs) 66 10] (hdp) rfl (zab _ _) (zab _ _) ?_ ?_ ?_ ?_;exact⟨pF FR.G ⟨rfl,rfl⟩,rF FR.G hqq96,trivial⟩;(focus((repeat' first|exact zT|exact rfl|refine zA ?_ ?_)));exact⟨(by unfold Rn Rnl;trivial),rfl,⟨⟨rfl,rfl, .inl (zaA rfl)⟩,⟨rfl,rfl, .inl (zay hd96)⟩,trivial⟩⟩|refine KIf.t rfl ?_|refine Need.mk (p:=zah _=true) ?_ ?_;decide+kernel);conv=>whnf
       refine⟨k+1,by omega,by dsimp only;omega,stay2 hes2 ?_⟩;refine Weak.ofG [0,1,2] [] [] rfl rfl rfl rfl ?_ ?_ ?_ ?_
       ·exact⟨pQ rfl rfl,rQ hd96,⟨rfl,rfl,WL.row (zbl ⟨rfl,rfl⟩)⟩,trivial⟩
       ·exact gQ
       ·exact zN
       ·(repeat' first|exact zT|exact rfl|(intro _ _;exact rfl)|refine zA ?_ ?_)
      ·have hes2:nameStep i all (q,[]) k=(q.note 4 i ([]:List Nm).length,[]):=hes
       (conv=>whnf);repeat(first|refine Need.mk ?_ ?_;(focus(first|exact hk1|exact hk2))|refine KCall.liftG [0,1] (.tup []) [.row (pRow 221 1 (q.note 4 i ([]:List Nm).length)) 106 0, .row (flatI (rcP false 221) 0 ((q.note 4 i ([]:List Nm).length)).v.rs) 66 10] (zcF false q 4 i ([]:List Nm).length hqq96 h3.rf.fl hb9) rfl (zab _ _) (zab _ _) ?_ ?_ ?_ ?_;exact⟨pF FR.G ⟨rfl,rfl⟩,rF FR.G hqq96,trivial⟩;(focus((repeat' first|exact zT|exact rfl|refine zA ?_ ?_)));exact⟨(by unfold Rn Rnl;trivial),rfl,⟨⟨rfl,rfl, .inl (zaA rfl)⟩,⟨rfl,rfl, .inl (zay hqq96)⟩,trivial⟩⟩|refine DCall.lend ([]) (hc3) rfl ?_ ?_;exact Wzc (by unfold Wz;rfl) (Wzc (zaa rfl) Wzn)|refine DCall.lend ([]) (hc4) rfl ?_ ?_;exact Wzc (ziN hdl) (Wzc (zaa rfl) Wzn)|refine KIf.f ?_ ?_;assumption|refine KIf.t rfl ?_|refine Need.mk (p:=zah _=true) ?_ ?_;decide+kernel);conv=>whnf
       refine⟨k+1,by omega,by dsimp only;omega,stay2 hes2 ?_⟩;refine Weak.ofG [0,1,2] [] [] rfl rfl rfl rfl ?_ ?_ ?_ ?_
       ·exact⟨pQ rfl rfl,rQ hqq96,⟨rfl,rfl,WL.row (zbl ⟨rfl,rfl⟩)⟩,trivial⟩
       ·exact gQ
       ·exact zN
       ·(repeat' first|exact zT|exact rfl|(intro _ _;exact rfl)|refine zA ?_ ?_)
     ·exact absurd hb3 (by simp)
    ·cases b2
     ·have hright:=zdt (p:=q) (r:=i) (b:=[]) (n:=x) (by rw[hR]);have hroom:=zcY (p:=q) (r:=i) (b:=[]) (n:=x) (by rw[hR]) (by rw[hR]);have hdr:=zey hright;rw[hqqn] at hdr
      have hse5:∀w:Rc,w∈(q.note 5 i ([]:List Nm).length).v.rs→w.ss.length≤100000∧w.es.length≤1000:=fun w hw=>⟨h3.ss w hw,(h3.na.es w hw).1⟩
      have hent:=zlz n (q.note 5 i ([]:List Nm).length) x.d.r i x.n (h3.note 5 i ([]:List Nm).length).rf hn hdr hi hse5;have hes2:nameStep i all (q,[]) k=(enter (q.note 5 i ([]:List Nm).length) x.d.r x.n i,[]++[x]):=hes
      have he96:(enter (q.note 5 i ([]:List Nm).length) x.d.r x.n i).v.rs.length≤96:=by unfold Ck.enter Rp.setR;simp only[List.length_set];exact hqq96
      (conv=>whnf);repeat(first|refine KCall.liftG [0,1] (.tup []) [.row (pRow 221 1 (q.note 5 i ([]:List Nm).length)) 106 0, .row (flatI (rcP false 221) 0 ((q.note 5 i ([]:List Nm).length)).v.rs) 66 10] (zcF false q 5 i ([]:List Nm).length hqq96 h3.rf.fl hb9) rfl (zab _ _) (zab _ _) ?_ ?_ ?_ ?_;exact⟨pF FR.G ⟨rfl,rfl⟩,rF FR.G hqq96,trivial⟩;(focus((repeat' first|exact zT|exact rfl|refine zA ?_ ?_)));exact⟨(by unfold Rn Rnl;trivial),rfl,⟨⟨rfl,rfl, .inl (zaA rfl)⟩,⟨rfl,rfl, .inl (zay hqq96)⟩,trivial⟩⟩|refine KCall.liftG [0,1] (.tup []) [.row (pRow 439 1 (enter (q.note 5 i ([]:List Nm).length) x.d.r x.n i)) 106 0, .row (flatI (rcP false 439) 0 ((enter (q.note 5 i ([]:List Nm).length) x.d.r x.n i)).v.rs) 66 10] (hent) rfl (zab _ _) (zab _ _) ?_ ?_ ?_ ?_;exact⟨pF FR.G ⟨rfl,rfl⟩,rF FR.G hqq96,trivial⟩;(focus((repeat' first|exact zT|exact rfl|refine zA ?_ ?_)));exact⟨(by unfold Rn Rnl;trivial),rfl,⟨⟨rfl,rfl, .inl (zaA rfl)⟩,⟨rfl,rfl, .inl (zay he96)⟩,trivial⟩⟩|refine NCase.s (Nat.succ_ne_zero _) ?_|refine KIf.t rfl ?_|refine KIf.f rfl ?_|refine Need.mk ?_ ?_;(first|trivial|(constructor<;>omega)));conv=>whnf
      refine⟨k+1,by omega,by dsimp only;omega,stay2 hes2 ?_⟩;refine Weak.ofG [0,1,2,658] [] [] rfl rfl rfl rfl ?_ ?_ ?_ ?_
      ·exact⟨pQ rfl rfl,rQ he96,⟨rfl,rfl,WL.row (zbl ⟨rfl,rfl⟩)⟩,⟨rfl,rfl, .same rfl rfl⟩,trivial⟩
      ·exact gQ
      ·exact zN
      ·(repeat' first|exact zT|exact rfl|(intro _ _;exact rfl)|refine zA ?_ ?_)
     ·have hes2:nameStep i all (q,[]) k=(q,[x]):=hes
      (conv=>whnf);repeat((first|(refine NCase.s (Nat.succ_ne_zero _) ?_;conv=>whnf)|(refine KIf.f rfl ?_;conv=>whnf)|(refine Need.mk ?_ ?_;(first|trivial|(constructor<;>omega));conv=>whnf)))
      refine⟨k+1,by omega,by dsimp only;omega,stay2 hes2 ?_⟩;refine Weak.ofG [0,1,2,222] [] [] rfl rfl rfl rfl ?_ ?_ ?_ ?_
      ·exact⟨pQ rfl rfl,rQ hqq96,⟨rfl,rfl,WL.row (zbl ⟨rfl,rfl⟩)⟩,⟨rfl,rfl, .same rfl rfl⟩,trivial⟩
      ·exact gQ
      ·exact zN
      ·(repeat' first|exact zT|exact rfl|(intro _ _;exact rfl)|refine zA ?_ ?_)
   ·have hke:k=all.length:=by omega
    have hls4:=hfin2 hke;rw[zae] at hls4
    have hd1:(0:Int)≤(i:Nat)∧((i:Nat):Int)<(q.v.rs.length:Nat):=⟨by omega,by omega⟩
    (conv=>whnf);repeat(first|refine Need.mk ?_ ?_;exact hd1|refine zbC (zat false 20) Rc.o (k:=7) [.sc (.slice none 0 0)] (rcN 20 i (at_ Rc.o q.v.rs i) (.sc (.slice none 0 0))) h7 rfl rfl rfl rfl rfl rfl hqd (by decide) rfl ?_);conv=>whnf
    rw[hls4];refine⟨?_⟩;refine Weak.ofG [0,1,2] [] [] rfl rfl rfl rfl ?_ ?_ ?_ ?_
    ·refine⟨⟨rfl,rfl,by rw[zbp];exact WL.row (zdp ⟨rfl,rfl⟩ zN)⟩,⟨rfl,rfl,WL.row (zbf (i:=i) hqq96 List.length_set (fun k hk=>zau _ _ _ _ _ (Ne.symm hk)) zN ?_)⟩,⟨rfl,rfl,WL.row (zbl ⟨rfl,rfl⟩)⟩,trivial⟩;show WL _ _ _ (rcP false 20 i (at_ Rc.o (q.v.rs.set i _) i)) _;rw[zal _ _ _ _ hqd];exact znp hi96 zN (Wv.nil rfl)
    ·exact fun j o1 h _=>⟨(congrFun (zfo (ph:=false) (p:=q) (i:=i) (x:={at_ Rc.o q.v.rs i with ns:=[]}) ⟨rfl,rfl⟩) j).symm.trans h,zab _ _ j o1 h⟩
    ·exact zN
    ·(repeat' first|exact zT|refine zA ?_ ?_)
  |cons y st=>
   conv=>whnf
   refine KIf.dec (fun hkl=> ?_) (fun hkl=> ?_)
   ·have hkx:k<all.length:=by omega
    have hk0:(0:Int)≤(k:Nat)∧((k:Nat):Int)<(all.length:Nat):=⟨by omega,by omega⟩
    have hxm:=at_mem Nm.o all k hkx
    obtain⟨x,hx⟩:∃x,at_ Nm.o all k=x:=⟨_,rfl⟩
    rw[hx] at hxm
    have hx2:at_ Nm.o all (((k:Nat):Int)).toNat=x:=by rw[Int.toNat_natCast];exact hx
    have hxn:=a1.2 x hxm;have hen:=zln q i (y::st) x h3.na hqd hxn hstl hstn
    obtain⟨R,hR⟩:∃R,Ck.isName q i (y::st) x=R:=⟨_,rfl⟩
    have hes:nameStep i all (q,(y::st)) k=if R.1=true then(if R.2=true then q else enter (q.note 5 i ((y::st):List Nm).length) x.d.r x.n i,(y::st)++[x]) else(if(!((y::st):List Nm).contains x&& !(all.drop (k+1)).contains x)=true then drop (q.note 4 i ((y::st):List Nm).length) i x else q.note 4 i ((y::st):List Nm).length,(y::st)):=by
     unfold nameStep;dsimp only;rw[hx,hR]
    rw[hR] at hen;obtain⟨b1,b2⟩:=R;dsimp only at hen hes
    have hb9:q.fd.length≤1000000:=by omega
    (conv=>whnf);repeat(first|refine Need.mk ?_ ?_;exact hk0|rw[hx2]|refine KCall.lend (zF 20 [0,1,3]) (hen) rfl ?_ ?_;exact Wzc (zhi (Lies.mk (fun j hj=>zbd hj) (fun j hj=>zaq (by omega))) hqq96 rfl (zbA (by simp)) rfl (zbA (by simp))) (Wzc (zaa rfl) (Wzc (zir rfl (zbA (by simp)) rfl) (Wzc (zaa rfl) Wzn))));conv=>whnf
    cases b1
    ·have hk1:Small (((k:Nat):Int)+1):=⟨by omega,by omega⟩
     have hk2:(0:Int)≤((k:Nat):Int)+1∧((k:Nat):Int)+1≤(all.length:Nat):=⟨by omega,by omega⟩
     have hdl:all.length-(((k:Nat):Int)+1).toNat=all.length-(k+1):=by omega
     have hc3:=zcq ((y::st):List Nm) x (by omega);have hc4:=zcq (all.drop (k+1)) x (by rw[List.length_drop];omega)
     obtain⟨b3,hb3⟩:∃b,((y::st):List Nm).contains x=b:=⟨_,rfl⟩
     obtain⟨b4,hb4⟩:∃b,(all.drop (k+1)).contains x=b:=⟨_,rfl⟩
     rw[hb3] at hc3;rw[hb4] at hc4;rw[hb3,hb4] at hes;cases b3
     ·cases b4
      ·have hes2:nameStep i all (q,(y::st)) k=(drop (q.note 4 i ((y::st):List Nm).length) i x,(y::st)):=hes;have hdp:=zmX n (q.note 4 i ((y::st):List Nm).length) i x (h3.note 4 i ((y::st):List Nm).length).rf hn hi (fun w hw=>(h3.na.es w hw).1)
       have hd96:(drop (q.note 4 i ((y::st):List Nm).length) i x).v.rs.length≤96:=by
        have:=(h3.note 4 i ((y::st):List Nm).length).drop (r:=i) (m:=x);rw[this.rf.n];exact hn
       (conv=>whnf);repeat(first|refine Need.mk ?_ ?_;(focus(first|exact hk1|exact hk2))|refine KCall.liftG [0,1] (.tup []) [.row (pRow 221 1 (q.note 4 i ((y::st):List Nm).length)) 106 0, .row (flatI (rcP false 221) 0 ((q.note 4 i ((y::st):List Nm).length)).v.rs) 66 10] (zcF false q 4 i ((y::st):List Nm).length hqq96 h3.rf.fl hb9) rfl (zab _ _) (zab _ _) ?_ ?_ ?_ ?_;exact⟨pF FR.G ⟨rfl,rfl⟩,rF FR.G hqq96,trivial⟩;(focus((repeat' first|exact zT|exact rfl|refine zA ?_ ?_)));exact⟨(by unfold Rn Rnl;trivial),rfl,⟨⟨rfl,rfl, .inl (zaA rfl)⟩,⟨rfl,rfl, .inl (zay hqq96)⟩,trivial⟩⟩|refine DCall.lend ([3]) (hc3) rfl ?_ ?_;exact Wzc (zir rfl (by simp) rfl) (Wzc (zaa rfl) Wzn)|refine DCall.lend ([]) (hc4) rfl ?_ ?_;exact Wzc (ziN hdl) (Wzc (zaa rfl) Wzn)|refine KCall.liftG [0,1] (.tup []) [.row (pRow 439 1 (drop (q.note 4 i ((y::st):List Nm).length) i x)) 106 0, .row (flatI (rcP false 439) 0 ((drop (q.note 4 i ((y::st):List Nm).length) i x)).v.rs) 66 10] (hdp) rfl (zab _ _) (zab _ _) ?_ ?_ ?_ ?_;exact⟨pF FR.G ⟨rfl,rfl⟩,rF FR.G hqq96,trivial⟩;(focus((repeat' first|exact zT|exact rfl|refine zA ?_ ?_)));exact⟨(by unfold Rn Rnl;trivial),rfl,⟨⟨rfl,rfl, .inl (zaA rfl)⟩,⟨rfl,rfl, .inl (zay hd96)⟩,trivial⟩⟩|refine KIf.t rfl ?_|refine Need.mk (p:=zah _=true) ?_ ?_;decide+kernel);conv=>whnf
       refine⟨k+1,by omega,by dsimp only;omega,stay2 hes2 ?_⟩;refine Weak.ofG [0,1,2,3] [] [] rfl rfl rfl rfl ?_ ?_ ?_ ?_
       ·exact⟨pQ rfl rfl,rQ hd96,⟨rfl,rfl,WL.row (zbl ⟨rfl,rfl⟩)⟩,⟨rfl,rfl, .same rfl (zeI _)⟩,trivial⟩
       ·exact gQ
       ·exact zN
       ·(repeat' first|exact zT|exact rfl|(intro _ _;exact rfl)|refine zA ?_ ?_)
      ·have hes2:nameStep i all (q,(y::st)) k=(q.note 4 i ((y::st):List Nm).length,(y::st)):=hes
       (conv=>whnf);repeat(first|refine Need.mk ?_ ?_;(focus(first|exact hk1|exact hk2))|refine KCall.liftG [0,1] (.tup []) [.row (pRow 221 1 (q.note 4 i ((y::st):List Nm).length)) 106 0, .row (flatI (rcP false 221) 0 ((q.note 4 i ((y::st):List Nm).length)).v.rs) 66 10] (zcF false q 4 i ((y::st):List Nm).length hqq96 h3.rf.fl hb9) rfl (zab _ _) (zab _ _) ?_ ?_ ?_ ?_;exact⟨pF FR.G ⟨rfl,rfl⟩,rF FR.G hqq96,trivial⟩;(focus((repeat' first|exact zT|exact rfl|refine zA ?_ ?_)));exact⟨(by unfold Rn Rnl;trivial),rfl,⟨⟨rfl,rfl, .inl (zaA rfl)⟩,⟨rfl,rfl, .inl (zay hqq96)⟩,trivial⟩⟩|refine DCall.lend ([3]) (hc3) rfl ?_ ?_;exact Wzc (zir rfl (by simp) rfl) (Wzc (zaa rfl) Wzn)|refine DCall.lend ([]) (hc4) rfl ?_ ?_;exact Wzc (ziN hdl) (Wzc (zaa rfl) Wzn)|refine KIf.t rfl ?_|refine KIf.f rfl ?_|refine Need.mk (p:=zah _=true) ?_ ?_;decide+kernel);conv=>whnf
       refine⟨k+1,by omega,by dsimp only;omega,stay2 hes2 ?_⟩;refine Weak.ofG [0,1,2,3] [] [] rfl rfl rfl rfl ?_ ?_ ?_ ?_
       ·exact⟨pQ rfl rfl,rQ hqq96,⟨rfl,rfl,WL.row (zbl ⟨rfl,rfl⟩)⟩,⟨rfl,rfl, .same rfl (zeI _)⟩,trivial⟩
       ·exact gQ
       ·exact zN
       ·(repeat' first|exact zT|exact rfl|(intro _ _;exact rfl)|refine zA ?_ ?_)
     ·have hes2:nameStep i all (q,(y::st)) k=(q.note 4 i ((y::st):List Nm).length,(y::st)):=hes
      (conv=>whnf);repeat(first|refine Need.mk ?_ ?_;exact hk1|refine KCall.liftG [0,1] (.tup []) [.row (pRow 221 1 (q.note 4 i ((y::st):List Nm).length)) 106 0, .row (flatI (rcP false 221) 0 ((q.note 4 i ((y::st):List Nm).length)).v.rs) 66 10] (zcF false q 4 i ((y::st):List Nm).length hqq96 h3.rf.fl hb9) rfl (zab _ _) (zab _ _) ?_ ?_ ?_ ?_;exact⟨pF FR.G ⟨rfl,rfl⟩,rF FR.G hqq96,trivial⟩;(focus((repeat' first|exact zT|exact rfl|refine zA ?_ ?_)));exact⟨(by unfold Rn Rnl;trivial),rfl,⟨⟨rfl,rfl, .inl (zaA rfl)⟩,⟨rfl,rfl, .inl (zay hqq96)⟩,trivial⟩⟩|refine DCall.lend ([3]) (hc3) rfl ?_ ?_;exact Wzc (zir rfl (by simp) rfl) (Wzc (zaa rfl) Wzn)|refine KIf.t rfl ?_|refine KIf.f rfl ?_|refine Need.mk (p:=zah _=true) ?_ ?_;decide+kernel);conv=>whnf
      refine⟨k+1,by omega,by dsimp only;omega,stay2 hes2 ?_⟩;refine Weak.ofG [0,1,2,3] [] [] rfl rfl rfl rfl ?_ ?_ ?_ ?_
      ·exact⟨pQ rfl rfl,rQ hqq96,⟨rfl,rfl,WL.row (zbl ⟨rfl,rfl⟩)⟩,⟨rfl,rfl, .same rfl (zeI _)⟩,trivial⟩
      ·exact gQ
      ·exact zN
      ·(repeat' first|exact zT|exact rfl|(intro _ _;exact rfl)|refine zA ?_ ?_)
    ·cases b2
     ·have hright:=zdt (p:=q) (r:=i) (b:=(y::st)) (n:=x) (by rw[hR]);have hroom:=zcY (p:=q) (r:=i) (b:=(y::st)) (n:=x) (by rw[hR]) (by rw[hR]);have hdr:=zey hright;rw[hqqn] at hdr
      have hse5:∀w:Rc,w∈(q.note 5 i ((y::st):List Nm).length).v.rs→w.ss.length≤100000∧w.es.length≤1000:=fun w hw=>⟨h3.ss w hw,(h3.na.es w hw).1⟩
      have hent:=zlz n (q.note 5 i ((y::st):List Nm).length) x.d.r i x.n (h3.note 5 i ((y::st):List Nm).length).rf hn hdr hi hse5;have hes2:nameStep i all (q,(y::st)) k=(enter (q.note 5 i ((y::st):List Nm).length) x.d.r x.n i,(y::st)++[x]):=hes
      have he96:(enter (q.note 5 i ((y::st):List Nm).length) x.d.r x.n i).v.rs.length≤96:=by unfold Ck.enter Rp.setR;simp only[List.length_set];exact hqq96
      have hsz:((y::st).length+1)*32≤2^47∧(y::st).length+1≤2^60:=by constructor<;>omega
      (conv=>whnf);repeat(first|refine Need.mk ?_ ?_;(focus(first|exact hsz|exact znQ (y::st)))|refine KCall.liftG [0,1] (.tup []) [.row (pRow 221 1 (q.note 5 i ((y::st):List Nm).length)) 106 0, .row (flatI (rcP false 221) 0 ((q.note 5 i ((y::st):List Nm).length)).v.rs) 66 10] (zcF false q 5 i ((y::st):List Nm).length hqq96 h3.rf.fl hb9) rfl (zab _ _) (zab _ _) ?_ ?_ ?_ ?_;exact⟨pF FR.G ⟨rfl,rfl⟩,rF FR.G hqq96,trivial⟩;(focus((repeat' first|exact zT|exact rfl|refine zA ?_ ?_)));exact⟨(by unfold Rn Rnl;trivial),rfl,⟨⟨rfl,rfl, .inl (zaA rfl)⟩,⟨rfl,rfl, .inl (zay hqq96)⟩,trivial⟩⟩|refine KCall.liftG [0,1] (.tup []) [.row (pRow 439 1 (enter (q.note 5 i ((y::st):List Nm).length) x.d.r x.n i)) 106 0, .row (flatI (rcP false 439) 0 ((enter (q.note 5 i ((y::st):List Nm).length) x.d.r x.n i)).v.rs) 66 10] (hent) rfl (zab _ _) (zab _ _) ?_ ?_ ?_ ?_;exact⟨pF FR.G ⟨rfl,rfl⟩,rF FR.G hqq96,trivial⟩;(focus((repeat' first|exact zT|exact rfl|refine zA ?_ ?_)));exact⟨(by unfold Rn Rnl;trivial),rfl,⟨⟨rfl,rfl, .inl (zaA rfl)⟩,⟨rfl,rfl, .inl (zay he96)⟩,trivial⟩⟩|refine NCase.s (Nat.succ_ne_zero _) ?_|refine KIf.t rfl ?_|refine KIf.f rfl ?_|refine Need.mk ?_ ?_;(first|trivial|(constructor<;>omega)));conv=>whnf
      refine⟨k+1,by omega,by dsimp only;omega,stay2 hes2 ?_⟩;rw[zl9,zl8];refine Weak.ofG [0,1,2,658] [] [] rfl rfl rfl rfl ?_ ?_ ?_ ?_
      ·exact⟨pQ rfl rfl,rQ he96,⟨rfl,rfl,WL.row (zbl ⟨rfl,rfl⟩)⟩,⟨rfl,rfl, .same (by rw[List.flatMap_append];rfl) (note_ov.nmc (zeI _) rfl)⟩,trivial⟩
      ·exact gQ
      ·exact zN
      ·(repeat' first|exact zT|exact rfl|(intro _ _;exact rfl)|refine zA ?_ ?_)
     ·have hes2:nameStep i all (q,y::st) k=(q,y::st++[x]):=hes
      have hsz:((y::st).length+1)*32≤2^47∧(y::st).length+1≤2^60:=by constructor<;>omega
      (conv=>whnf);repeat(first|refine Need.mk ?_ ?_;(focus(first|exact hsz|exact znQ (y::st)))|refine NCase.s (Nat.succ_ne_zero _) ?_|refine KIf.f rfl ?_|refine Need.mk ?_ ?_;(first|trivial|(constructor<;>omega)));conv=>whnf
      refine⟨k+1,by omega,by dsimp only;omega,stay2 hes2 ?_⟩;rw[zl9,zl8];refine Weak.ofG [0,1,2,222] [] [] rfl rfl rfl rfl ?_ ?_ ?_ ?_
      ·exact⟨pQ rfl rfl,rQ hqq96,⟨rfl,rfl,WL.row (zbl ⟨rfl,rfl⟩)⟩,⟨rfl,rfl, .same (by rw[List.flatMap_append];rfl) (note_ov.nmc (zeI _) rfl)⟩,trivial⟩
      ·exact gQ
      ·exact zN
      ·(repeat' first|exact zT|exact rfl|(intro _ _;exact rfl)|refine zA ?_ ?_)
   ·have hke:k=all.length:=by omega
    have hls4:=hfin2 hke;rw[zae] at hls4
    have hd1:(0:Int)≤(i:Nat)∧((i:Nat):Int)<(q.v.rs.length:Nat):=⟨by omega,by omega⟩
    (conv=>whnf);repeat(first|refine Need.mk ?_ ?_;exact hd1|refine zbC (zat false 20) Rc.o (k:=7) [.so 3 0 (st.length+1) 0] (rcN 20 i (at_ Rc.o q.v.rs i) (.so 3 0 (st.length+1) 0)) h7 rfl rfl rfl rfl rfl rfl hqd (by decide) rfl ?_);conv=>whnf
    rw[hls4];refine⟨?_⟩;refine Weak.ofG [0,1,2] [3] [] rfl rfl rfl rfl ?_ ?_ ?_ ?_
    ·refine⟨⟨rfl,rfl,by rw[zbp];exact WL.row (zdp ⟨rfl,rfl⟩ zN)⟩,⟨rfl,rfl,WL.row (zbf (i:=i) hqq96 List.length_set (fun k hk=>zau _ _ _ _ _ (Ne.symm hk)) zN ?_)⟩,⟨rfl,rfl,WL.row (zbl ⟨rfl,rfl⟩)⟩,trivial⟩;show WL _ _ _ (rcP false 20 i (at_ Rc.o (q.v.rs.set i _) i)) _;rw[zal _ _ _ _ hqd];exact znp hi96 zN (Wv.list (enc:=aNm) (o:=Nm.o) (l:=y::st) (fun _=>rfl) (fun _=>rfl) rfl (by simp) rfl rfl)
    ·exact fun j o1 h _=>⟨(congrFun (zfo (ph:=false) (p:=q) (i:=i) (x:={at_ Rc.o q.v.rs i with ns:=(y::st)}) ⟨rfl,rfl⟩) j).symm.trans h,zab _ _ j o1 h⟩
    ·exact zN
    ·(repeat' first|exact zT|refine zA ?_ ?_)
set_option maxHeartbeats 4000000
theorem below_150 (n:Nat) (ph:Bool) (f:Ck.Rp→Nat→Ck.Rp) (p:Ck.Rp) (I:Nat→Ck.Rp→Prop) (hn:n≤96) (hI:∀j,j≤n-16→I j (it (zaH f) p j)) (hIn:∀j q,I j q→q.v.rs.length=n)
  (hcl:∀j q,16+j<n→I j q→own (at_ Rc.o q.v.rs (16+j))=true→HG Tryz.prog 3 20 220 150 [ib (16+j:Nat), .ptr 2 0] (gP ph q) [.row (pRow 20 1 q) 106 0, .row (flatI (rcP ph 20) 0 q.v.rs) 66 10, .row [.ptr 0 0] 107 0] (.tup [])
   (gP ph (f q (16+j))) [.row (pRow 20 1 (f q (16+j))) 106 0, .row (flatI (rcP ph 20) 0 (f q (16+j)).v.rs) 66 10, .row [.ptr 0 0] 107 0]):
  HG Tryz.prog 3 20 220 149 [.ptr 0 0, .fn (.func 150) [] [.ptr 2 0]] (gP ph p) [.row (pRow 20 1 p) 106 0, .row (flatI (rcP ph 20) 0 p.v.rs) 66 10, .row [.ptr 0 0] 107 0] (.tup [])
   (gP ph (below f p)) [.row (pRow 20 1 (below f p)) 106 0, .row (flatI (rcP ph 20) 0 (below f p).v.rs) 66 10, .row [.ptr 0 0] 107 0]:=by
 have hpn:p.v.rs.length=n:=hIn 0 p (hI 0 (Nat.zero_le _))
 have hp96:p.v.rs.length≤96:=by omega
 have hbe:below f p=it (zaH f) p (n-16):=by rw[←hpn];rfl
 rw[hbe];refine HG.of kmix (by omega) ?_
 conv=>whnf
 refine WLoop.inv kmix (D:=Nat) (fun d=>n-16-d) (fun d=>d≤n-16) (fun d=>slots [(0, .ptr 0 0),(1, .fn (.func 150) [] [.ptr 2 0]),(4,ib (16+d:Nat))] 27)
  (fun d=>zax 20 220 (gP ph (it (zaH f) p d)) [.row (pRow 20 1 (it (zaH f) p d)) 106 0, .row (flatI (rcP ph 20) 0 (it (zaH f) p d).v.rs) 66 10, .row [.ptr 0 0] 107 0]) 0 (Nat.zero_le _) ?_ ?_
 ·(refine Weak.ofG [0,1,2] [] [] rfl rfl rfl rfl ?_ ?_ ?_ ?_;exact⟨pQ rfl rfl,rQ hp96,⟨rfl,rfl,WL.row (zbl ⟨rfl,rfl⟩)⟩,trivial⟩;exact gQ;exact zN;(focus((repeat' first|exact zT|exact rfl|refine zA ?_ ?_))))
 ·intro d hd;have hId:=hI d hd;have hst:it (zaH f) p (d+1)=zaH f (it (zaH f) p d) d:=rfl
  have hfin:d=n-16→it (zaH f) p d=it (zaH f) p (n-16):=fun e=>by rw[e]
  have hIs:d+1≤n-16→I (d+1) (zaH f (it (zaH f) p d) d):=fun h=>hst▸hI (d+1) h
  generalize it (zaH f) p d=q at*
  have hqn:q.v.rs.length=n:=hIn d q hId
  have hq96:q.v.rs.length≤96:=by omega
  have stay:∀{t:Tm} {s:St} {q':Ck.Rp},zaH f q d=q'→Weak 3 t s (slots [(0, .ptr 0 0),(1, .fn (.func 150) [] [.ptr 2 0]),(4,ib (16+(d+1):Nat))] 27) (zax 20 220 (gP ph q') [.row (pRow 20 1 q') 106 0, .row (flatI (rcP ph 20) 0 q'.v.rs) 66 10, .row [.ptr 0 0] 107 0])→
    Weak 3 t s (slots [(0, .ptr 0 0),(1, .fn (.func 150) [] [.ptr 2 0]),(4,ib (16+(d+1):Nat))] 27) (zax 20 220 (gP ph (it (zaH f) p (d+1))) [.row (pRow 20 1 (it (zaH f) p (d+1))) 106 0, .row (flatI (rcP ph 20) 0 (it (zaH f) p (d+1)).v.rs) 66 10, .row [.ptr 0 0] 107 0]):=fun he hw=>by rw[hst,he];exact hw
  conv=>whnf
  refine KIf.dec (fun h=> ?_) (fun h=> ?_)
  ·have hltq:16+d<q.v.rs.length:=by omega
   have hd0:(0:Int)≤((16+d:Nat):Int)∧((16+d:Nat):Int)<(q.v.rs.length:Nat):=⟨by omega,by omega⟩
   have hoff:0+((16+d:Nat):Int).toNat*10=(16+d)*10:=by rw[Int.toNat_natCast,Nat.zero_add]
   have hls:zaH f q d=if own (at_ Rc.o q.v.rs (16+d)) then f q (16+d) else q:=by unfold zaH;rw[zae]
   obtain⟨ob,hob⟩:∃b,own (at_ Rc.o q.v.rs (16+d))=b:=⟨_,rfl⟩
   have hown:=zgW (at_ Rc.o q.v.rs (16+d));rw[hob] at hown hls
   (conv=>whnf);repeat(first|refine Need.mk ?_ ?_;exact hd0|refine RK.of (zcI (zat ph 20) Rc.o hoff rfl rfl hltq rfl) ?_|refine KCall.lend ([]) (hown) rfl ?_ ?_;exact zfP);conv=>whnf
   cases ob
   ·(conv=>whnf);repeat(first|refine KIf.f rfl ?_|refine Need.mk ?_ ?_;((constructor<;>omega)));conv=>whnf
    refine⟨d+1,by omega,by dsimp only;omega,stay (q':=q) (by rw[hls];rfl) ?_⟩
    (refine Weak.ofG [0,1,2] [] [] rfl rfl rfl rfl ?_ ?_ ?_ ?_;exact⟨pQ rfl rfl,rQ hq96,⟨rfl,rfl,WL.row (zbl ⟨rfl,rfl⟩)⟩,trivial⟩;exact gQ;exact zN;(focus((repeat' first|exact zT|exact rfl|refine zA ?_ ?_))))
   ·have hls2:zaH f q d=f q (16+d):=by rw[hls];rfl
    have hIs2:=hIs (by omega);rw[hls2] at hIs2
    have hf96:(f q (16+d)).v.rs.length≤96:=by rw[hIn _ _ hIs2];exact hn
    have hcl2:=hcl d q (by omega) hId hob
    (conv=>whnf);repeat(first|refine KCall.liftG [0,1,2] (.tup []) [.row (pRow 220 1 (f q (16+d))) 106 0, .row (flatI (rcP ph 220) 0 ((f q (16+d))).v.rs) 66 10, .row [.ptr 0 0] 107 0] (hcl2) rfl (zab _ _) (zab _ _) ?_ ?_ ?_ ?_;exact⟨pF FR.G ⟨rfl,rfl⟩,rF FR.G hq96,⟨rfl,rfl,WL.row (zbl ⟨rfl,rfl⟩)⟩,trivial⟩;(focus((repeat' first|exact zT|exact rfl|refine zA ?_ ?_)));exact⟨(by unfold Rn Rnl;trivial),rfl,⟨⟨rfl,rfl, .inl (zaA rfl)⟩,⟨rfl,rfl, .inl (zay hf96)⟩,⟨rfl,rfl, .inl (zlY rfl)⟩,trivial⟩⟩|refine KIf.t rfl ?_|refine Need.mk ?_ ?_;((constructor<;>omega)));conv=>whnf
    refine⟨d+1,by omega,by dsimp only;omega,stay hls2 ?_⟩
    (refine Weak.ofG [0,1,2] [] [] rfl rfl rfl rfl ?_ ?_ ?_ ?_;exact⟨pQ rfl rfl,rQ hf96,⟨rfl,rfl,WL.row (zbl ⟨rfl,rfl⟩)⟩,trivial⟩;exact gQ;exact zN;(focus((repeat' first|exact zT|exact rfl|refine zA ?_ ?_))))
  ·conv=>whnf
   rw[←hfin (by omega)];refine⟨?_⟩
   (refine Weak.ofG [0,1,2] [] [] rfl rfl rfl rfl ?_ ?_ ?_ ?_;exact⟨pQ rfl rfl,rQ hq96,⟨rfl,rfl,WL.row (zbl ⟨rfl,rfl⟩)⟩,trivial⟩;exact gQ;exact zN;(focus((repeat' first|exact zT|refine zA ?_ ?_))))
theorem below_155 (n:Nat) (ph:Bool) (f:Ck.Rp→Nat→Ck.Rp) (p:Ck.Rp) (I:Nat→Ck.Rp→Prop) (hn:n≤96) (hI:∀j,j≤n-16→I j (it (zaH f) p j)) (hIn:∀j q,I j q→q.v.rs.length=n)
  (hcl:∀j q,16+j<n→I j q→own (at_ Rc.o q.v.rs (16+j))=true→HG Tryz.prog 3 20 220 155 [ib (16+j:Nat), .ptr 2 0] (gP ph q) [.row (pRow 20 1 q) 106 0, .row (flatI (rcP ph 20) 0 q.v.rs) 66 10, .row [.ptr 0 0] 107 0] (.tup [])
   (gP ph (f q (16+j))) [.row (pRow 20 1 (f q (16+j))) 106 0, .row (flatI (rcP ph 20) 0 (f q (16+j)).v.rs) 66 10, .row [.ptr 0 0] 107 0]):
  HG Tryz.prog 3 20 220 149 [.ptr 0 0, .fn (.func 155) [] [.ptr 2 0]] (gP ph p) [.row (pRow 20 1 p) 106 0, .row (flatI (rcP ph 20) 0 p.v.rs) 66 10, .row [.ptr 0 0] 107 0] (.tup [])
   (gP ph (below f p)) [.row (pRow 20 1 (below f p)) 106 0, .row (flatI (rcP ph 20) 0 (below f p).v.rs) 66 10, .row [.ptr 0 0] 107 0]:=by
 have hpn:p.v.rs.length=n:=hIn 0 p (hI 0 (Nat.zero_le _))
 have hp96:p.v.rs.length≤96:=by omega
 have hbe:below f p=it (zaH f) p (n-16):=by rw[←hpn];rfl
 rw[hbe];refine HG.of kmix (by omega) ?_
 conv=>whnf
 refine WLoop.inv kmix (D:=Nat) (fun d=>n-16-d) (fun d=>d≤n-16) (fun d=>slots [(0, .ptr 0 0),(1, .fn (.func 155) [] [.ptr 2 0]),(4,ib (16+d:Nat))] 27)
  (fun d=>zax 20 220 (gP ph (it (zaH f) p d)) [.row (pRow 20 1 (it (zaH f) p d)) 106 0, .row (flatI (rcP ph 20) 0 (it (zaH f) p d).v.rs) 66 10, .row [.ptr 0 0] 107 0]) 0 (Nat.zero_le _) ?_ ?_
 ·(refine Weak.ofG [0,1,2] [] [] rfl rfl rfl rfl ?_ ?_ ?_ ?_;exact⟨pQ rfl rfl,rQ hp96,⟨rfl,rfl,WL.row (zbl ⟨rfl,rfl⟩)⟩,trivial⟩;exact gQ;exact zN;(focus((repeat' first|exact zT|exact rfl|refine zA ?_ ?_))))
 ·intro d hd;have hId:=hI d hd;have hst:it (zaH f) p (d+1)=zaH f (it (zaH f) p d) d:=rfl
  have hfin:d=n-16→it (zaH f) p d=it (zaH f) p (n-16):=fun e=>by rw[e]
  have hIs:d+1≤n-16→I (d+1) (zaH f (it (zaH f) p d) d):=fun h=>hst▸hI (d+1) h
  generalize it (zaH f) p d=q at*
  have hqn:q.v.rs.length=n:=hIn d q hId
  have hq96:q.v.rs.length≤96:=by omega
  have stay:∀{t:Tm} {s:St} {q':Ck.Rp},zaH f q d=q'→Weak 3 t s (slots [(0, .ptr 0 0),(1, .fn (.func 155) [] [.ptr 2 0]),(4,ib (16+(d+1):Nat))] 27) (zax 20 220 (gP ph q') [.row (pRow 20 1 q') 106 0, .row (flatI (rcP ph 20) 0 q'.v.rs) 66 10, .row [.ptr 0 0] 107 0])→
    Weak 3 t s (slots [(0, .ptr 0 0),(1, .fn (.func 155) [] [.ptr 2 0]),(4,ib (16+(d+1):Nat))] 27) (zax 20 220 (gP ph (it (zaH f) p (d+1))) [.row (pRow 20 1 (it (zaH f) p (d+1))) 106 0, .row (flatI (rcP ph 20) 0 (it (zaH f) p (d+1)).v.rs) 66 10, .row [.ptr 0 0] 107 0]):=fun he hw=>by rw[hst,he];exact hw
  conv=>whnf
  refine KIf.dec (fun h=> ?_) (fun h=> ?_)
  ·have hltq:16+d<q.v.rs.length:=by omega
   have hd0:(0:Int)≤((16+d:Nat):Int)∧((16+d:Nat):Int)<(q.v.rs.length:Nat):=⟨by omega,by omega⟩
   have hoff:0+((16+d:Nat):Int).toNat*10=(16+d)*10:=by rw[Int.toNat_natCast,Nat.zero_add]
   have hls:zaH f q d=if own (at_ Rc.o q.v.rs (16+d)) then f q (16+d) else q:=by unfold zaH;rw[zae]
   obtain⟨ob,hob⟩:∃b,own (at_ Rc.o q.v.rs (16+d))=b:=⟨_,rfl⟩
   have hown:=zgW (at_ Rc.o q.v.rs (16+d));rw[hob] at hown hls
   (conv=>whnf);repeat(first|refine Need.mk ?_ ?_;exact hd0|refine RK.of (zcI (zat ph 20) Rc.o hoff rfl rfl hltq rfl) ?_|refine KCall.lend ([]) (hown) rfl ?_ ?_;exact zfP);conv=>whnf
   cases ob
   ·(conv=>whnf);repeat(first|refine KIf.f rfl ?_|refine Need.mk ?_ ?_;((constructor<;>omega)));conv=>whnf
    refine⟨d+1,by omega,by dsimp only;omega,stay (q':=q) (by rw[hls];rfl) ?_⟩
    (refine Weak.ofG [0,1,2] [] [] rfl rfl rfl rfl ?_ ?_ ?_ ?_;exact⟨pQ rfl rfl,rQ hq96,⟨rfl,rfl,WL.row (zbl ⟨rfl,rfl⟩)⟩,trivial⟩;exact gQ;exact zN;(focus((repeat' first|exact zT|exact rfl|refine zA ?_ ?_))))
   ·have hls2:zaH f q d=f q (16+d):=by rw[hls];rfl
    have hIs2:=hIs (by omega);rw[hls2] at hIs2
    have hf96:(f q (16+d)).v.rs.length≤96:=by rw[hIn _ _ hIs2];exact hn
    have hcl2:=hcl d q (by omega) hId hob
    (conv=>whnf);repeat(first|refine KCall.liftG [0,1,2] (.tup []) [.row (pRow 220 1 (f q (16+d))) 106 0, .row (flatI (rcP ph 220) 0 ((f q (16+d))).v.rs) 66 10, .row [.ptr 0 0] 107 0] (hcl2) rfl (zab _ _) (zab _ _) ?_ ?_ ?_ ?_;exact⟨pF FR.G ⟨rfl,rfl⟩,rF FR.G hq96,⟨rfl,rfl,WL.row (zbl ⟨rfl,rfl⟩)⟩,trivial⟩;(focus((repeat' first|exact zT|exact rfl|refine zA ?_ ?_)));exact⟨(by unfold Rn Rnl;trivial),rfl,⟨⟨rfl,rfl, .inl (zaA rfl)⟩,⟨rfl,rfl, .inl (zay hf96)⟩,⟨rfl,rfl, .inl (zlY rfl)⟩,trivial⟩⟩|refine KIf.t rfl ?_|refine Need.mk ?_ ?_;((constructor<;>omega)));conv=>whnf
    refine⟨d+1,by omega,by dsimp only;omega,stay hls2 ?_⟩
    (refine Weak.ofG [0,1,2] [] [] rfl rfl rfl rfl ?_ ?_ ?_ ?_;exact⟨pQ rfl rfl,rQ hf96,⟨rfl,rfl,WL.row (zbl ⟨rfl,rfl⟩)⟩,trivial⟩;exact gQ;exact zN;(focus((repeat' first|exact zT|exact rfl|refine zA ?_ ?_))))
  ·conv=>whnf
   rw[←hfin (by omega)];refine⟨?_⟩
   (refine Weak.ofG [0,1,2] [] [] rfl rfl rfl rfl ?_ ?_ ?_ ?_;exact⟨pQ rfl rfl,rQ hq96,⟨rfl,rfl,WL.row (zbl ⟨rfl,rfl⟩)⟩,trivial⟩;exact gQ;exact zN;(focus((repeat' first|exact zT|refine zA ?_ ?_))))
theorem names_h (n:Nat) (p:Ck.Rp) (hf:Rk n p) (hn:n≤96) (hb:p.fd.length≤300000):HG Tryz.prog 2 20 220 108 [.ptr 0 0] (gP false p) [.row (pRow 20 1 p) 106 0, .row (flatI (rcP false 20) 0 p.v.rs) 66 10] (.tup [])
  (gP false (badNames p)) [.row (pRow 20 1 (badNames p)) 106 0, .row (flatI (rcP false 20) 0 (badNames p).v.rs) 66 10]:=by
 have hp96:p.v.rs.length≤96:=by rw[hf.rf.n];exact hn
 obtain⟨B,hB⟩:∃B,B=1000:=⟨_,rfl⟩
 have hI:=zjl hB hf;have hbl:=below_150 n false badNames1 p (fun j q=>Rk n q∧q.fd.length≤p.fd.length+j*B) hn hI (fun j q h=>h.1.rf.n) (fun j q hj h _=>names1_h n q (16+j) h.1 hn hj (by have:=h.2;have:j*B≤96*B:=Nat.mul_le_mul_right _ (by omega);omega))
 have hl96:(badNames p).v.rs.length≤96:=by
  have:=(hI (n-16) (Nat.le_refl _)).1.rf.n;unfold badNames below;rw[hf.rf.n,this];exact hn
 refine HG.of kmix (by omega) ?_
 (conv=>whnf);repeat((refine KCall.liftG [0,1,220] (.tup []) [.row (pRow 221 1 (badNames p)) 106 0, .row (flatI (rcP false 221) 0 ((badNames p)).v.rs) 66 10, .row [.ptr 0 0] 107 0] (hbl) rfl (zab _ _) (zab _ _) ?_ ?_ ?_ ?_;exact⟨pF FR.G ⟨rfl,rfl⟩,rF FR.G hp96,⟨rfl,rfl,WL.row (zbl ⟨rfl,rfl⟩)⟩,trivial⟩;(focus((repeat' first|exact zT|exact rfl|refine zA ?_ ?_)));exact⟨(by unfold Rn Rnl;trivial),rfl,⟨⟨rfl,rfl, .inl (zaA rfl)⟩,⟨rfl,rfl, .inl (zay hl96)⟩,⟨rfl,rfl, .inl (zlY rfl)⟩,trivial⟩⟩;conv=>whnf))
 refine⟨?_⟩
 (refine Weak.ofG [0,1] [] [] rfl rfl rfl rfl ?_ ?_ ?_ ?_;exact⟨pQ rfl rfl,rQ hl96,trivial⟩;exact gQ;exact zN;(focus((repeat' first|exact zT|refine zA ?_ ?_))))
end Go.Proofs.YtgcjejajljhnaaaGreatDoor
namespace Go.Ex
open Go
def zoe (a b n0:Nat) (r z:List Nat) (g1:Nat→Option AO) (rows2:List AO) (s:St):St:=
 match s with
 |⟨h,n⟩=>match h with
  | .f A B _ t=>⟨.f n (Nat.add n (Nat.sub b a)) g1 (.f A B (fun _=>none) (putR r n0 (Nat.add n (Nat.sub b a)) 0 rows2 (zbM (zbM t r) z))),Nat.add (Nat.add n (Nat.sub b a)) (Nat.sub a n0)⟩
  |h=>⟨h,n⟩
def okLz (a b n0 A B n:Nat) (r z:List Nat) (l1:Nat):Bool:=
 match okG 0 a b A z [] r with
 |true=>match Nat.beq (Nat.sub B A) (Nat.sub b a) with
  |true=>match Nat.ble B n with
   |true=>match Nat.ble n0 r.length with|true=>Nat.ble l1 a|false=>false
   |false=>false
  |false=>false
 |false=>false
theorem CallOk.liftGz {P:Program} {n0 a b A B n:Nat} {f:FuncId} {args0 args:List AV} {g0 g1:Nat→Option AO} {t:T AO} {rows0 rows1:List AO} {v1:AV} (r z:List Nat) (v2:AV) (rows2:List AO) (hc:HG P n0 a b f args0 g0 rows0 v1 g1 rows1) (hL:okLz a b n0 A B n r z rows1.length=true)
  (hc0:∀j o,g0 j=some o→zbn o) (hc1:∀j o,g1 j=some o→zbn o)
  (hrows:zew (.f A B g0 t) z (renG a b A [] r) rows0 r) (hargs:NmPl (RS (renG a b A [] r)) args0∧Wvl (.f A B g0 t) z (RD (renG a b A [] r)) args0 args)
  (hv:Rn (rhoG a b n n0 r) v1 v2) (hlen:rows2.length=rows1.length) (hrows2:RnOs (rhoG a b n n0 r) rows1 rows2):CallOk P f args ⟨.f A B g0 t,n⟩ v2 (zoe a b n0 r z g1 rows2 ⟨.f A B g0 t,n⟩):=by
 unfold okLz at hL;split at hL
 ·rename_i hg;split at hL
  ·rename_i hB;split at hL
   ·rename_i hBn;split at hL
    ·rename_i hn0;have hB:B-A=b-a:=Nat.eq_of_beq_eq_true hB;have hBn:B≤n:=Nat.le_of_ble_eq_true hBn;have hn0:n0≤r.length:=Nat.le_of_ble_eq_true hn0;have hl1:rows1.length≤a:=Nat.le_of_ble_eq_true hL;obtain⟨hap,hout,_,hlr,hab⟩:=zk5 hg;have hout:=zfg hout
     have rout:∀k,¬(a≤k∧k<b)→renG a b A [] r k=r[k]? :=fun k hk=>by unfold renG;rw[zgY hk,za3]
     refine CallOk.liftGen (z:=z) (R:=renG a b A [] r) (nA:=b) (rhoG a b n n0 r) (fun B'=>if B'<n+(b-a) then a+(B'-n) else n0+(B'-(n+(b-a)))) hc
      (Ren.ofG hg hrows (fun j o1 hj ho _=>⟨by show(T.f A B g0 t).get _=_;rw[zaq (by omega)];exact ho,hc0 j o1 ho⟩) (fun p hp=>by cases hp)) (zic hg).2.1 hargs ?_ (fun k hk=> ?_) hv (fun K o hK=> ?_)
     ·show n≤n+(b-a)+(a-n0);omega
     ·by_cases hr:a≤k∧k<b
      ·refine .inl ?_
       have e:rhoG a b n n0 r k=n+(k-a):=by unfold rhoG;rw[inR_iff.2 hr];exact za8 _ _
       rw[e];refine⟨Nat.le_add_right _ _,?_,?_⟩
       ·show n+(k-a)<n+(b-a)+(a-n0);omega
       ·show(if n+(k-a)<n+(b-a) then a+(n+(k-a)-n) else _)=k;rw[if_pos (by omega)];omega
      ·have hk2:k<a:=by omega
       have e:rhoG a b n n0 r k=rho r n0 (n+(b-a)) k:=by unfold rhoG;rw[zgY hr];rfl
       rw[e];unfold rho
       cases hlt:Nat.blt k n0 with
       |true=>
        have hlt:=zbr hlt;refine .inr ⟨hlt,?_⟩;rw[rout k hr,List.getElem?_eq_getElem (by omega)];show some _=some (rn r k);unfold rn;rw[za3,List.getElem?_eq_getElem (by omega)]
       |false=>
        have hge:n0≤k:=Nat.le_of_not_lt fun h=>by rw[show Nat.blt k n0=true from Nat.ble_eq_true_of_le h] at hlt;cases hlt
        refine .inl ⟨?_,?_,?_⟩
        ·show n≤n+(b-a)+(k-n0);omega
        ·show n+(b-a)+(k-n0)<n+(b-a)+(a-n0);omega
        ·show(if n+(b-a)+(k-n0)<n+(b-a) then _ else n0+(n+(b-a)+(k-n0)-(n+(b-a))))=k;rw[if_neg (by omega)];omega
     ·have hK:(T.f n (n+(b-a)) g1 (.f A B (fun _=>none) (putR r n0 (n+(b-a)) 0 rows2 (zbM (zbM t r) z)))).get K=some o:=hK;rw[T.get_f] at hK;split at hK
      ·rename_i hin;refine .inl ⟨a+(K-n),o,?_,?_,?_⟩
       ·rw[zcK,if_pos ⟨by omega,by omega⟩,Nat.add_sub_cancel_left];exact hK
       ·have:=hc1 _ o hK;unfold RnO;unfold zbn at this
        cases o with
        |row c e q=>exact⟨rfl,rfl, .inr ⟨rfl,this⟩⟩
        |iter s p=>exact⟨rfl,rfl⟩
       ·unfold rhoG;rw[inR_iff.2 ⟨by omega,by omega⟩,za8]
        show K=n+(a+(K-n)-a)
        omega
      ·rw[T.get_f] at hK;split at hK
       ·cases hK
       ·rename_i hnAB
        rcases zdH hK with⟨j,h1,h2⟩|h1
        ·obtain⟨o1,h3,h4⟩:=ze8 hrows2 h1;have hj:j<rows1.length:=(List.getElem?_eq_some_iff.1 h3).1;refine .inl ⟨j,o1,?_,h4,?_⟩
         ·rw[zcK,if_neg (by omega)];exact h3
         ·rw[h2,Nat.zero_add];unfold rhoG;rw[zgY (by omega)];rfl
        ·obtain⟨h2',hz2⟩:=zaB h1;obtain⟨h2,h3⟩:=zaB h2';refine .inr ⟨?_,hz2,fun k o0 h0 e=> ?_⟩
         ·show(T.f A B g0 t).get K=_;rw[T.get_f,if_neg hnAB];exact h2
         ·by_cases hr:a≤k∧k<b
          ·unfold renG at e;rw[inR_iff.2 hr] at e
           have e:ovG A [] (k-a)=K:=by injection e
           rw[zmr,za8] at e;exact hnAB ⟨by omega,by omega⟩
          ·rw[rout k hr] at e;exact h3 (List.mem_of_getElem? e)
    ·cases hL
   ·cases hL
  ·cases hL
 ·cases hL
theorem KCall.liftGz {P:Program} {n0 a b A B n:Nat} {f:FuncId} {args0 args:List AV} {g0 g1:Nat→Option AO} {t:T AO} {rows0 rows1:List AO} {v1:AV} {K:KC} (r z:List Nat) (v2:AV) (rows2:List AO) (hc:HG P n0 a b f args0 g0 rows0 v1 g1 rows1) (hL:okLz a b n0 A B n r z rows1.length=true)
  (hc0:∀j o,g0 j=some o→zbn o) (hc1:∀j o,g1 j=some o→zbn o)
  (hrows:zew (.f A B g0 t) z (renG a b A [] r) rows0 r) (hargs:NmPl (RS (renG a b A [] r)) args0∧Wvl (.f A B g0 t) z (RD (renG a b A [] r)) args0 args)
  (hv:Rn (rhoG a b n n0 r) v1 v2∧rows2.length=rows1.length∧RnOs (rhoG a b n n0 r) rows1 rows2) (hk:(zoe a b n0 r z g1 rows2 ⟨.f A B g0 t,n⟩).nfK fun s=>K v2 s):KCall P f args ⟨.f A B g0 t,n⟩ K:=by
 have hle:n≤(zoe a b n0 r z g1 rows2 ⟨.f A B g0 t,n⟩).n:=by show n≤n+(b-a)+(a-n0);omega
 exact⟨v2,_,CallOk.liftGz r z v2 rows2 hc hL hc0 hc1 hrows hargs hv.1 hv.2.1 hv.2.2,hle,St.nfK_ok hk⟩
section
variable {P : Program}
theorem PureC.coreS (hmix:P.follows .mixedOrders=true) {f:FuncId} {args:List AV} {v:AV} {s00:St} (hemp:∀k,s00.h.get k=none) (h:funK P 0 f args s00 (PRet v)) {s0:St} {m m0:Mp} {w:World} {args':List Value} (hok:Ok m s0.h.get w) (hz:m0.z=m.z) (ha:Above m0 s00.n) (hR0:Rl m0 args args'):
  Calls P f args'.toArray w fun e w'=>∃y m',e= .returned y∧Goes s0.h.get s0.h.get s0.n s0.n m m' w w'∧R1 m' v y:=by
 obtain⟨g0,z0⟩:=m0;simp only at hz;subst hz;unfold funK at h;split at h
 ·exact h.elim
 ·rename_i fn hfn;split at h
  ·exact h.elim
  ·rename_i c hcb;have h:=zce (Nat.forceK_ok (K:=fun a=>startK ⟨zfk 0 .e args,Nat.add a (Nat.sub fn.ntmps a)⟩ s00 fun t s=>zfy P 0 c t s fun x t s=>match x with| .exit _=>False|_=>retK P t s fn.results.toList (PRet v)) h)
   let m0:Mp:=⟨g0,m.z⟩
   have hok0:Ok m0 s00.h.get w:=⟨fun _ _ h=>(by rw[hemp] at h;cases h),fun _ _ _ _ h=>(by rw[hemp] at h;cases h),fun k i v hv=>⟨(hok.fz k i v hv).1,fun _ _ h=>(by rw[hemp] at h;cases h)⟩,hok.tbsub fun _ _ h=>(by rw[hemp] at h;cases h)⟩
   refine calls_of_wp hfn hcb (wp_mono (zbu hmix c h m0 _ w (Fit.start hR0 fn.ntmps) rfl hok0 ha (Nat.zero_le _)) ?_);rintro e a' w' ⟨x,t',s',m',rfl,hk,hf',hd',hg,ha',hn'⟩
   have hx:xtE x= .normal∨xtE x= .ret:=by
    cases x with
    |normal=>exact .inl rfl
    |ret=>exact .inr rfl
    |exit i=>exact hk.elim
   have hk':retK P t' s' fn.results.toList (PRet v):=by
    cases x with
    |normal=>exact hk
    |ret=>exact hk
    |exit i=>exact hk.elim
   obtain⟨l,hl,⟨z,hz⟩⟩:=zbm hk';obtain⟨y,hy,hRy⟩:=zca (fn:=fn) hf' hg.ok hl;have hRz:=zng (z:=z) hg.ok v hz hRy
   have fin:∃y' m2,Ending.returned y= .returned y'∧Goes s0.h.get s0.h.get s0.n s0.n m m2 w w'∧R1 m2 v y':=by
    refine⟨y,⟨m.f,zdb m' s'.h.get z w'⟩,rfl,⟨Nat.le_refl _,fun _ _=>rfl,⟨fun b o hb=> ?_,hok.apart,fun k i v hv=> ?_,hok.tbs (fun k hk _=>hg.fr.block k hk fun b o hb=>by rw[hemp] at hb;cases hb) fun b o hb=> .inl ⟨b,o,hb,rfl⟩⟩,⟨hg.fr.os,hg.fr.tape,hg.fr.output,hg.fr.size,fun k hk _=>hg.fr.block k hk fun b o hb=>by rw[hemp] at hb;cases hb⟩,fun b o hb=> .inl ⟨b,o,hb,rfl⟩,fun k i v hv=>zaS _ _ _ (hg.zle k i v hv),fun k i v hv=> ?_⟩,hRz.r1⟩
    ·have hRo:=hok.has b o hb
     refine AO.R_keep hRo ⟨fun _ _ h=>h,fun k i v hv=>zaS _ _ _ (hg.zle k i v hv)⟩ fun k hk=> ?_
     obtain⟨k',hk',hlt⟩:=AO.R_blk hRo;rw[hk] at hk';cases hk'
     exact hg.fr.block k hlt fun b o hb=>by rw[hemp] at hb;cases hb
    ·have hnew:m.z k i=some v∨w.heap.size≤k:=by
      rcases zan hv with h1|⟨⟨b1,o1,h3,h4,h5⟩,_⟩
      ·rcases hg.znew k i v h1 with h2|⟨b0,o0,h2,_⟩|h2
       ·exact .inl h2
       ·rw[hemp] at h2;cases h2
       ·exact .inr h2
      ·rcases hg.new b1 o1 h4 with⟨b0,o0,h0,_⟩|⟨k1,e1,hk1⟩
       ·rw[hemp] at h0;cases h0
       ·rw[e1] at h5;cases h5;exact .inr hk1
     have hcell:∃cur e fr,w'.heap[k]? =some (.cells cur e fr)∧cur[i]? =some v:=by
      rcases zan hv with h1|⟨_,h1⟩
      ·exact(hg.ok.fz k i v h1).1
      ·exact h1
     refine⟨hcell,fun b o hb=> ?_⟩
     rcases hnew with h1|h1
     ·exact(hok.fz k i v h1).2 b o hb
     ·obtain⟨k',hk',hlt⟩:=AO.R_blk (hok.has b o hb);show blk m b≠some k;rw[hk'];intro e;cases e;omega
    ·rcases zan hv with h1|⟨⟨b1,o1,h3,h4,h5⟩,_⟩
     ·rcases hg.znew k i v h1 with h2|⟨b0,o0,h2,_⟩|h2
      ·exact .inl h2
      ·rw[hemp] at h2;cases h2
      ·exact .inr (.inr h2)
     ·rcases hg.new b1 o1 h4 with⟨b0,o0,h0,_⟩|⟨k1,e1,hk1⟩
      ·rw[hemp] at h0;cases h0
      ·rw[e1] at h5;cases h5;exact .inr (.inr hk1)
   rcases hx with hx|hx
   ·rw[hx];exact⟨hd',y,hy,fin⟩
   ·rw[hx];exact⟨hd',y,hy,fin⟩
end
theorem famOf_none (a b k:Nat):(zax a b (fun _=>none) []).h.get k=none:=by
 rw[zcK];split
 ·rfl
 ·simp
theorem PureC.ofF {P:Program} (hmix:P.follows .mixedOrders=true) {f:FuncId} {args:List AV} {v:AV} (hc:cont.contL args=true) (h:funK P 0 f args (zax 20 220 (fun _=>none) []) (PRet v)):PureC P f args v:=by
 intro s0 m w args' hR hok _;exact PureC.coreS hmix (famOf_none 20 220) h hok (m0:=⟨fun _=>none,m.z⟩) rfl (fun _ _=>rfl) (zbI (m1:=⟨fun _=>none,m.z⟩) hc hR fun _ _ _ h=>h)
end Go.Ex
namespace Ck
open Go Go.Ex
theorem znJ {h:T AO} {z:List Nat} {rr:Nat→Nat} {b:Nat} {e:TypeId} {q:Nat} {c t:List AV} {x:Nm} (hr:h.get b=some (.row c e q)) (hc:c=aNm x++t) (hz:b∈z):Wv h z rr (LS 3 aNm Nm.o [x]) (.sl b 0 1 1):=by
 subst hc;unfold Wv Wz;refine⟨rfl,Nat.le_refl _,hz,rfl,_,_,_,hr,by show 3≤_;simp[aNm],fun i hi=> ?_⟩;have hi:i<1:=hi
 obtain rfl:i=0:=by omega
 exact⟨rfl,zbo x⟩
end Ck
namespace Go.Proofs.YtgcjejajljhnaaaGreatDoor
open Go.Ex Ck
set_option maxRecDepth 100000
set_option maxHeartbeats 16000000
def zjY :Prop:=∀n:Nat,n≤9000→PureC Tryz.prog 82 [ib (n:Nat)] (tb (Ck.dec n))
theorem zm7 (hIt:zjY) (n:Nat) (p:Ck.Rp) (r:Nat) (hf:Rk n p) (hn:n≤96) (hr:16≤r∧r<n):HG Tryz.prog 2 20 220 156 [.ptr 0 0,ib (r:Nat)] (gP false p) [.row (pRow 20 1 p) 106 0, .row (flatI (rcP false 20) 0 p.v.rs) 66 10] (.tup [])
  (gP false (Ck.bring p r)) [.row (pRow 20 1 (Ck.bring p r)) 106 0, .row (flatI (rcP false 20) 0 (Ck.bring p r).v.rs) 66 10]:=by
 have hpn:p.v.rs.length=n:=hf.rf.n
 have h96:p.v.rs.length≤96:=by omega
 have h5l:5<p.v.rs.length:=by omega
 have hrl:r<p.v.rs.length:=by omega
 have hr100:r<100:=by omega
 obtain⟨b1,b2,b3,b4⟩:=hf.at (show 5<n by omega)
 obtain⟨es,hes⟩:∃es,(at_ Rc.o p.v.rs 5).es=es:=⟨_,rfl⟩
 rw[hes] at b2 b3
 have hbr:Ck.bring p r=enter (p.setR r {at_ Rc.o p.v.rs r with ns:=[⟨p.ref 5,zaf r (zbz es r 0 (es.length+1))⟩]}) 5 (zaf r (zbz es r 0 (es.length+1))) r:=by
  unfold Ck.bring;dsimp only;rw[show p.rc 5=at_ Rc.o p.v.rs 5 from rfl,hes,zae]
 have hdl:(Ck.dec r).length≤4:=(zg3 3 r (by omega)).2
 have hadd:(([102,111,117,110,100,46]:List UInt8)).length+(Ck.dec r).length≤9223372036854775807:=by simp;omega
 refine HG.of kmix (by omega) ?_
 (conv=>whnf);repeat(first|refine KCall.pure (hIt r (by omega)) ?_|refine Need.mk ?_ ?_;exact hadd);conv=>whnf
 refine WLoop.inv kmix (D:=Nat) (fun j=>es.length+1-j) (fun j=>j≤es.length∧∀i,i<j→zde es r i=true) (fun j=>slots [(0, .ptr 0 0),(1,ib r),(4,tb (found++Ck.dec r)),(5, .ptr 2 0),(6,ib (j+1:Nat))] 45)
  (fun j=>zax 20 220 (gP false p) [.row (pRow 20 1 p) 106 0, .row (flatI (rcP false 20) 0 p.v.rs) 66 10, .row [tb (zaf r j)] 9 0]) 0 ⟨Nat.zero_le _,fun i hi=>absurd hi (Nat.not_lt_zero _)⟩ ?_ ?_
 ·(refine Weak.ofG [0,1,220] [] [] rfl rfl rfl rfl ?_ ?_ ?_ ?_;exact⟨pQ rfl rfl,rQ h96,⟨rfl,rfl, .same rfl rfl⟩,trivial⟩;exact gQ;exact zN;(focus((repeat' first|exact zT|exact rfl|refine zA ?_ ?_))))
 ·rintro j ⟨hj,htk⟩
  have hoff9:0+(5:Int).toNat*10+9=5*10+9:=by decide
  have hnok:NmOk (zaf r j):=by
   have h1:=zfB (k:=j) hr100 (by omega);unfold NmOk;rw[zbT,List.length_append];show 6+(zcO r j).length≤100000;omega
  have hcon:=ContainsF_en_183 [tb (zaf r j)] (fun x=>Ck.same x.n (zaf r j)) es (by omega) (fun x hx=>bring1_k x (zaf r j) (b2.2 x hx) hnok)
  obtain⟨b,hb⟩:∃b,(es.any fun x=>Ck.same x.n (zaf r j))=b:=⟨_,rfl⟩
  rw[hb] at hcon
  have hd5:(0:Int)≤5∧(5:Int)<(p.v.rs.length:Nat):=⟨by omega,by omega⟩
  have hr0:(0:Int)≤(r:Nat)∧((r:Nat):Int)<(p.v.rs.length:Nat):=⟨by omega,by omega⟩
  have h7:0+((r:Nat):Int).toNat*10+7=r*10+7:=by simp
  have href:=zhh p 5 h5l h96
  by_cases he:es=[]
  ·subst he;have e1:seE 20 5 (at_ Rc.o p.v.rs 5)=LS 4 aEn En.o []:=zdh hes;cases b
   ·have hK:zbz ([]:List En) r 0 (([]:List En).length+1)=j:=zeZ (([]:List En).length+1) 0 j (Nat.zero_le _) (by omega) (fun i _ hi=>htk i hi) hb;rw[hK] at hbr;rw[hbr];have hgq:gP false (p.setR r {at_ Rc.o p.v.rs r with ns:=[⟨p.ref 5,zaf r j⟩]})=gP false p:=zfo ⟨rfl,rfl⟩
    have hq:Rk n (p.setR r {at_ Rc.o p.v.rs r with ns:=[⟨p.ref 5,zaf r j⟩]}):=by
     obtain⟨c1,c2,c3,c4⟩:=hf.at hr.2;exact hf.setR r _ (hf.rf.at hr.2) ⟨by show(1:Nat)≤1000;omega,fun m hm=>by rw[List.mem_singleton.1 hm];exact hnok⟩ c2 c3 c4
    have hent:=zkr n (p.setR r {at_ Rc.o p.v.rs r with ns:=[⟨p.ref 5,zaf r j⟩]}) 5 r (zaf r j) hq.rf hn (by omega) hr.2 (fun w hw=>⟨hq.ss w hw,(hq.na.es w hw).1⟩)
    have he96:(enter (p.setR r {at_ Rc.o p.v.rs r with ns:=[⟨p.ref 5,zaf r j⟩]}) 5 (zaf r j) r).v.rs.length≤96:=by unfold Ck.enter Rp.setR;simp only[List.length_set];exact h96
    rw[hgq] at hent
    (conv=>whnf);repeat(first|refine Need.mk ?_ ?_;exact hd5|refine RK.of (zaP (zat false 20) Rc.o (k:=9) hoff9 rfl rfl h5l (by decide) rfl) ?_|rw[e1]|refine KCall.lend ([2]) (hcon) rfl ?_ ?_;exact Wzc (zaa rfl) (Wzc (zb6 rfl (by simp) (zl5 _)) Wzn)|refine DCall.lend (zF 20 [0,1]) (href) rfl ?_ ?_;exact Wzc (zhi (Lies.mk (fun j hj=>zbd hj) (fun j hj=>zaq (by omega))) h96 rfl (zbA (by simp)) rfl (zbA (by simp))) (Wzc (zaa rfl) Wzn)|refine Need.mk ?_ ?_;exact hr0|refine zbC (zat false 20) Rc.o (k:=7) [.sl 220 0 1 1] (rcN 20 r (at_ Rc.o p.v.rs r) (.sl 220 0 1 1)) h7 rfl rfl rfl rfl rfl rfl hrl (by decide) rfl ?_|refine KIf.f ?_ ?_;assumption|refine Need.mk (p:=zah _=true) ?_ ?_;decide+kernel|refine Need.mk ?_ ?_;trivial);conv=>whnf
    (conv=>whnf);repeat((refine KCall.liftGz [0,1] [220] (.tup []) [.row (pRow 221 1 (enter (p.setR r {at_ Rc.o p.v.rs r with ns:=[⟨p.ref 5,zaf r j⟩]}) 5 (zaf r j) r)) 106 0, .row (flatI (rcP false 221) 0 ((enter (p.setR r {at_ Rc.o p.v.rs r with ns:=[⟨p.ref 5,zaf r j⟩]}) 5 (zaf r j) r)).v.rs) 66 10] (hent) rfl (zab _ _) (zab _ _) ?_ ?_ ?_ ?_;exact⟨⟨rfl,rfl,by rw[zbp];exact WL.row (zdp ⟨rfl,rfl⟩ zN)⟩,⟨rfl,rfl,WL.row (zbf (i:=r) h96 List.length_set (fun k hk=>zau _ _ _ _ _ (Ne.symm hk)) zN (by show WL _ _ _ (rcP false 20 r (at_ Rc.o (p.v.rs.set r _) r)) _;rw[zal _ _ _ _ hrl];exact znp (by omega) zN (znJ (x:=⟨p.ref 5,zaf r j⟩) (t:=[]) rfl rfl (by simp))))⟩,trivial⟩;(focus((repeat' first|exact zT|exact rfl|refine zA ?_ ?_)));exact⟨(by unfold Rn Rnl;trivial),rfl,⟨rfl,rfl, .inl (zaA rfl)⟩,⟨rfl,rfl, .inl (zay he96)⟩,trivial⟩;conv=>whnf))
    refine⟨?_⟩
    (refine Weak.ofG [0,1] [] [] rfl rfl rfl rfl ?_ ?_ ?_ ?_;exact⟨pQ rfl rfl,rQ he96,trivial⟩;exact gQ;exact zN;(focus((repeat' first|exact zT|refine zA ?_ ?_))))
   ·exact absurd hb (by simp)
  ·have e1:seE 20 5 (at_ Rc.o p.v.rs 5)= .so (fam 20 (2*5+1)) 0 es.length 0:=by rw[←hes];exact zfL (by rw[hes];exact he)
   have hge:gP false p (2*5+1)=some (.row (es.flatMap aEn) 73 4):=by rw[←hes];exact zjD h5l (by omega) (by rw[hes];exact he)
   have h9:2*5+1<200:=by omega
   cases b
   ·have hK:zbz es r 0 (es.length+1)=j:=zeZ (es.length+1) 0 j (Nat.zero_le _) (by omega) (fun i _ hi=>htk i hi) hb;rw[hK] at hbr;rw[hbr];have hgq:gP false (p.setR r {at_ Rc.o p.v.rs r with ns:=[⟨p.ref 5,zaf r j⟩]})=gP false p:=zfo ⟨rfl,rfl⟩
    have hq:Rk n (p.setR r {at_ Rc.o p.v.rs r with ns:=[⟨p.ref 5,zaf r j⟩]}):=by
     obtain⟨c1,c2,c3,c4⟩:=hf.at hr.2;exact hf.setR r _ (hf.rf.at hr.2) ⟨by show(1:Nat)≤1000;omega,fun m hm=>by rw[List.mem_singleton.1 hm];exact hnok⟩ c2 c3 c4
    have hent:=zkr n (p.setR r {at_ Rc.o p.v.rs r with ns:=[⟨p.ref 5,zaf r j⟩]}) 5 r (zaf r j) hq.rf hn (by omega) hr.2 (fun w hw=>⟨hq.ss w hw,(hq.na.es w hw).1⟩)
    have he96:(enter (p.setR r {at_ Rc.o p.v.rs r with ns:=[⟨p.ref 5,zaf r j⟩]}) 5 (zaf r j) r).v.rs.length≤96:=by unfold Ck.enter Rp.setR;simp only[List.length_set];exact h96
    rw[hgq] at hent
    (conv=>whnf);repeat(first|refine Need.mk ?_ ?_;exact hd5|refine RK.of (zaP (zat false 20) Rc.o (k:=9) hoff9 rfl rfl h5l (by decide) rfl) ?_|rw[e1]|refine KCall.lend (zF 20 [2]) (hcon) rfl ?_ ?_;exact Wzc (zj4 (fun _=>rfl) (fun _=>rfl) ((zaq h9).trans hge) (zbd h9) rfl) (Wzc (zb6 rfl (zbA (by simp)) (zl5 _)) Wzn)|refine DCall.lend (zF 20 [0,1]) (href) rfl ?_ ?_;exact Wzc (zhi (Lies.mk (fun j hj=>zbd hj) (fun j hj=>zaq (by omega))) h96 rfl (zbA (by simp)) rfl (zbA (by simp))) (Wzc (zaa rfl) Wzn)|refine Need.mk ?_ ?_;exact hr0|refine zbC (zat false 20) Rc.o (k:=7) [.sl 220 0 1 1] (rcN 20 r (at_ Rc.o p.v.rs r) (.sl 220 0 1 1)) h7 rfl rfl rfl rfl rfl rfl hrl (by decide) rfl ?_|refine KIf.f rfl ?_|refine Need.mk (p:=zah _=true) ?_ ?_;decide+kernel|refine Need.mk ?_ ?_;trivial);conv=>whnf
    (conv=>whnf);repeat((refine KCall.liftGz [0,1] [220] (.tup []) [.row (pRow 221 1 (enter (p.setR r {at_ Rc.o p.v.rs r with ns:=[⟨p.ref 5,zaf r j⟩]}) 5 (zaf r j) r)) 106 0, .row (flatI (rcP false 221) 0 ((enter (p.setR r {at_ Rc.o p.v.rs r with ns:=[⟨p.ref 5,zaf r j⟩]}) 5 (zaf r j) r)).v.rs) 66 10] (hent) rfl (zab _ _) (zab _ _) ?_ ?_ ?_ ?_;exact⟨⟨rfl,rfl,by rw[zbp];exact WL.row (zdp ⟨rfl,rfl⟩ zN)⟩,⟨rfl,rfl,WL.row (zbf (i:=r) h96 List.length_set (fun k hk=>zau _ _ _ _ _ (Ne.symm hk)) zN (by show WL _ _ _ (rcP false 20 r (at_ Rc.o (p.v.rs.set r _) r)) _;rw[zal _ _ _ _ hrl];exact znp (by omega) zN (znJ (x:=⟨p.ref 5,zaf r j⟩) (t:=[]) rfl rfl (by simp))))⟩,trivial⟩;(focus((repeat' first|exact zT|exact rfl|refine zA ?_ ?_)));exact⟨(by unfold Rn Rnl;trivial),rfl,⟨rfl,rfl, .inl (zaA rfl)⟩,⟨rfl,rfl, .inl (zay he96)⟩,trivial⟩;conv=>whnf))
    refine⟨?_⟩
    (refine Weak.ofG [0,1] [] [] rfl rfl rfl rfl ?_ ?_ ?_ ?_;exact⟨pQ rfl rfl,rQ he96,trivial⟩;exact gQ;exact zN;(focus((repeat' first|exact zT|refine zA ?_ ?_))))
   ·have hle:=zkG (es:=es) (r:=r) (j:=j+1) hr100 (by omega) (fun i hi=>by
     by_cases hij:i=j
     ·rw[hij];exact hb
     ·exact htk i (by omega))
    have hkl:(Ck.dec (j+1)).length≤4:=(zg3 3 (j+1) (by omega)).2
    have hs1:(found++Ck.dec r).length+([46]:List UInt8).length≤9223372036854775807:=by simp[found];omega
    have hs2:(found++Ck.dec r++[46]).length+(Ck.dec (j+1)).length≤9223372036854775807:=by simp[found];omega
    (conv=>whnf);repeat(first|refine Need.mk ?_ ?_;exact hd5|refine RK.of (zaP (zat false 20) Rc.o (k:=9) hoff9 rfl rfl h5l (by decide) rfl) ?_|rw[e1]|refine KCall.lend (zF 20 [2]) (hcon) rfl ?_ ?_;exact Wzc (zj4 (fun _=>rfl) (fun _=>rfl) ((zaq h9).trans hge) (zbd h9) rfl) (Wzc (zb6 rfl (zbA (by simp)) (zl5 _)) Wzn)|refine KCall.pure (hIt (j+1) (by omega)) ?_|refine Need.mk ?_ ?_;(focus(first|exact hs1|exact hs2))|refine KIf.t rfl ?_|refine Need.mk ?_ ?_;((constructor<;>omega)));conv=>whnf
    refine⟨j+1,⟨hle,fun i hi=>by
     by_cases hij:i=j
     ·rw[hij];exact hb
     ·exact htk i (by omega)⟩,by dsimp only;omega,?_⟩
    (refine Weak.ofG [0,1,2] [] [] rfl rfl rfl rfl ?_ ?_ ?_ ?_;exact⟨pQ rfl rfl,rQ h96,⟨rfl,rfl, .same rfl rfl⟩,trivial⟩;exact gQ;exact zN;(focus((repeat' first|exact zT|exact rfl|refine zA ?_ ?_))))
set_option maxHeartbeats 4000000
theorem reached_hc (v:Pt) (h1:v.rs.length≤100000) (h5:5<v.rs.length) (hd5:dir (at_ Rc.o v.rs 5)=true) (hes:∀x∈v.rs,x.es.length≤100000):HC Tryz.prog 0 74 [aPts v] [] (.sl 0 0 v.rs.length v.rs.length) [.row ((rchL v).map bb) 4 0]:=by
 have hmk:(0:Int)≤v.rs.length∧(v.rs.length:Int)≤v.rs.length∧((v.rs.length:Int)).toNat*1≤2^47∧(v.rs.length:Int)≤2^60:=by refine⟨?_,?_,?_,?_⟩<;>omega
 have hcnt0:[5].length+cntF (zeO v)≤v.rs.length:=by
  have:=zbJ (List.replicate v.rs.length false) 5 (by simpa using h5) (zkV _ _);rw[zkx] at this;unfold zeO;simp only[List.length_cons,List.length_nil];omega
 have hzr:zeros v.rs.length (.bool false)=(List.replicate v.rs.length false).map bb:=by
  rw[zdc (x:=bb false) _ _ rfl];simp
 have hoff5:0+5*1=5:=rfl
 have hj5:5<(List.replicate v.rs.length false).length:=by simpa using h5
 refine HC.of kmix (Nat.le_refl 0) ?_
 (conv=>whnf);repeat(first|refine Need.mk ?_ ?_;(first|trivial|omega)|refine Ck.storeM bb true rfl hoff5 rfl rfl rfl rfl (congrArg (fun c=>some (AO.row c 4 0)) hzr) hj5 ?_);conv=>whnf
 refine WLoop.inv kmix (D:=List Bool×List Int×Sh) (fun d=>2*cntF d.1+d.2.1.length) (fun d=>Que v d.1 d.2.1∧okS d.2.2 d.2.1∧d.2.1.length+cntF d.1≤v.rs.length)
  (fun d=>slots [(1, .ptr 0 0),(3, .sl 1 0 v.rs.length v.rs.length),(4,qv d.2.2 d.2.1)] 68)
  (fun d=>zaj [.row (aPt v) 26 0, .row (d.1.map bb) 4 0,qr d.2.2 d.2.1]) (zeO v,[5], .init) ⟨.start h5 hd5,rfl,hcnt0⟩ ?_ ?_
 ·(refine Weak.of [0,1,2] [] rfl rfl ?_ ?_<;>(repeat' first|exact zT|refine zA ?_ ?_)<;>(conv=>whnf)<;>(repeat'(exact rfl))<;>((first|exact Or.inr ⟨rfl,rfl⟩|exact Or.inr ⟨rfl,Ck.contL_map (fun _=>rfl) _⟩)))
 ·rintro⟨L,Q,sh⟩ ⟨hq,hs,hcn⟩;dsimp only at hq hs hcn⊢;have hLl:=hq.m.len
  cases sh with
  |init=>
   subst hs;have hmid:=hq.pop;clear hq
   (conv=>whnf);repeat(first|refine KIf.t rfl ?_|refine Need.mk ?_ ?_;(first|trivial|omega));conv=>whnf
   have hcq:([]:List Int).length+1+cntF L≤v.rs.length∧2*cntF L+([]:List Int).length<2*cntF L+([5]:List Int).length:=by simp only[List.length_cons,List.length_nil] at hcn⊢;omega
   have hel:=hes _ (at_mem Rc.o v.rs 5 (by omega))
   refine WLoop.inv kmix (D:=List Bool×List Int×Sh×Nat) (fun m=>(at_ Rc.o v.rs 5).es.length-m.2.2.2) (fun m=>Mid v 5 m.2.2.2 m.1 m.2.1∧okI m.2.2.1 m.2.1∧m.2.2.2≤(at_ Rc.o v.rs 5).es.length∧m.2.1.length+1+cntF m.1≤v.rs.length∧2*cntF m.1+m.2.1.length<2*cntF L+([5]:List Int).length)
    (fun m=>slots [(1, .ptr 0 0),(3, .sl 1 0 v.rs.length v.rs.length),(4,qv m.2.2.1 m.2.1),(5,ib 5),(30,LS 4 aEn En.o (at_ Rc.o v.rs 5).es),(31,ib (at_ Rc.o v.rs 5).es.length),(32,ib m.2.2.2)] 68)
    (fun m=>zaj [.row (aPt v) 26 0, .row (m.1.map bb) 4 0,qr m.2.2.1 m.2.1]) (L,([]:List Int), .mt0,0) ⟨hmid,rfl,Nat.zero_le _,hcq.1,hcq.2⟩ ?_ ?_
   ·(refine Weak.of [0,1,2] [] rfl rfl ?_ ?_<;>(repeat' first|exact zT|refine zA ?_ ?_)<;>(conv=>whnf)<;>(repeat'(exact rfl))<;>(first|(intro _ _;rfl)|(first|exact Or.inr ⟨rfl,rfl⟩|exact Or.inr ⟨rfl,Ck.contL_map (fun _=>rfl) _⟩)))
   ·clear hmid hcq hcn;rintro⟨L,Q,sh,k⟩ ⟨hm,hs,hk,hcn,hme⟩;dsimp only at hm hs hk hcn hme⊢
    cases sh with
    |init=>exact hs.elim
    |mt0=>
     subst hs;have hLl:=hm.m.len
     conv=>whnf
     refine KIf.dec (fun h=> ?_) (fun h=> ?_)
     ·have hlt:k<(at_ Rc.o v.rs 5).es.length:=by omega
      obtain⟨x,hx⟩:∃x,x=(at_ En.o (at_ Rc.o v.rs 5).es k):=⟨_,rfl⟩
      by_cases hr:right v x.f=true
      ·have hrl:=zb7 hr
       have hri:0≤x.f.r∧x.f.r<v.rs.length:=by omega
       have hoff:0+x.f.r.toNat*1=x.f.r.toNat:=by omega
       have hj:x.f.r.toNat<L.length:=by omega
       have hset:=fun hn=>hm.set hx hlt hr hn
       have hskip:=fun hn:at_ false L x.f.r.toNat=true=>hm.skip (by rw[←hx];exact fun _=>hn)
       rw[hx] at hr hri hoff hj hset hskip;cases hmk:at_ false L (at_ En.o (at_ Rc.o v.rs 5).es k).f.r.toNat
       ·have hm2:=hset hmk;have hcs:=zbJ L _ hj hmk;clear hset hskip;cases hd:dir (at_ Rc.o v.rs (at_ En.o (at_ Rc.o v.rs 5).es k).f.r.toNat)
        ·rw[hd] at hm2
         (conv=>whnf);repeat(first|refine KIf.f ?_ ?_;assumption|refine KIf.t rfl ?_|refine Need.mk ?_ ?_;(first|trivial|omega|(constructor<;>omega))|refine KCall.pure (zaV v _ h1 hr) ?_|refine RK.of (Ck.loadMx bb false false hmk hoff rfl rfl hj) ?_|refine Ck.storeM bb true rfl hoff rfl rfl rfl rfl rfl hj ?_|refine KCall.pure (zav (at_ Rc.o v.rs (at_ En.o (at_ Rc.o v.rs 5).es k).f.r.toNat)) ?_);conv=>whnf
         refine⟨(L.set (at_ En.o (at_ Rc.o v.rs 5).es k).f.r.toNat true,([]:List Int),Sh.mt0,k+1),⟨hm2,rfl,hlt,by dsimp only;omega,by dsimp only at hme⊢;omega⟩,by dsimp only;omega,?_⟩
         (refine Weak.of [0,1,2] [] rfl rfl ?_ ?_<;>(repeat' first|exact zT|refine zA ?_ ?_)<;>(conv=>whnf)<;>(repeat'(exact rfl))<;>(first|(intro _ _;rfl)|(first|exact Or.inr ⟨rfl,rfl⟩|exact Or.inr ⟨rfl,Ck.contL_map (fun _=>rfl) _⟩)))
        ·rw[hd,if_pos rfl] at hm2
         (conv=>whnf);repeat(first|refine KIf.t ?_ ?_;assumption|refine KIf.t rfl ?_|refine KIf.f rfl ?_|refine Need.mk ?_ ?_;(first|trivial|omega|(constructor<;>omega))|refine KCall.pure (zaV v _ h1 hr) ?_|refine RK.of (Ck.loadMx bb false false hmk hoff rfl rfl hj) ?_|refine Ck.storeM bb true rfl hoff rfl rfl rfl rfl rfl hj ?_|refine KCall.pure (zav (at_ Rc.o v.rs (at_ En.o (at_ Rc.o v.rs 5).es k).f.r.toNat)) ?_);conv=>whnf
         refine⟨(L.set (at_ En.o (at_ Rc.o v.rs 5).es k).f.r.toNat true,([]:List Int)++[(at_ En.o (at_ Rc.o v.rs 5).es k).f.r],(Sh.op []),k+1),⟨hm2,trivial,hlt,by simp only[List.length_append,List.length_cons,List.length_nil] at hcn⊢;omega,by simp only[List.length_append,List.length_cons,List.length_nil] at hme⊢;omega⟩,by dsimp only;omega,?_⟩
         (refine Weak.of [0,1,6] [] rfl rfl ?_ ?_<;>(repeat' first|exact zT|refine zA ?_ ?_)<;>(conv=>whnf)<;>(repeat'(exact rfl))<;>(first|(intro _ _;rfl)|((first|exact Or.inr ⟨rfl,rfl⟩|exact Or.inr ⟨rfl,Ck.contL_map (fun _=>rfl) _⟩))))
       ·have hm2:=hskip hmk;clear hset hskip
        (conv=>whnf);repeat(first|refine KIf.t rfl ?_|refine KIf.f rfl ?_|refine Need.mk ?_ ?_;(first|trivial|omega|(constructor<;>omega))|refine KCall.pure (zaV v _ h1 hr) ?_|refine RK.of (Ck.loadMx bb false true hmk hoff rfl rfl hj) ?_);conv=>whnf
        refine⟨(L,([]:List Int),Sh.mt0,k+1),⟨hm2,rfl,hlt,hcn,hme⟩,by dsimp only;omega,?_⟩
        (refine Weak.of [0,1,2] [] rfl rfl ?_ ?_<;>(repeat' first|exact zT|refine zA ?_ ?_)<;>(conv=>whnf)<;>(repeat'(exact rfl))<;>(first|(intro _ _;rfl)|(first|exact Or.inr ⟨rfl,rfl⟩|exact Or.inr ⟨rfl,Ck.contL_map (fun _=>rfl) _⟩)))
      ·have hr':right v x.f=false:=by simpa using hr
       have hm2:=hm.skip (by rw[←hx];exact fun h=>absurd h hr);rw[hx] at hr'
       (conv=>whnf);repeat(first|refine KIf.f rfl ?_|refine Need.mk ?_ ?_;(first|omega|(constructor<;>omega))|refine KCall.pure (zdm v _ h1 hr') ?_);conv=>whnf
       refine⟨(L,([]:List Int),Sh.mt0,k+1),⟨hm2,rfl,hlt,hcn,hme⟩,by dsimp only;omega,?_⟩
       (refine Weak.of [0,1,2] [] rfl rfl ?_ ?_<;>(repeat' first|exact zT|refine zA ?_ ?_)<;>(conv=>whnf)<;>(repeat'(exact rfl))<;>(first|(intro _ _;rfl)|(first|exact Or.inr ⟨rfl,rfl⟩|exact Or.inr ⟨rfl,Ck.contL_map (fun _=>rfl) _⟩)))
     ·have hke:k=(at_ Rc.o v.rs 5).es.length:=by omega
      conv=>whnf
      refine⟨(L,([]:List Int),Sh.mt0),⟨hm.fin hke,rfl,by dsimp only;omega⟩,hme,?_⟩
      (refine Weak.of [0,1,2] [] rfl rfl ?_ ?_<;>(repeat' first|exact zT|refine zA ?_ ?_)<;>(conv=>whnf)<;>(repeat'(exact rfl))<;>((first|exact Or.inr ⟨rfl,rfl⟩|exact Or.inr ⟨rfl,Ck.contL_map (fun _=>rfl) _⟩)))
    |op pre=>
     have hLl:=hm.m.len
     conv=>whnf
     refine KIf.dec (fun h=> ?_) (fun h=> ?_)
     ·have hlt:k<(at_ Rc.o v.rs 5).es.length:=by omega
      obtain⟨x,hx⟩:∃x,x=(at_ En.o (at_ Rc.o v.rs 5).es k):=⟨_,rfl⟩
      by_cases hr:right v x.f=true
      ·have hrl:=zb7 hr
       have hri:0≤x.f.r∧x.f.r<v.rs.length:=by omega
       have hoff:0+x.f.r.toNat*1=x.f.r.toNat:=by omega
       have hj:x.f.r.toNat<L.length:=by omega
       have hset:=fun hn=>hm.set hx hlt hr hn
       have hskip:=fun hn:at_ false L x.f.r.toNat=true=>hm.skip (by rw[←hx];exact fun _=>hn)
       rw[hx] at hr hri hoff hj hset hskip;cases hmk:at_ false L (at_ En.o (at_ Rc.o v.rs 5).es k).f.r.toNat
       ·have hm2:=hset hmk;have hcs:=zbJ L _ hj hmk;clear hset hskip;cases hd:dir (at_ Rc.o v.rs (at_ En.o (at_ Rc.o v.rs 5).es k).f.r.toNat)
        ·rw[hd] at hm2
         (conv=>whnf);repeat(first|refine KIf.f ?_ ?_;assumption|refine KIf.t rfl ?_|refine Need.mk ?_ ?_;(first|trivial|omega|(constructor<;>omega))|refine KCall.pure (zaV v _ h1 hr) ?_|refine RK.of (Ck.loadMx bb false false hmk hoff rfl rfl hj) ?_|refine Ck.storeM bb true rfl hoff rfl rfl rfl rfl rfl hj ?_|refine KCall.pure (zav (at_ Rc.o v.rs (at_ En.o (at_ Rc.o v.rs 5).es k).f.r.toNat)) ?_);conv=>whnf
         refine⟨(L.set (at_ En.o (at_ Rc.o v.rs 5).es k).f.r.toNat true,Q,(Sh.op pre),k+1),⟨hm2,trivial,hlt,by dsimp only;omega,by dsimp only at hme⊢;omega⟩,by dsimp only;omega,?_⟩
         (refine Weak.of [0,1,2] [] rfl rfl ?_ ?_<;>(repeat' first|exact zT|refine zA ?_ ?_)<;>(conv=>whnf)<;>(repeat'(exact rfl))<;>(first|(intro _ _;rfl)|(first|exact Or.inr ⟨rfl,rfl⟩|exact Or.inr ⟨rfl,Ck.contL_map (fun _=>rfl) _⟩)))
        ·rw[hd,if_pos rfl] at hm2
         (conv=>whnf);repeat(first|refine NCase.s (Nat.succ_ne_zero _) ?_|refine KIf.t ?_ ?_;assumption|refine KIf.t rfl ?_|refine Need.mk ?_ ?_;(first|trivial|omega|(constructor<;>omega))|refine KCall.pure (zaV v _ h1 hr) ?_|refine RK.of (Ck.loadMx bb false false hmk hoff rfl rfl hj) ?_|refine Ck.storeM bb true rfl hoff rfl rfl rfl rfl rfl hj ?_|refine KCall.pure (zav (at_ Rc.o v.rs (at_ En.o (at_ Rc.o v.rs 5).es k).f.r.toNat)) ?_|refine Need.mk ?_ ?_;exact(by simp));conv=>whnf
         refine⟨(L.set (at_ En.o (at_ Rc.o v.rs 5).es k).f.r.toNat true,Q++[(at_ En.o (at_ Rc.o v.rs 5).es k).f.r],(Sh.op []),k+1),⟨hm2,trivial,hlt,by simp only[List.length_append,List.length_cons,List.length_nil] at hcn⊢;omega,by simp only[List.length_append,List.length_cons,List.length_nil] at hme⊢;omega⟩,by dsimp only;omega,?_⟩
         (refine Weak.of [0,1,6] [] rfl rfl ?_ ?_<;>(repeat' first|exact zT|refine zA ?_ ?_)<;>(conv=>whnf)<;>(repeat'(exact rfl))<;>(first|(intro _ _;rfl)|(first|exact zdd (zfd ib _ _ _) (contL_map (enc:=ib) (fun _=>rfl) _)|(first|exact Or.inr ⟨rfl,rfl⟩|exact Or.inr ⟨rfl,Ck.contL_map (fun _=>rfl) _⟩)|(simp;done))))
       ·have hm2:=hskip hmk;clear hset hskip
        (conv=>whnf);repeat(first|refine KIf.t rfl ?_|refine KIf.f rfl ?_|refine Need.mk ?_ ?_;(first|trivial|omega|(constructor<;>omega))|refine KCall.pure (zaV v _ h1 hr) ?_|refine RK.of (Ck.loadMx bb false true hmk hoff rfl rfl hj) ?_);conv=>whnf
        refine⟨(L,Q,(Sh.op pre),k+1),⟨hm2,trivial,hlt,hcn,hme⟩,by dsimp only;omega,?_⟩
        (refine Weak.of [0,1,2] [] rfl rfl ?_ ?_<;>(repeat' first|exact zT|refine zA ?_ ?_)<;>(conv=>whnf)<;>(repeat'(exact rfl))<;>(first|(intro _ _;rfl)|(first|exact Or.inr ⟨rfl,rfl⟩|exact Or.inr ⟨rfl,Ck.contL_map (fun _=>rfl) _⟩)))
      ·have hr':right v x.f=false:=by simpa using hr
       have hm2:=hm.skip (by rw[←hx];exact fun h=>absurd h hr);rw[hx] at hr'
       (conv=>whnf);repeat(first|refine KIf.f rfl ?_|refine Need.mk ?_ ?_;(first|omega|(constructor<;>omega))|refine KCall.pure (zdm v _ h1 hr') ?_);conv=>whnf
       refine⟨(L,Q,(Sh.op pre),k+1),⟨hm2,trivial,hlt,hcn,hme⟩,by dsimp only;omega,?_⟩
       (refine Weak.of [0,1,2] [] rfl rfl ?_ ?_<;>(repeat' first|exact zT|refine zA ?_ ?_)<;>(conv=>whnf)<;>(repeat'(exact rfl))<;>(first|(intro _ _;rfl)|(first|exact Or.inr ⟨rfl,rfl⟩|exact Or.inr ⟨rfl,Ck.contL_map (fun _=>rfl) _⟩)))
     ·have hke:k=(at_ Rc.o v.rs 5).es.length:=by omega
      conv=>whnf
      refine⟨(L,Q,Sh.op pre),⟨hm.fin hke,trivial,by dsimp only;omega⟩,hme,?_⟩
      (refine Weak.of [0,1,2] [] rfl rfl ?_ ?_<;>(repeat' first|exact zT|refine zA ?_ ?_)<;>(conv=>whnf)<;>(repeat'(exact rfl))<;>((first|exact Or.inr ⟨rfl,rfl⟩|exact Or.inr ⟨rfl,Ck.contL_map (fun _=>rfl) _⟩)))
  |mt0=>
   subst hs;have hL:=hq.fin
   (conv=>whnf);repeat((refine KIf.f rfl ?_;conv=>whnf))
   rw[←hL]
   (refine⟨[1],[],rfl,?_,?_⟩<;>(repeat' first|exact zT|refine zA ?_ ?_)<;>(conv=>whnf)<;>(repeat'(exact rfl))<;>((exact Or.inr ⟨rfl,Ck.contL_map (fun _=>rfl) _⟩)))
  |op pre=>
   cases Q with
   |nil=>
    have hL:=hq.fin
    (conv=>whnf);repeat((refine KIf.f rfl ?_;conv=>whnf))
    rw[←hL]
    (refine⟨[1],[],rfl,?_,?_⟩<;>(repeat' first|exact zT|refine zA ?_ ?_)<;>(conv=>whnf)<;>(repeat'(exact rfl))<;>((exact Or.inr ⟨rfl,Ck.contL_map (fun _=>rfl) _⟩)))
   |cons d Q=>
    have hmid:=hq.pop;obtain⟨hd0,hd1,hd2,hd3⟩:=hq.q d (by simp);clear hd2 hd3;clear hq hs
    cases Q with
    |nil=>
     have hle:(0:Int)≤0∧(0:Int)<([d].length:Nat):=⟨Int.le_refl _,by simp only[List.length_cons,List.length_nil];omega⟩
     have hat:at_ 0 (pre++[d]) pre.length=d:=by unfold at_;simp
     have hjl:pre.length<(pre++[d]).length:=by simp
     have hdn:0≤d∧d<v.rs.length:=by omega
     (conv=>whnf);repeat(first|refine KIf.t rfl ?_|refine KIf.f rfl ?_|refine Need.mk ?_ ?_;(first|trivial|omega)|refine Need.mk ?_ ?_;exact⟨(Nat.mul_one _).symm,by simp,rfl,rfl⟩|refine RK.of (Ck.loadMx ib 0 d hat rfl rfl rfl hjl) ?_);conv=>whnf
     have hcq:([]:List Int).length+1+cntF L≤v.rs.length∧2*cntF L+([]:List Int).length<2*cntF L+([d]:List Int).length:=by simp only[List.length_cons,List.length_nil] at hcn⊢;omega
     have hel:=hes _ (at_mem Rc.o v.rs d.toNat (by omega))
     refine WLoop.inv kmix (D:=List Bool×List Int×List Int×Nat) (fun m=>(at_ Rc.o v.rs d.toNat).es.length-m.2.2.2) (fun m=>Mid v d.toNat m.2.2.2 m.1 m.2.1∧okI (.op m.2.2.1) m.2.1∧m.2.2.2≤(at_ Rc.o v.rs d.toNat).es.length∧m.2.1.length+1+cntF m.1≤v.rs.length∧2*cntF m.1+m.2.1.length<2*cntF L+([d]:List Int).length)
      (fun m=>slots [(1, .ptr 0 0),(3, .sl 1 0 v.rs.length v.rs.length),(4,qv (.op m.2.2.1) m.2.1),(5,ib d),(30,LS 4 aEn En.o (at_ Rc.o v.rs d.toNat).es),(31,ib (at_ Rc.o v.rs d.toNat).es.length),(32,ib m.2.2.2)] 68)
      (fun m=>zaj [.row (aPt v) 26 0, .row (m.1.map bb) 4 0,qr (.op m.2.2.1) m.2.1]) (L,([]:List Int),[],0) ⟨hmid,trivial,Nat.zero_le _,hcq.1,hcq.2⟩ ?_ ?_
     ·(refine Weak.of [0,1,3] [] rfl rfl ?_ ?_<;>(repeat' first|exact zT|refine zA ?_ ?_)<;>(conv=>whnf)<;>(repeat'(exact rfl))<;>(first|(intro _ _;rfl)|(first|exact Or.inr ⟨rfl,rfl⟩|exact Or.inr ⟨rfl,Ck.contL_map (fun _=>rfl) _⟩)))
     ·clear hmid hcq hcn hat hjl hle;rintro⟨L,Q,pre,k⟩ ⟨hm,hs,hk,hcn,hme⟩;dsimp only at hm hs hk hcn hme⊢;have hLl:=hm.m.len
      conv=>whnf
      refine KIf.dec (fun h=> ?_) (fun h=> ?_)
      ·have hlt:k<(at_ Rc.o v.rs d.toNat).es.length:=by omega
       obtain⟨x,hx⟩:∃x,x=(at_ En.o (at_ Rc.o v.rs d.toNat).es k):=⟨_,rfl⟩
       by_cases hr:right v x.f=true
       ·have hrl:=zb7 hr
        have hri:0≤x.f.r∧x.f.r<v.rs.length:=by omega
        have hoff:0+x.f.r.toNat*1=x.f.r.toNat:=by omega
        have hj:x.f.r.toNat<L.length:=by omega
        have hset:=fun hn=>hm.set hx hlt hr hn
        have hskip:=fun hn:at_ false L x.f.r.toNat=true=>hm.skip (by rw[←hx];exact fun _=>hn)
        rw[hx] at hr hri hoff hj hset hskip;cases hmk:at_ false L (at_ En.o (at_ Rc.o v.rs d.toNat).es k).f.r.toNat
        ·have hm2:=hset hmk;have hcs:=zbJ L _ hj hmk;clear hset hskip;cases hd:dir (at_ Rc.o v.rs (at_ En.o (at_ Rc.o v.rs d.toNat).es k).f.r.toNat)
         ·rw[hd] at hm2
          (conv=>whnf);repeat(first|refine KIf.f ?_ ?_;assumption|refine KIf.t rfl ?_|refine Need.mk ?_ ?_;(first|trivial|omega|(constructor<;>omega))|refine KCall.pure (zaV v _ h1 hr) ?_|refine RK.of (Ck.loadMx bb false false hmk hoff rfl rfl hj) ?_|refine Ck.storeM bb true rfl hoff rfl rfl rfl rfl rfl hj ?_|refine KCall.pure (zav (at_ Rc.o v.rs (at_ En.o (at_ Rc.o v.rs d.toNat).es k).f.r.toNat)) ?_);conv=>whnf
          refine⟨(L.set (at_ En.o (at_ Rc.o v.rs d.toNat).es k).f.r.toNat true,Q,pre,k+1),⟨hm2,trivial,hlt,by dsimp only;omega,by dsimp only at hme⊢;omega⟩,by dsimp only;omega,?_⟩
          (refine Weak.of [0,1,2] [] rfl rfl ?_ ?_<;>(repeat' first|exact zT|refine zA ?_ ?_)<;>(conv=>whnf)<;>(repeat'(exact rfl))<;>(first|(intro _ _;rfl)|(first|exact Or.inr ⟨rfl,rfl⟩|exact Or.inr ⟨rfl,Ck.contL_map (fun _=>rfl) _⟩)))
         ·rw[hd,if_pos rfl] at hm2
          (conv=>whnf);repeat(first|refine NCase.s (Nat.succ_ne_zero _) ?_|refine KIf.t ?_ ?_;assumption|refine KIf.t rfl ?_|refine Need.mk ?_ ?_;(first|trivial|omega|(constructor<;>omega))|refine KCall.pure (zaV v _ h1 hr) ?_|refine RK.of (Ck.loadMx bb false false hmk hoff rfl rfl hj) ?_|refine Ck.storeM bb true rfl hoff rfl rfl rfl rfl rfl hj ?_|refine KCall.pure (zav (at_ Rc.o v.rs (at_ En.o (at_ Rc.o v.rs d.toNat).es k).f.r.toNat)) ?_|refine Need.mk ?_ ?_;exact(by simp));conv=>whnf
          refine⟨(L.set (at_ En.o (at_ Rc.o v.rs d.toNat).es k).f.r.toNat true,Q++[(at_ En.o (at_ Rc.o v.rs d.toNat).es k).f.r],[],k+1),⟨hm2,trivial,hlt,by simp only[List.length_append,List.length_cons,List.length_nil] at hcn⊢;omega,by simp only[List.length_append,List.length_cons,List.length_nil] at hme⊢;omega⟩,by dsimp only;omega,?_⟩
          (refine Weak.of [0,1,6] [] rfl rfl ?_ ?_<;>(repeat' first|exact zT|refine zA ?_ ?_)<;>(conv=>whnf)<;>(repeat'(exact rfl))<;>(first|(intro _ _;rfl)|(first|exact zdd (zfd ib _ _ _) (contL_map (enc:=ib) (fun _=>rfl) _)|(first|exact Or.inr ⟨rfl,rfl⟩|exact Or.inr ⟨rfl,Ck.contL_map (fun _=>rfl) _⟩)|(simp;done))))
        ·have hm2:=hskip hmk;clear hset hskip
         (conv=>whnf);repeat(first|refine KIf.t rfl ?_|refine KIf.f rfl ?_|refine Need.mk ?_ ?_;(first|trivial|omega|(constructor<;>omega))|refine KCall.pure (zaV v _ h1 hr) ?_|refine RK.of (Ck.loadMx bb false true hmk hoff rfl rfl hj) ?_);conv=>whnf
         refine⟨(L,Q,pre,k+1),⟨hm2,trivial,hlt,hcn,hme⟩,by dsimp only;omega,?_⟩
         (refine Weak.of [0,1,2] [] rfl rfl ?_ ?_<;>(repeat' first|exact zT|refine zA ?_ ?_)<;>(conv=>whnf)<;>(repeat'(exact rfl))<;>(first|(intro _ _;rfl)|(first|exact Or.inr ⟨rfl,rfl⟩|exact Or.inr ⟨rfl,Ck.contL_map (fun _=>rfl) _⟩)))
       ·have hr':right v x.f=false:=by simpa using hr
        have hm2:=hm.skip (by rw[←hx];exact fun h=>absurd h hr);rw[hx] at hr'
        (conv=>whnf);repeat(first|refine KIf.f rfl ?_|refine Need.mk ?_ ?_;(first|omega|(constructor<;>omega))|refine KCall.pure (zdm v _ h1 hr') ?_);conv=>whnf
        refine⟨(L,Q,pre,k+1),⟨hm2,trivial,hlt,hcn,hme⟩,by dsimp only;omega,?_⟩
        (refine Weak.of [0,1,2] [] rfl rfl ?_ ?_<;>(repeat' first|exact zT|refine zA ?_ ?_)<;>(conv=>whnf)<;>(repeat'(exact rfl))<;>(first|(intro _ _;rfl)|(first|exact Or.inr ⟨rfl,rfl⟩|exact Or.inr ⟨rfl,Ck.contL_map (fun _=>rfl) _⟩)))
      ·have hke:k=(at_ Rc.o v.rs d.toNat).es.length:=by omega
       conv=>whnf
       refine⟨(L,Q,Sh.op pre),⟨hm.fin hke,trivial,by dsimp only;omega⟩,hme,?_⟩
       (refine Weak.of [0,1,2] [] rfl rfl ?_ ?_<;>(repeat' first|exact zT|refine zA ?_ ?_)<;>(conv=>whnf)<;>(repeat'(exact rfl))<;>((first|exact Or.inr ⟨rfl,rfl⟩|exact Or.inr ⟨rfl,Ck.contL_map (fun _=>rfl) _⟩)))
    |cons d2 Q=>
     have hle:(0:Int)≤0∧(0:Int)<((d::d2::Q).length:Nat):=⟨Int.le_refl _,by simp only[List.length_cons,List.length_nil];omega⟩
     have hat:at_ 0 (pre++(d::d2::Q)) pre.length=d:=by unfold at_;simp
     have hjl:pre.length<(pre++(d::d2::Q)).length:=by simp
     have hdn:0≤d∧d<v.rs.length:=by omega
     (conv=>whnf);repeat(first|refine KIf.t rfl ?_|refine Need.mk ?_ ?_;(first|trivial|omega)|refine KIf.t (decide_eq_true hle.2) ?_|refine RK.of (Ck.loadMx ib 0 d hat rfl rfl rfl hjl) ?_);conv=>whnf
     have hcq:(d2::Q).length+1+cntF L≤v.rs.length∧2*cntF L+(d2::Q).length<2*cntF L+(d::d2::Q).length:=by simp only[List.length_cons,List.length_nil] at hcn⊢;omega
     have hel:=hes _ (at_mem Rc.o v.rs d.toNat (by omega))
     refine WLoop.inv kmix (D:=List Bool×List Int×List Int×Nat) (fun m=>(at_ Rc.o v.rs d.toNat).es.length-m.2.2.2) (fun m=>Mid v d.toNat m.2.2.2 m.1 m.2.1∧okI (.op m.2.2.1) m.2.1∧m.2.2.2≤(at_ Rc.o v.rs d.toNat).es.length∧m.2.1.length+1+cntF m.1≤v.rs.length∧2*cntF m.1+m.2.1.length<2*cntF L+(d::d2::Q).length)
      (fun m=>slots [(1, .ptr 0 0),(3, .sl 1 0 v.rs.length v.rs.length),(4,qv (.op m.2.2.1) m.2.1),(5,ib d),(30,LS 4 aEn En.o (at_ Rc.o v.rs d.toNat).es),(31,ib (at_ Rc.o v.rs d.toNat).es.length),(32,ib m.2.2.2)] 68)
      (fun m=>zaj [.row (aPt v) 26 0, .row (m.1.map bb) 4 0,qr (.op m.2.2.1) m.2.1]) (L,(d2::Q),pre++[d],0) ⟨hmid,trivial,Nat.zero_le _,hcq.1,hcq.2⟩ ?_ ?_
     ·(refine Weak.of [0,1,2] [] rfl rfl ?_ ?_<;>(repeat' first|exact zT|refine zA ?_ ?_)<;>(conv=>whnf)<;>(repeat'(exact rfl))<;>(first|(intro _ _;rfl)|(first|exact Or.inr ⟨by simp,contL_map (enc:=ib) (fun _=>rfl) _⟩|(first|exact Or.inr ⟨rfl,rfl⟩|exact Or.inr ⟨rfl,Ck.contL_map (fun _=>rfl) _⟩)|(simp;done))))
     ·clear hmid hcq hcn hat hjl hle;rintro⟨L,Q,pre,k⟩ ⟨hm,hs,hk,hcn,hme⟩;dsimp only at hm hs hk hcn hme⊢;have hLl:=hm.m.len
      conv=>whnf
      refine KIf.dec (fun h=> ?_) (fun h=> ?_)
      ·have hlt:k<(at_ Rc.o v.rs d.toNat).es.length:=by omega
       obtain⟨x,hx⟩:∃x,x=(at_ En.o (at_ Rc.o v.rs d.toNat).es k):=⟨_,rfl⟩
       by_cases hr:right v x.f=true
       ·have hrl:=zb7 hr
        have hri:0≤x.f.r∧x.f.r<v.rs.length:=by omega
        have hoff:0+x.f.r.toNat*1=x.f.r.toNat:=by omega
        have hj:x.f.r.toNat<L.length:=by omega
        have hset:=fun hn=>hm.set hx hlt hr hn
        have hskip:=fun hn:at_ false L x.f.r.toNat=true=>hm.skip (by rw[←hx];exact fun _=>hn)
        rw[hx] at hr hri hoff hj hset hskip;cases hmk:at_ false L (at_ En.o (at_ Rc.o v.rs d.toNat).es k).f.r.toNat
        ·have hm2:=hset hmk;have hcs:=zbJ L _ hj hmk;clear hset hskip;cases hd:dir (at_ Rc.o v.rs (at_ En.o (at_ Rc.o v.rs d.toNat).es k).f.r.toNat)
         ·rw[hd] at hm2
          (conv=>whnf);repeat(first|refine KIf.f ?_ ?_;assumption|refine KIf.t rfl ?_|refine Need.mk ?_ ?_;(first|trivial|omega|(constructor<;>omega))|refine KCall.pure (zaV v _ h1 hr) ?_|refine RK.of (Ck.loadMx bb false false hmk hoff rfl rfl hj) ?_|refine Ck.storeM bb true rfl hoff rfl rfl rfl rfl rfl hj ?_|refine KCall.pure (zav (at_ Rc.o v.rs (at_ En.o (at_ Rc.o v.rs d.toNat).es k).f.r.toNat)) ?_);conv=>whnf
          refine⟨(L.set (at_ En.o (at_ Rc.o v.rs d.toNat).es k).f.r.toNat true,Q,pre,k+1),⟨hm2,trivial,hlt,by dsimp only;omega,by dsimp only at hme⊢;omega⟩,by dsimp only;omega,?_⟩
          (refine Weak.of [0,1,2] [] rfl rfl ?_ ?_<;>(repeat' first|exact zT|refine zA ?_ ?_)<;>(conv=>whnf)<;>(repeat'(exact rfl))<;>(first|(intro _ _;rfl)|(first|exact Or.inr ⟨rfl,rfl⟩|exact Or.inr ⟨rfl,Ck.contL_map (fun _=>rfl) _⟩)))
         ·rw[hd,if_pos rfl] at hm2
          (conv=>whnf);repeat(first|refine NCase.s (Nat.succ_ne_zero _) ?_|refine KIf.t ?_ ?_;assumption|refine KIf.t rfl ?_|refine Need.mk ?_ ?_;(first|trivial|omega|(constructor<;>omega))|refine KCall.pure (zaV v _ h1 hr) ?_|refine RK.of (Ck.loadMx bb false false hmk hoff rfl rfl hj) ?_|refine Ck.storeM bb true rfl hoff rfl rfl rfl rfl rfl hj ?_|refine KCall.pure (zav (at_ Rc.o v.rs (at_ En.o (at_ Rc.o v.rs d.toNat).es k).f.r.toNat)) ?_|refine Need.mk ?_ ?_;exact(by simp));conv=>whnf
          refine⟨(L.set (at_ En.o (at_ Rc.o v.rs d.toNat).es k).f.r.toNat true,Q++[(at_ En.o (at_ Rc.o v.rs d.toNat).es k).f.r],[],k+1),⟨hm2,trivial,hlt,by simp only[List.length_append,List.length_cons,List.length_nil] at hcn⊢;omega,by simp only[List.length_append,List.length_cons,List.length_nil] at hme⊢;omega⟩,by dsimp only;omega,?_⟩
          (refine Weak.of [0,1,6] [] rfl rfl ?_ ?_<;>(repeat' first|exact zT|refine zA ?_ ?_)<;>(conv=>whnf)<;>(repeat'(exact rfl))<;>(first|(intro _ _;rfl)|(first|exact zdd (zfd ib _ _ _) (contL_map (enc:=ib) (fun _=>rfl) _)|(first|exact Or.inr ⟨rfl,rfl⟩|exact Or.inr ⟨rfl,Ck.contL_map (fun _=>rfl) _⟩)|(simp;done))))
        ·have hm2:=hskip hmk;clear hset hskip
         (conv=>whnf);repeat(first|refine KIf.t rfl ?_|refine KIf.f rfl ?_|refine Need.mk ?_ ?_;(first|trivial|omega|(constructor<;>omega))|refine KCall.pure (zaV v _ h1 hr) ?_|refine RK.of (Ck.loadMx bb false true hmk hoff rfl rfl hj) ?_);conv=>whnf
         refine⟨(L,Q,pre,k+1),⟨hm2,trivial,hlt,hcn,hme⟩,by dsimp only;omega,?_⟩
         (refine Weak.of [0,1,2] [] rfl rfl ?_ ?_<;>(repeat' first|exact zT|refine zA ?_ ?_)<;>(conv=>whnf)<;>(repeat'(exact rfl))<;>(first|(intro _ _;rfl)|(first|exact Or.inr ⟨rfl,rfl⟩|exact Or.inr ⟨rfl,Ck.contL_map (fun _=>rfl) _⟩)))
       ·have hr':right v x.f=false:=by simpa using hr
        have hm2:=hm.skip (by rw[←hx];exact fun h=>absurd h hr);rw[hx] at hr'
        (conv=>whnf);repeat(first|refine KIf.f rfl ?_|refine Need.mk ?_ ?_;(first|omega|(constructor<;>omega))|refine KCall.pure (zdm v _ h1 hr') ?_);conv=>whnf
        refine⟨(L,Q,pre,k+1),⟨hm2,trivial,hlt,hcn,hme⟩,by dsimp only;omega,?_⟩
        (refine Weak.of [0,1,2] [] rfl rfl ?_ ?_<;>(repeat' first|exact zT|refine zA ?_ ?_)<;>(conv=>whnf)<;>(repeat'(exact rfl))<;>(first|(intro _ _;rfl)|(first|exact Or.inr ⟨rfl,rfl⟩|exact Or.inr ⟨rfl,Ck.contL_map (fun _=>rfl) _⟩)))
      ·have hke:k=(at_ Rc.o v.rs d.toNat).es.length:=by omega
       conv=>whnf
       refine⟨(L,Q,Sh.op pre),⟨hm.fin hke,trivial,by dsimp only;omega⟩,hme,?_⟩
       (refine Weak.of [0,1,2] [] rfl rfl ?_ ?_<;>(repeat' first|exact zT|refine zA ?_ ?_)<;>(conv=>whnf)<;>(repeat'(exact rfl))<;>((first|exact Or.inr ⟨rfl,rfl⟩|exact Or.inr ⟨rfl,Ck.contL_map (fun _=>rfl) _⟩)))
end Go.Proofs.YtgcjejajljhnaaaGreatDoor
namespace Ck
open Go Go.Ex
theorem zlN :∀l:List Bool,plainA.plainL (l.map bb)=true
 |[]=>rfl
 |_::l=>zlN l
theorem zjW (l:List Bool):∀o∈[AO.row (l.map bb) 4 0],zeE o:=fun o ho=>by rcases List.mem_singleton.1 ho with rfl;exact zlN l
end Ck
namespace Go.Proofs.YtgcjejajljhnaaaGreatDoor
open Go.Ex Ck
set_option maxRecDepth 100000
set_option maxHeartbeats 16000000
theorem orphan1_h (hIt:zjY) (n L:Nat) (q:Ck.Rp) (i:Nat) (hf:Rk n q) (hn:n≤96) (hi:16≤i∧i<n) (hb:q.fd.length≤500000) (hL:EsL L q) (hl:L<1000):HG Tryz.prog 3 20 220 155 [ib (i:Nat), .ptr 2 0] (gP false q) [.row (pRow 20 1 q) 106 0, .row (flatI (rcP false 20) 0 q.v.rs) 66 10, .row [.ptr 0 0] 107 0] (.tup [])
   (gP false (zaz q i)) [.row (pRow 20 1 (zaz q i)) 106 0, .row (flatI (rcP false 20) 0 (zaz q i).v.rs) 66 10, .row [.ptr 0 0] 107 0]:=by
 have hqn:=hf.rf.n
 have hq96:q.v.rs.length≤96:=by omega
 have hlt:i<q.v.rs.length:=by omega
 have hd0:(0:Int)≤(i:Nat)∧((i:Nat):Int)<(q.v.rs.length:Nat):=⟨by omega,by omega⟩
 have h7:0+((i:Nat):Int).toNat*10+7=i*10+7:=by simp
 have hls:zaz q i=if(at_ Rc.o q.v.rs i).ns.length=0 then bring (q.note 6 i 0) i else q:=by unfold zaz;rw[zae]
 refine HG.of kmix (by omega) ?_;by_cases h0:(at_ Rc.o q.v.rs i).ns.length=0
 ·have h0i:(((at_ Rc.o q.v.rs i).ns.length:Nat):Int)=0:=by omega
  have hls2:zaz q i=bring (q.note 6 i 0) i:=by rw[hls,if_pos h0]
  have hb6:=zm7 hIt n (q.note 6 i 0) i (hf.note 6 i 0) hn hi;have hbk:Rk n (bring (q.note 6 i 0) i):=(hf.note 6 i 0).bring hn hi (by have:=hL.at 5;show(at_ Rc.o q.v.rs 5).es.length<1000;omega)
  have hb96:(bring (q.note 6 i 0) i).v.rs.length≤96:=by rw[hbk.rf.n];exact hn
  rw[hls2]
  (conv=>whnf);repeat(first|refine Need.mk ?_ ?_;exact hd0|refine RK.of (zaP (zat false 20) Rc.o (k:=7) h7 rfl rfl hlt (by decide) rfl) ?_|refine KIf.t (decide_eq_true h0i) ?_|refine KCall.liftG [0,1] (.tup []) [.row (pRow 220 1 (q.note 6 i 0)) 106 0, .row (flatI (rcP false 220) 0 ((q.note 6 i 0)).v.rs) 66 10] (zcF false q 6 i 0 hq96 hf.rf.fl (by omega)) rfl (zab _ _) (zab _ _) ?_ ?_ ?_ ?_;exact⟨pF FR.G ⟨rfl,rfl⟩,rF FR.G hq96,trivial⟩;(focus((repeat' first|exact zT|exact rfl|refine zA ?_ ?_)));exact⟨(by unfold Rn Rnl;trivial),rfl,⟨⟨rfl,rfl, .inl (zaA rfl)⟩,⟨rfl,rfl, .inl (zay hq96)⟩,trivial⟩⟩|refine KCall.liftG [0,1] (.tup []) [.row (pRow 438 1 (bring (q.note 6 i 0) i)) 106 0, .row (flatI (rcP false 438) 0 ((bring (q.note 6 i 0) i)).v.rs) 66 10] (hb6) rfl (zab _ _) (zab _ _) ?_ ?_ ?_ ?_;exact⟨pF FR.G ⟨rfl,rfl⟩,rF FR.G hq96,trivial⟩;(focus((repeat' first|exact zT|exact rfl|refine zA ?_ ?_)));exact⟨(by unfold Rn Rnl;trivial),rfl,⟨⟨rfl,rfl, .inl (zaA rfl)⟩,⟨rfl,rfl, .inl (zay hb96)⟩,trivial⟩⟩);conv=>whnf
  refine⟨?_⟩
  (refine Weak.ofG [0,1,2] [] [] rfl rfl rfl rfl ?_ ?_ ?_ ?_;exact⟨pQ rfl rfl,rQ hb96,⟨rfl,rfl,WL.row (zbl ⟨rfl,rfl⟩)⟩,trivial⟩;exact gQ;exact zN;(focus((repeat' first|exact zT|refine zA ?_ ?_))))
 ·have h0i:¬(((at_ Rc.o q.v.rs i).ns.length:Nat):Int)=0:=by omega
  rw[hls,if_neg h0]
  (conv=>whnf);repeat(first|refine Need.mk ?_ ?_;exact hd0|refine RK.of (zaP (zat false 20) Rc.o (k:=7) h7 rfl rfl hlt (by decide) rfl) ?_|refine KIf.f (decide_eq_false h0i) ?_);conv=>whnf
  refine⟨?_⟩
  (refine Weak.ofG [0,1,2] [] [] rfl rfl rfl rfl ?_ ?_ ?_ ?_;exact⟨pQ rfl rfl,rQ hq96,⟨rfl,rfl,WL.row (zbl ⟨rfl,rfl⟩)⟩,trivial⟩;exact gQ;exact zN;(focus((repeat' first|exact zT|refine zA ?_ ?_))))
theorem orphans_h (hIt:zjY) (n L:Nat) (p:Ck.Rp) (hf:Rk n p) (hn:n≤96) (hb:p.fd.length≤400000) (hL:EsL L p) (hl:L+n<1000):HG Tryz.prog 2 20 220 109 [.ptr 0 0] (gP false p) [.row (pRow 20 1 p) 106 0, .row (flatI (rcP false 20) 0 p.v.rs) 66 10] (.tup [])
  (gP false (orphans p)) [.row (pRow 20 1 (orphans p)) 106 0, .row (flatI (rcP false 20) 0 (orphans p).v.rs) 66 10]:=by
 have hp96:p.v.rs.length≤96:=by rw[hf.rf.n];exact hn
 have hI:=zgF hf hn hL hl;have hbl:=below_155 n false zaz p (fun j q=>Rk n q∧q.fd.length≤p.fd.length+j∧EsL (L+j) q∧j≤n-16) hn (fun j hj=>⟨(hI j hj).1,(hI j hj).2.1,(hI j hj).2.2,hj⟩) (fun j q h=>h.1.rf.n) (fun j q hj h _=>orphan1_h hIt n (L+j) q (16+j) h.1 hn ⟨by omega,hj⟩ (by have:=h.2.1;omega) h.2.2.1 (by omega))
 have hl96:(orphans p).v.rs.length≤96:=by
  have:=(hI (n-16) (Nat.le_refl _)).1.rf.n;unfold orphans below;rw[hf.rf.n,this];exact hn
 refine HG.of kmix (by omega) ?_
 (conv=>whnf);repeat((refine KCall.liftG [0,1,220] (.tup []) [.row (pRow 221 1 (orphans p)) 106 0, .row (flatI (rcP false 221) 0 ((orphans p)).v.rs) 66 10, .row [.ptr 0 0] 107 0] (hbl) rfl (zab _ _) (zab _ _) ?_ ?_ ?_ ?_;exact⟨pF FR.G ⟨rfl,rfl⟩,rF FR.G hp96,⟨rfl,rfl,WL.row (zbl ⟨rfl,rfl⟩)⟩,trivial⟩;(focus((repeat' first|exact zT|exact rfl|refine zA ?_ ?_)));exact⟨(by unfold Rn Rnl;trivial),rfl,⟨⟨rfl,rfl, .inl (zaA rfl)⟩,⟨rfl,rfl, .inl (zay hl96)⟩,⟨rfl,rfl, .inl (zlY rfl)⟩,trivial⟩⟩;conv=>whnf))
 refine⟨?_⟩
 (refine Weak.ofG [0,1] [] [] rfl rfl rfl rfl ?_ ?_ ?_ ?_;exact⟨pQ rfl rfl,rQ hl96,trivial⟩;exact gQ;exact zN;(focus((repeat' first|exact zT|refine zA ?_ ?_))))
theorem cycles_h (hIt:zjY) (n L:Nat) (p:Ck.Rp) (hf:Rk n p) (hn:n≤96) (h5:5<n) (hb:p.fd.length≤400000) (hL:EsL L p) (hl:L+n<1000) (hroot:dir (at_ Rc.o p.v.rs 5)=true):HG Tryz.prog 2 20 220 110 [.ptr 0 0] (gP false p) [.row (pRow 20 1 p) 106 0, .row (flatI (rcP false 20) 0 p.v.rs) 66 10] (.tup [])
  (gP false (cyclesR p)) [.row (pRow 20 1 (cyclesR p)) 106 0, .row (flatI (rcP false 20) 0 (cyclesR p).v.rs) 66 10]:=by
 have hpn:=hf.rf.n
 have hp96:p.v.rs.length≤96:=by rw[hf.rf.n];exact hn
 have hbe:cyclesR p=it cycleR p (n-16):=by unfold cyclesR;rw[hpn]
 rw[hbe];refine HG.of kmix (by omega) ?_
 conv=>whnf
 refine WLoop.inv kmix (D:=Nat) (fun d=>n-16-d) (fun d=>d≤n-16) (fun d=>slots [(0, .ptr 0 0),(2,ib (16+d:Nat))] 60)
  (fun d=>zax 20 220 (gP false (it cycleR p d)) [.row (pRow 20 1 (it cycleR p d)) 106 0, .row (flatI (rcP false 20) 0 (it cycleR p d).v.rs) 66 10]) 0 (Nat.zero_le _) ?_ ?_
 ·(refine Weak.ofG [0,1] [] [] rfl rfl rfl rfl ?_ ?_ ?_ ?_;exact⟨pQ rfl rfl,rQ hp96,trivial⟩;exact gQ;exact zN;(focus((repeat' first|exact zT|exact rfl|refine zA ?_ ?_))))
 ·intro d hd;obtain⟨h1,h2,h3,h4⟩:=zfv hf hn hL hl d hd;have hst:it cycleR p (d+1)=cycleR (it cycleR p d) d:=rfl
  have hfin:d=n-16→it cycleR p d=it cycleR p (n-16):=fun e=>by rw[e]
  have hr5:dir (at_ Rc.o (it cycleR p d).v.rs 5)=true:=by rw[h4.dir];exact hroot
  generalize it cycleR p d=q at*
  have hqn:q.v.rs.length=n:=h1.rf.n
  have hq96:q.v.rs.length≤96:=by omega
  have stay:∀{t:Tm} {s:St} {q':Ck.Rp},cycleR q d=q'→Weak 2 t s (slots [(0, .ptr 0 0),(2,ib (16+(d+1):Nat))] 60) (zax 20 220 (gP false q') [.row (pRow 20 1 q') 106 0, .row (flatI (rcP false 20) 0 q'.v.rs) 66 10])→
    Weak 2 t s (slots [(0, .ptr 0 0),(2,ib (16+(d+1):Nat))] 60) (zax 20 220 (gP false (it cycleR p (d+1))) [.row (pRow 20 1 (it cycleR p (d+1))) 106 0, .row (flatI (rcP false 20) 0 (it cycleR p (d+1)).v.rs) 66 10]):=fun he hw=>by rw[hst,he];exact hw
  conv=>whnf
  refine KIf.dec (fun h=> ?_) (fun h=> ?_)
  ·have hltq:16+d<q.v.rs.length:=by omega
   have hd0:(0:Int)≤((16+d:Nat):Int)∧((16+d:Nat):Int)<(q.v.rs.length:Nat):=⟨by omega,by omega⟩
   have hoff:0+((16+d:Nat):Int).toNat*10=(16+d)*10:=by rw[Int.toNat_natCast,Nat.zero_add]
   have hoff7:0+((16+d:Nat):Int).toNat*10+7=(16+d)*10+7:=by rw[Int.toNat_natCast,Nat.zero_add]
   obtain⟨x,hx⟩:∃x,at_ Rc.o q.v.rs (16+d)=x:=⟨_,rfl⟩
   have hdir:=zkj x
   obtain⟨ob,hob⟩:∃b,dir x=b:=⟨_,rfl⟩
   obtain⟨rb,hrb⟩:∃b,rchB q.v (16+d)=b:=⟨_,rfl⟩
   have hls:cycleR q d=if(ob&& !rb)=true then bring (it (fun q k=>drop q (16+d) (at_ Nm.o x.ns k)) (q.note 7 (16+d:Nat) 0) x.ns.length) (16+d) else q:=by unfold cycleR;rw[zae,hx,hob,hrb]
   rw[hob] at hdir;have hrhc:=reached_hc q.v (by omega) (by omega) hr5 (fun w hw=>by have:=(h1.na.es w hw).1;omega)
   have hoffr:0+((16+d:Nat):Int).toNat*1=16+d:=by rw[Int.toNat_natCast];omega
   have hjr:16+d<(rchL q.v).length:=by rw[zf5];exact hltq
   have hatr:at_ false (rchL q.v) (16+d)=rb:=by rw[zka _ _ hltq,hrb]
   (conv=>whnf);repeat(first|refine Need.mk ?_ ?_;exact hd0|refine RK.of (zcI (zat false 20) Rc.o hoff rfl rfl hltq rfl) ?_|rw[hx]|refine KCall.lend ([]) (hdir) rfl ?_ ?_;exact zfP);conv=>whnf
   cases ob
   ·rw[if_neg (by simp)] at hls
    (conv=>whnf);repeat((first|(refine KIf.t rfl ?_;conv=>whnf)|(refine Need.mk ?_ ?_;((constructor<;>omega));conv=>whnf)))
    refine⟨d+1,by omega,by dsimp only;omega,stay hls ?_⟩
    (refine Weak.ofG [0,1] [] [] rfl rfl rfl rfl ?_ ?_ ?_ ?_;exact⟨pQ rfl rfl,rQ hq96,trivial⟩;exact gQ;exact zN;(focus((repeat' first|exact zT|exact rfl|refine zA ?_ ?_))))
   ·cases rb
    ·rw[if_pos (by rfl)] at hls
     have hb9:q.fd.length≤1000000:=by omega
     have hx2:at_ Rc.o (q.note 7 (16+d:Nat) 0).v.rs (16+d)=x:=hx;have hltn:16+d<(q.note 7 (16+d:Nat) 0).v.rs.length:=hltq;have hdn:(0:Int)≤((16+d:Nat):Int)∧((16+d:Nat):Int)<((q.note 7 (16+d:Nat) 0).v.rs.length:Nat):=hd0;have hnk:=h1.note 7 (16+d:Nat) 0;have hnL:EsL (L+d) (q.note 7 (16+d:Nat) 0):=h3.of_v rfl
     have hxl:x.ns.length≤1000:=by rw[←hx];exact(h1.na.ns_at _).1
     (conv=>whnf);repeat(first|refine Need.mk ?_ ?_;exact hd0|refine KCall.lendC (zF 20 [1]) (.sl 220 0 q.v.rs.length q.v.rs.length) (hrhc) rfl ?_ ?_ ?_ ?_;exact zjW _;exact Wzc (zje (Lies.mk (fun j hj=>zbd hj) (fun j hj=>zaq (by omega))) hq96 rfl (zbA (List.mem_singleton.2 rfl)) rfl) Wzn;exact(by unfold Rn;rfl)|refine RK.of (Ck.loadMx bb false false hatr hoffr rfl rfl hjr) ?_|refine KCall.liftG [0,1] (.tup []) [.row (pRow 221 1 (q.note 7 (16+d:Nat) 0)) 106 0, .row (flatI (rcP false 221) 0 ((q.note 7 (16+d:Nat) 0)).v.rs) 66 10] (zcF false q 7 (16+d:Nat) 0 hq96 h1.rf.fl hb9) rfl (zab _ _) (zab _ _) ?_ ?_ ?_ ?_;exact⟨pF FR.G ⟨rfl,rfl⟩,rF FR.G hq96,trivial⟩;(focus((repeat' first|exact zT|exact rfl|refine zA ?_ ?_)));exact⟨(by unfold Rn Rnl;trivial),rfl,⟨⟨rfl,rfl, .inl (zaA rfl)⟩,⟨rfl,rfl, .inl (zay hq96)⟩,trivial⟩⟩|refine RK.of (zaP (zat false 221) Rc.o (k:=7) hoff7 rfl rfl hltn (by decide) rfl) ?_|rw[hx2]|refine KIf.f rfl ?_);conv=>whnf
     have hdr:=ziM hnk hnL (16+d) x.ns
     refine WLoop.inv kmix (D:=Nat) (fun k=>x.ns.length-k) (fun k=>k≤x.ns.length) (fun k=>slots [(0, .ptr 0 0),(2,ib (16+d:Nat)),(46,LS 3 aNm Nm.o x.ns),(47,ib x.ns.length),(48,ib k)] 60)
      (fun k=>zax 20 220 (gP false (it (fun q k=>drop q (16+d) (at_ Nm.o x.ns k)) (q.note 7 (16+d:Nat) 0) k)) [.row (pRow 20 1 (it (fun q k=>drop q (16+d) (at_ Nm.o x.ns k)) (q.note 7 (16+d:Nat) 0) k)) 106 0, .row (flatI (rcP false 20) 0 (it (fun q k=>drop q (16+d) (at_ Nm.o x.ns k)) (q.note 7 (16+d:Nat) 0) k).v.rs) 66 10]) 0 (Nat.zero_le _) ?_ ?_
     ·(refine Weak.ofG [0,1] [] [] rfl rfl rfl rfl ?_ ?_ ?_ ?_;exact⟨pQ rfl rfl,rQ hq96,trivial⟩;exact gQ;exact zN;(focus((repeat' first|exact zT|exact rfl|(intro _ _;exact rfl)|refine zA ?_ ?_))))
     ·intro k hk;obtain⟨g1,g2,g3,g4⟩:=hdr k;have hst2:it (fun q k=>drop q (16+d) (at_ Nm.o x.ns k)) (q.note 7 (16+d:Nat) 0) (k+1)=drop (it (fun q k=>drop q (16+d) (at_ Nm.o x.ns k)) (q.note 7 (16+d:Nat) 0) k) (16+d) (at_ Nm.o x.ns k):=rfl
      have hfin2:k=x.ns.length→cycleR q d=bring (it (fun q k=>drop q (16+d) (at_ Nm.o x.ns k)) (q.note 7 (16+d:Nat) 0) k) (16+d):=fun e=>by rw[hls,e]
      generalize it (fun q k=>drop q (16+d) (at_ Nm.o x.ns k)) (q.note 7 (16+d:Nat) 0) k=w at*
      have hwn:w.v.rs.length=n:=g1.rf.n
      have hw96:w.v.rs.length≤96:=by omega
      conv=>whnf
      refine KIf.dec (fun hkl=> ?_) (fun hkl=> ?_)
      ·have hk0:(0:Int)≤(k:Nat)∧((k:Nat):Int)<(x.ns.length:Nat):=⟨by omega,by omega⟩
       obtain⟨m,hm⟩:∃m,at_ Nm.o x.ns k=m:=⟨_,rfl⟩
       have hm2:at_ Nm.o x.ns (((k:Nat):Int)).toNat=m:=by rw[Int.toNat_natCast];exact hm
       rw[hm] at hst2;have hdp:=zmX n w (16+d) m g1.rf hn (by omega) (fun y hy=>(g1.na.es y hy).1)
       have hdw:(drop w (16+d) m).v.rs.length≤96:=by rw[(g1.drop (r:=16+d) (m:=m)).rf.n];exact hn
       (conv=>whnf);repeat(first|refine Need.mk ?_ ?_;exact hk0|rw[hm2]|refine KCall.liftG [0,1] (.tup []) [.row (pRow 221 1 (drop w (16+d) m)) 106 0, .row (flatI (rcP false 221) 0 ((drop w (16+d) m)).v.rs) 66 10] (hdp) rfl (zab _ _) (zab _ _) ?_ ?_ ?_ ?_;exact⟨pF FR.G ⟨rfl,rfl⟩,rF FR.G hw96,trivial⟩;(focus((repeat' first|exact zT|exact rfl|refine zA ?_ ?_)));exact⟨(by unfold Rn Rnl;trivial),rfl,⟨⟨rfl,rfl, .inl (zaA rfl)⟩,⟨rfl,rfl, .inl (zay hdw)⟩,trivial⟩⟩|refine Need.mk ?_ ?_;((constructor<;>omega)));conv=>whnf
       refine⟨k+1,by omega,by dsimp only;omega,?_⟩;dsimp only;rw[hst2]
       (refine Weak.ofG [0,1] [] [] rfl rfl rfl rfl ?_ ?_ ?_ ?_;exact⟨pQ rfl rfl,rQ hdw,trivial⟩;exact gQ;exact zN;(focus((repeat' first|exact zT|exact rfl|(intro _ _;exact rfl)|refine zA ?_ ?_))))
      ·have hb7:=zm7 hIt n w (16+d) g1 hn ⟨by omega,by omega⟩;have hbk:Rk n (bring w (16+d)):=g1.bring hn ⟨by omega,by omega⟩ (by have:=g3.at 5;omega)
       have hb96:(bring w (16+d)).v.rs.length≤96:=by rw[hbk.rf.n];exact hn
       (conv=>whnf);repeat(first|refine KCall.liftG [0,1] (.tup []) [.row (pRow 220 1 (bring w (16+d))) 106 0, .row (flatI (rcP false 220) 0 ((bring w (16+d))).v.rs) 66 10] (hb7) rfl (zab _ _) (zab _ _) ?_ ?_ ?_ ?_;exact⟨pF FR.G ⟨rfl,rfl⟩,rF FR.G hw96,trivial⟩;(focus((repeat' first|exact zT|exact rfl|refine zA ?_ ?_)));exact⟨(by unfold Rn Rnl;trivial),rfl,⟨⟨rfl,rfl, .inl (zaA rfl)⟩,⟨rfl,rfl, .inl (zay hb96)⟩,trivial⟩⟩|refine Need.mk ?_ ?_;((constructor<;>omega)));conv=>whnf
       refine⟨d+1,by omega,by dsimp only;omega,stay (hfin2 (by omega)) ?_⟩
       (refine Weak.ofG [0,1] [] [] rfl rfl rfl rfl ?_ ?_ ?_ ?_;exact⟨pQ rfl rfl,rQ hb96,trivial⟩;exact gQ;exact zN;(focus((repeat' first|exact zT|exact rfl|refine zA ?_ ?_))))
    ·rw[if_neg (by simp)] at hls
     (conv=>whnf);repeat(first|refine Need.mk ?_ ?_;exact hd0|refine KCall.lendC (zF 20 [1]) (.sl 220 0 q.v.rs.length q.v.rs.length) (hrhc) rfl ?_ ?_ ?_ ?_;exact zjW _;exact Wzc (zje (Lies.mk (fun j hj=>zbd hj) (fun j hj=>zaq (by omega))) hq96 rfl (zbA (List.mem_singleton.2 rfl)) rfl) Wzn;exact(by unfold Rn;rfl)|refine RK.of (Ck.loadMx bb false true hatr hoffr rfl rfl hjr) ?_|refine KIf.t rfl ?_|refine KIf.f rfl ?_|refine Need.mk ?_ ?_;((constructor<;>omega)));conv=>whnf
     refine⟨d+1,by omega,by dsimp only;omega,stay hls ?_⟩
     (refine Weak.ofG [0,1] [] [] rfl rfl rfl rfl ?_ ?_ ?_ ?_;exact⟨pQ rfl rfl,rQ hq96,trivial⟩;exact gQ;exact zN;(focus((repeat' first|exact zT|exact rfl|refine zA ?_ ?_))))
  ·conv=>whnf
   rw[←hfin (by omega)];refine⟨?_⟩
   (refine Weak.ofG [0,1] [] [] rfl rfl rfl rfl ?_ ?_ ?_ ?_;exact⟨pQ rfl rfl,rQ hq96,trivial⟩;exact gQ;exact zN;(focus((repeat' first|exact zT|refine zA ?_ ?_))))
end Go.Proofs.YtgcjejajljhnaaaGreatDoor
namespace Ck
open Go Go.Ex
def gC (v:Pt) (d j:Nat):Option AO:=if j/2<d then gP false ⟨v,[],[]⟩ j else none
noncomputable def rcC (d A i:Nat) (x:Rc):List AV:=if i<d then rcP false A i x else aRc x
theorem zaF (d A:Nat):∀i x,(rcC d A i x).length=10:=fun i x=>by unfold rcC;split<;>rfl
theorem zgx (d A:Nat) (x:Rc):rcC d A d x=aRc x:=if_neg (Nat.lt_irrefl d)
theorem zgw {d A i:Nat} {x:Rc} (h:i<d):rcC d A i x=rcP false A i x:=if_pos h
theorem zkZ {d A i:Nat} {x:Rc} (h:¬i<d):rcC d A i x=aRc x:=if_neg h
theorem gP_big {v:Pt} {j:Nat} (h:v.rs.length≤j/2):gP false ⟨v,[],[]⟩ j=none:=by
 unfold gP;split
 ·rfl
 ·split
  ·rfl
  ·rw[List.getElem?_eq_none h]
theorem gC_all {v:Pt}:gC v v.rs.length=gP false ⟨v,[],[]⟩:=by
 funext j
 unfold gC;split
 ·rfl
 ·rename_i h;exact(gP_big (by omega)).symm
theorem zef (v:Pt) (d:Nat):∀j o,gC v d j=some o→zbn o:=fun j o h=>by
 unfold gC at h;split at h
 ·exact zab _ _ j o h
 ·cases h
theorem famC {v:Pt} {d:Nat} {ov:List (Nat×Nat)} (hn:∀j,j/2=d→(∀p∈ov,j≠p.1)→gP false ⟨v,[],[]⟩ j=none):∀j o1,gC v (d+1) j=some o1→(∀p∈ov,j≠p.1)→gC v d j=some o1∧zbn o1:=fun j o1 ho hj=>by
 refine⟨?_,zef _ _ j o1 ho⟩;unfold gC at ho⊢;split at ho
 ·rename_i h;by_cases hd:j/2=d
  ·rw[hn j hd hj] at ho;cases ho
  ·rw[if_pos (by omega)];exact ho
 ·cases ho
theorem zoQ {h:T AO} {z:List Nat} {R:Nat→Option Nat} (x:Rc):WL h z R (aRc x) (aRc x):=by
 unfold aRc
 repeat(first|exact WL.nil|refine WL.sc rfl ?_)
theorem zkW {h:T AO} {z:List Nat} {A d:Nat} {ov:List (Nat×Nat)} {r:List Nat} {rs:List Rc} {c:List AV} (hn:rs.length≤96) (hp:∀p∈ov,∀k,k≠d→2*k≠p.1∧2*k+1≠p.1) (hc:WL h z (RG A ov r) (rcP false 20 d (at_ Rc.o rs d)) c):WL h z (RG A ov r) (flatI (rcC (d+1) 20) 0 rs) (flatI (updI (rcC d A) d c) 0 rs):=by
 refine WL.flatI Rc.o rs rs 0 rfl fun j hj=> ?_
 rw[Nat.zero_add];by_cases e:j=d
 ·subst e;rw[zbB,zgw (Nat.lt_succ_self j)];exact hc
 ·rw[zgi e];by_cases h1:j<d
  ·rw[zgw h1,zgw (by omega)]
   exact zcj (by omega) fun p hq=>hp p hq j e
  ·rw[zkZ h1,zkZ (by omega)];exact zoQ _
theorem zhs {h:T AO} {z:List Nat} {A d:Nat} {r:List Nat} {rs:List Rc} (hn:rs.length≤96):WL h z (RG A [] r) (flatI (rcC d 20) 0 rs) (flatI (rcC d A) 0 rs):=by
 refine WL.flatI Rc.o rs rs 0 rfl fun j hj=> ?_
 rw[Nat.zero_add];by_cases h1:j<d
 ·rw[zgw h1,zgw h1];exact zcj (by omega) zN
 ·rw[zkZ h1,zkZ h1];exact zoQ _
theorem rcC_all {rs:List Rc} {A:Nat}:flatI (rcC rs.length A) 0 rs=flatI (rcP false A) 0 rs:=zeg Rc.o rs 0 fun j hj=>by rw[Nat.zero_add];exact zgw hj
theorem flatC_zero {rs:List Rc} {A:Nat}:flatI (rcC 0 A) 0 rs=rs.flatMap aRc:=by
 have:rcC 0 A=fun _ x=>aRc x:=by funext i x;exact if_neg (Nat.not_lt_zero _)
 rw[this,zbQ]
theorem p0_W {h:T AO} {z:List Nat} {A k n:Nat} {r:List Nat} {ov:List (Nat×Nat)} {v:Pt} (hk:RS (RG A ov r) 1∧RD (RG A ov r) 1=k):WL h z (RG A ov r) [ib v.c,LS 2 aRun Run.o v.al, .so 1 0 n 0,LS 1 aI 0 v.ds,tb v.mp] [ib v.c,LS 2 aRun Run.o v.al, .so k 0 n 0,LS 1 aI 0 v.ds,tb v.mp]:=WL.sc rfl (WL.sc rfl (WL.cons (zfJ hk) (WL.sc rfl (WL.sc rfl WL.nil))))
section
variable {P : Program} {s : St} {K : KC} {α : Type} {f : Nat → α → List AV} {sz : Nat}
theorem zfI (hf:∀i x,(f i x).length=sz) (o:α) {l:List α} {T:TypeId} {b j k n off:Nat} {v:AV} {e:TypeId} {q:Nat} {a:Bool} (cs c c':List AV) (hcl:c.length=sz) (hoff:off=j*sz+k) (hn:zd2 v=true) (hT:tyS P T= .ok (a,n)) (hcs:v.cells=cs) (hl:cs.length=n) (h1:zbs cs=true) (hr:s.h.get b=some (.row (flatI (updI f j c) 0 l) e q)) (hj:j<l.length) (hk:k+n≤sz)
  (hc:c.take k++(cs++c.drop (k+n))=c') (hk2:(s.set b (.row (flatI (updI f j c') 0 l) e q)).nfK fun s=>K AV.undef s):zdZ (zcD P s T (.ptr b off) v) K:=by
 refine zbC (zcu hf hcl) o cs c' hoff hn hT hcs hl h1 hr hj hk (by rw[zbB];exact hc) ?_;rw[updI_upd];exact hk2
end
end Ck
namespace Go.Proofs.YtgcjejajljhnaaaGreatDoor
open Go.Ex Ck
set_option maxRecDepth 100000
set_option maxHeartbeats 16000000
theorem CloneI_nil :Ex.bang Tryz.prog awext 2000 140 [.slice none 0 0] (.slice none 0 0)=true:=by decide+kernel
theorem CloneI_k (l:List Int) (hl:l.length≤100000):PureC Tryz.prog 140 [LS 1 aI 0 l] (LS 1 aI 0 l):=by
 by_cases h0:l.length=0
 ·obtain rfl:l=[]:=List.eq_nil_of_length_eq_zero h0;refine mt2 kmix (fun s=>CallOk.of_below (args:=[.slice none 0 0]) fun w=>Ex.calls_of_bang awmix zcy (args:=[.slice none 0 0]) CloneI_nil w) (fun a cap=> ?_)
  ·(conv=>whnf);repeat(first|refine KIf.t rfl ?_|refine KIf.f rfl ?_|refine Need.mk ?_ ?_;trivial);conv=>whnf
   refine .z [0] ?_;exact Wz.ownS rfl (by simp) rfl (Nat.le_refl _) (fun i hi=>absurd hi (Nat.not_lt_zero _)) rfl (fun i hi=>absurd hi (Nat.not_lt_zero _))
 ·have hb:Nat.ble (0+l.length) 0=false:=by cases h:Nat.ble (0+l.length) 0 with|false=>rfl|true=>have:=Nat.le_of_ble_eq_true h;omega
  refine PureC.of kmix rfl ?_
  (conv=>whnf);repeat(first|refine KIf.f ?_ ?_;assumption|refine KIf.f rfl ?_|refine Need.mk ?_ ?_;omega|refine Need.mk (fun _ _=>rfl) ?_|refine RK.of (zeh rfl rfl (Nat.pos_of_ne_zero h0)) ?_);conv=>whnf
  refine .z [1] ?_;exact Wz.list (fun _=>rfl) (fun _=>rfl) rfl (by simp) (Nat.zero_add _) (by exact zaK aI 0 l)
theorem CloneS_nil :Ex.bang Tryz.prog awext 2000 142 [.slice none 0 0] (.slice none 0 0)=true:=by decide+kernel
theorem zlR :PureC Tryz.prog 142 [LS 2 aSm Sm.o []] (LS 2 aSm Sm.o []):=by
 refine mt2 kmix (fun s=>CallOk.of_below (args:=[.slice none 0 0]) fun w=>Ex.calls_of_bang awmix zcy (args:=[.slice none 0 0]) CloneS_nil w) (fun a cap=> ?_)
 (conv=>whnf);repeat(first|refine KIf.t rfl ?_|refine KIf.f rfl ?_|refine Need.mk ?_ ?_;trivial);conv=>whnf
 refine .z [0] ?_;exact Wz.ownS rfl (by simp) rfl (Nat.le_refl _) (fun i hi=>absurd hi (Nat.not_lt_zero _)) rfl (fun i hi=>absurd hi (Nat.not_lt_zero _))
theorem zhX (l:List Sm) (hl:l.length≤100000) (h0:0<l.length):HC Tryz.prog 0 142 [LS 2 aSm Sm.o l] [] (.so 0 0 l.length 0) [.row (l.flatMap aSm) 80 2]:=by
 have hb:Nat.ble (0+l.length) 0=false:=by cases h:Nat.ble (0+l.length) 0 with|false=>rfl|true=>have:=Nat.le_of_ble_eq_true h;omega
 refine HC.of kmix (Nat.le_refl 0) ?_
 (conv=>whnf);repeat(first|refine KIf.f ?_ ?_;assumption|refine KIf.f rfl ?_|refine Need.mk ?_ ?_;omega|refine Need.mk (fun _ _=>rfl) ?_|refine RK.of (zeh rfl rfl h0) ?_);conv=>whnf
 have e:([]++(List.range l.length).flatMap fun i=>aSm (at_ Sm.o l i))=l.flatMap aSm:=by exact zaK aSm Sm.o l
 rw[e];refine⟨[1],[],rfl,⟨⟨rfl,rfl,Or.inr ⟨rfl,zas (fun _=>rfl) _⟩⟩,trivial⟩,?_⟩
 (repeat' first|exact zT|exact rfl|refine zA ?_ ?_)
 exact Nat.zero_add _
theorem CloneC_own (l:List Rc) (hl:l.length≤100000) (h0:0<l.length):HC Tryz.prog 0 141 [LS 10 aRc Rc.o l] [] (.so 0 0 l.length 0) [.row (l.flatMap aRc) 66 10]:=by
 have hb:Nat.ble (0+l.length) 0=false:=by cases h:Nat.ble (0+l.length) 0 with|false=>rfl|true=>have:=Nat.le_of_ble_eq_true h;omega
 refine HC.of kmix (Nat.le_refl 0) ?_
 (conv=>whnf);repeat(first|refine KIf.f ?_ ?_;assumption|refine KIf.f rfl ?_|refine Need.mk ?_ ?_;omega|refine Need.mk (fun _ _=>rfl) ?_|refine RK.of (zeh rfl rfl h0) ?_);conv=>whnf
 have e:([]++(List.range l.length).flatMap fun i=>aRc (at_ Rc.o l i))=l.flatMap aRc:=by exact zaK aRc Rc.o l
 rw[e];refine⟨[1],[],rfl,⟨⟨rfl,rfl,Or.inr ⟨rfl,zas (fun _=>rfl) _⟩⟩,trivial⟩,?_⟩
 (repeat' first|exact zT|exact rfl|refine zA ?_ ?_)
 exact Nat.zero_add _
theorem copied_h (v:Pt) (h96:v.rs.length≤96) (h0:0<v.rs.length) (hal:v.al.length≤100000) (hds:v.ds.length≤100000) (hx:∀x∈v.rs,x.ns.length≤100000∧x.ss.length≤100000∧x.es.length≤100000∧∀y∈x.ss,y.r.length≤100000):HG Tryz.prog 0 20 220 103 [aPts v] (fun _=>none) [] (.agg [ib v.c,LS 2 aRun Run.o v.al, .so 0 0 v.rs.length 0,LS 1 aI 0 v.ds,tb v.mp])
  (gP false ⟨v,[],[]⟩) [.row (flatI (rcP false 20) 0 v.rs) 66 10]:=by
 refine HG.of kmix (by omega) ?_
 have hrl:v.rs.length≤100000:=by omega
 (conv=>whnf);repeat(first|refine DCall.pure (zfa v.al hal) ?_|refine DCall.pure (CloneI_k v.ds hds) ?_|refine Ck.DCall.lift [] [] (.so 222 0 v.rs.length 0) [.row (v.rs.flatMap aRc) 66 10] (CloneC_own v.rs hrl h0) rfl trivial ⟨rfl,zaa rfl,trivial⟩ ⟨(by unfold Rn;rfl),rfl,⟨rfl,rfl, .inr ⟨rfl,zas (fun _=>rfl) _⟩⟩,trivial⟩ ?_|refine Need.mk (p:=zah _=true) ?_ ?_;decide+kernel);conv=>whnf
 refine WLoop.inv kmix (D:=Nat) (fun d=>v.rs.length-d) (fun d=>d≤v.rs.length) (fun d=>slots [(1, .ptr 0 0),(2, .ptr 2 0),(20,ib v.rs.length),(21,ib d)] 79)
  (fun d=>zax 20 220 (gC v d) [.row [ib v.c,LS 2 aRun Run.o v.al, .so 1 0 v.rs.length 0,LS 1 aI 0 v.ds,tb v.mp] 26 0, .row (flatI (rcC d 20) 0 v.rs) 66 10, .row [ib 0, .sc (.slice none 0 0), .sc (.slice none 0 0), .sc (.slice none 0 0),tb []] 26 0]) 0 (Nat.zero_le _) ?_ ?_
 ·rw[flatC_zero];refine Weak.ofG [220,222,221] [] [] rfl rfl rfl rfl ?_ ?_ ?_ ?_
  ·exact⟨⟨rfl,rfl,WL.row (p0_W ⟨rfl,rfl⟩)⟩,⟨rfl,rfl, .same rfl (zas (fun _=>rfl) _)⟩,⟨rfl,rfl, .same rfl rfl⟩,trivial⟩
  ·intro j o1 ho _;unfold gC at ho;rw[if_neg (by omega)] at ho;cases ho
  ·exact zN
  ·(repeat' first|exact zT|exact rfl|refine zA ?_ ?_)
 ·intro d hd
  conv=>whnf
  refine KIf.dec (fun h=> ?_) (fun h=> ?_)
  ·have hlt:d<v.rs.length:=by omega
   have hd96:d<96:=by omega
   have hd0:(0:Int)≤(d:Nat)∧((d:Nat):Int)<(v.rs.length:Nat):=⟨by omega,by omega⟩
   have hoff7:0+((d:Nat):Int).toNat*10+7=d*10+7:=by simp
   have hoff8:0+((d:Nat):Int).toNat*10+8=d*10+8:=by simp
   have hoff9:0+((d:Nat):Int).toNat*10+9=d*10+9:=by simp
   obtain⟨b1,b2,b3,b4⟩:=hx _ (at_mem Rc.o v.rs d hlt)
   obtain⟨x,hxd⟩:∃x,at_ Rc.o v.rs d=x:=⟨_,rfl⟩
   rw[hxd] at b1 b2 b3 b4
   have hv7:(rcC d 20 d (at_ Rc.o v.rs d))[7]? =some (LS 3 aNm Nm.o x.ns):=by rw[zgx,hxd];rfl
   have hv8:(rcC d 20 d (at_ Rc.o v.rs d))[8]? =some (LS 2 aSm Sm.o x.ss):=by rw[zgx,hxd];rfl
   have hv9:(rcC d 20 d (at_ Rc.o v.rs d))[9]? =some (LS 4 aEn En.o x.es):=by rw[zgx,hxd];rfl
   have hw8:(rcC (d+1) 20 d (at_ Rc.o v.rs d))[8]? =some (seS false 20 d x):=by rw[zgw (Nat.lt_succ_self d),hxd];rfl
   have hgx:∀j,j/2=d→gP false ⟨v,[],[]⟩ j=if j%2=0 then(if x.ss=[] then none else some (.row (x.ss.flatMap aSm) 80 2)) else(if x.es=[] then none else some (.row (x.es.flatMap aEn) 73 4)):=fun j hj=>by
    rw[zcJ (by omega),hj,show(Pt.rs v)[d]? =some x by rw[List.getElem?_eq_getElem hlt,←zaG Rc.o _ _ hlt,hxd]];simp
   by_cases hs:x.ss=[]
   ·by_cases he:x.es=[]
    ·rw[hs] at hv8;rw[he] at hv9
     have hst:(rcC d 20 d (at_ Rc.o v.rs d)).take 7++([LS 3 aNm Nm.o x.ns]++(rcC d 20 d (at_ Rc.o v.rs d)).drop (7+1))=[bb x.u,ib x.q,ib x.k,ib x.b.r,ib x.b.q,ib x.ln,ib x.ds,LS 3 aNm Nm.o x.ns,LS 2 aSm Sm.o x.ss,LS 4 aEn En.o x.es]:=by rw[zgx,hxd];rfl
     have hu8:(updI (rcC d 20) d ([bb x.u,ib x.q,ib x.k,ib x.b.r,ib x.b.q,ib x.ln,ib x.ds,LS 3 aNm Nm.o x.ns,LS 2 aSm Sm.o [],LS 4 aEn En.o []]) d (at_ Rc.o v.rs d))[8]? =some (LS 2 aSm Sm.o []):=by rw[zbB];rfl
     (conv=>whnf);repeat(first|refine Need.mk ?_ ?_;exact hd0|refine DCall.pure (ziU x.ns b1) ?_|refine RK.of (zaP (zaF d 20) Rc.o (k:=7) hoff7 rfl rfl hlt (by decide) hv7) ?_|refine RK.of (zaP (zaF d 20) Rc.o (k:=8) hoff8 rfl rfl hlt (by decide) hv8) ?_|refine RK.of (zaP (zaF d 20) Rc.o (k:=9) hoff9 rfl rfl hlt (by decide) hv9) ?_|refine DCall.pure (zlR) ?_|refine DCall.pure (ziV) ?_|refine zbC (zaF d 20) Rc.o (k:=7) [LS 3 aNm Nm.o x.ns] ([bb x.u,ib x.q,ib x.k,ib x.b.r,ib x.b.q,ib x.ln,ib x.ds,LS 3 aNm Nm.o x.ns,LS 2 aSm Sm.o x.ss,LS 4 aEn En.o x.es]) hoff7 rfl rfl rfl rfl rfl rfl hlt (by decide) hst ?_|refine zfI (zaF d 20) Rc.o (k:=8) [LS 2 aSm Sm.o []] ([bb x.u,ib x.q,ib x.k,ib x.b.r,ib x.b.q,ib x.ln,ib x.ds,LS 3 aNm Nm.o x.ns,LS 2 aSm Sm.o x.ss,LS 4 aEn En.o x.es]) ([bb x.u,ib x.q,ib x.k,ib x.b.r,ib x.b.q,ib x.ln,ib x.ds,LS 3 aNm Nm.o x.ns,LS 2 aSm Sm.o [],LS 4 aEn En.o x.es]) rfl hoff8 rfl rfl rfl rfl rfl rfl hlt (by decide) rfl ?_|refine zfI (zaF d 20) Rc.o (k:=9) [LS 4 aEn En.o []] ([bb x.u,ib x.q,ib x.k,ib x.b.r,ib x.b.q,ib x.ln,ib x.ds,LS 3 aNm Nm.o x.ns,LS 2 aSm Sm.o [],LS 4 aEn En.o x.es]) ([bb x.u,ib x.q,ib x.k,ib x.b.r,ib x.b.q,ib x.ln,ib x.ds,LS 3 aNm Nm.o x.ns,LS 2 aSm Sm.o [],LS 4 aEn En.o []]) rfl hoff9 rfl rfl rfl rfl rfl rfl hlt (by decide) rfl ?_|refine RK.of (zaP (zcu (zaF d 20) (show([bb x.u,ib x.q,ib x.k,ib x.b.r,ib x.b.q,ib x.ln,ib x.ds,LS 3 aNm Nm.o x.ns,LS 2 aSm Sm.o [],LS 4 aEn En.o []]).length=10 from rfl)) Rc.o (k:=8) hoff8 rfl rfl hlt (by decide) hu8) ?_|refine Need.mk (p:=zah _=true) ?_ ?_;decide+kernel);conv=>whnf
     have hpv:∀p∈([]:List (Nat×Nat)),∀k,k≠d→2*k≠p.1∧2*k+1≠p.1:=fun p hp=>by cases hp
     refine WLoop.inv kmix (D:=Unit) (fun _=>0) (fun _=>True) (fun _=>slots [(1, .ptr 0 0),(2, .ptr 2 0),(4, .ptr 1 (0+((d:Nat):Int).toNat*10)),(20,ib v.rs.length),(21,ib d),(56,ib (0:Nat)),(57,ib (0:Nat))] 79) (fun _=>zax 20 220 (gC v (d+1)) [.row [ib v.c,LS 2 aRun Run.o v.al, .so 1 0 v.rs.length 0,LS 1 aI 0 v.ds,tb v.mp] 26 0, .row (flatI (rcC (d+1) 20) 0 v.rs) 66 10, .row [ib 0, .sc (.slice none 0 0), .sc (.slice none 0 0), .sc (.slice none 0 0),tb []] 26 0]) () trivial ?_ ?_
     ·refine Weak.ofG [0,1,2] [] [] rfl rfl rfl rfl ?_ ?_ ?_ ?_
      ·refine⟨⟨rfl,rfl,WL.row (p0_W ⟨rfl,rfl⟩)⟩,⟨rfl,rfl,WL.row (zkW h96 (hpv) ?_)⟩,⟨rfl,rfl, .same rfl rfl⟩,trivial⟩;rw[hxd];unfold rcP;rw[zkQ (.inr hs),hs,zdh he]
       repeat refine WL.sc rfl ?_
       exact WL.nil
      ·refine famC (fun j hj hp=> ?_);rw[hgx j hj];rw[if_pos hs,if_pos he];split<;>rfl
      ·exact zN
      ·(repeat' first|exact zT|exact rfl|refine zA ?_ ?_)
     ·intro _ _
      (conv=>whnf);repeat((first|(refine KIf.f rfl ?_;conv=>whnf)|(refine Need.mk ?_ ?_;((constructor<;>omega));conv=>whnf)))
      refine⟨d+1,by omega,by dsimp only;omega,?_⟩;refine Weak.ofG [0,1,2] [] [] rfl rfl rfl rfl ?_ ?_ ?_ ?_
      ·exact⟨⟨rfl,rfl,WL.row (p0_W ⟨rfl,rfl⟩)⟩,⟨rfl,rfl,WL.row (zhs h96)⟩,⟨rfl,rfl, .same rfl rfl⟩,trivial⟩
      ·exact(fun j o1 h _=>⟨h,zef _ _ j o1 h⟩)
      ·exact zN
      ·(repeat' first|exact zT|exact rfl|refine zA ?_ ?_)
    ·rw[hs] at hv8
     have hst:(rcC d 20 d (at_ Rc.o v.rs d)).take 7++([LS 3 aNm Nm.o x.ns]++(rcC d 20 d (at_ Rc.o v.rs d)).drop (7+1))=[bb x.u,ib x.q,ib x.k,ib x.b.r,ib x.b.q,ib x.ln,ib x.ds,LS 3 aNm Nm.o x.ns,LS 2 aSm Sm.o x.ss,LS 4 aEn En.o x.es]:=by rw[zgx,hxd];rfl
     have hu8:(updI (rcC d 20) d ([bb x.u,ib x.q,ib x.k,ib x.b.r,ib x.b.q,ib x.ln,ib x.ds,LS 3 aNm Nm.o x.ns,LS 2 aSm Sm.o [], .so 220 0 x.es.length 0]) d (at_ Rc.o v.rs d))[8]? =some (LS 2 aSm Sm.o []):=by rw[zbB];rfl
     (conv=>whnf);repeat(first|refine Need.mk ?_ ?_;exact hd0|refine DCall.pure (ziU x.ns b1) ?_|refine RK.of (zaP (zaF d 20) Rc.o (k:=7) hoff7 rfl rfl hlt (by decide) hv7) ?_|refine RK.of (zaP (zaF d 20) Rc.o (k:=8) hoff8 rfl rfl hlt (by decide) hv8) ?_|refine RK.of (zaP (zaF d 20) Rc.o (k:=9) hoff9 rfl rfl hlt (by decide) hv9) ?_|refine DCall.pure (zlR) ?_|refine Ck.DCall.lift [] [] (.so 220 0 x.es.length 0) [.row (x.es.flatMap aEn) 73 4] (zfH x.es b3 (List.length_pos_iff.2 he)) rfl trivial ⟨rfl,zaa rfl,trivial⟩ ⟨(by unfold Rn;rfl),rfl,⟨rfl,rfl, .inr ⟨rfl,zas (fun _=>rfl) _⟩⟩,trivial⟩ ?_|refine zbC (zaF d 20) Rc.o (k:=7) [LS 3 aNm Nm.o x.ns] ([bb x.u,ib x.q,ib x.k,ib x.b.r,ib x.b.q,ib x.ln,ib x.ds,LS 3 aNm Nm.o x.ns,LS 2 aSm Sm.o x.ss,LS 4 aEn En.o x.es]) hoff7 rfl rfl rfl rfl rfl rfl hlt (by decide) hst ?_|refine zfI (zaF d 20) Rc.o (k:=8) [LS 2 aSm Sm.o []] ([bb x.u,ib x.q,ib x.k,ib x.b.r,ib x.b.q,ib x.ln,ib x.ds,LS 3 aNm Nm.o x.ns,LS 2 aSm Sm.o x.ss,LS 4 aEn En.o x.es]) ([bb x.u,ib x.q,ib x.k,ib x.b.r,ib x.b.q,ib x.ln,ib x.ds,LS 3 aNm Nm.o x.ns,LS 2 aSm Sm.o [],LS 4 aEn En.o x.es]) rfl hoff8 rfl rfl rfl rfl rfl rfl hlt (by decide) rfl ?_|refine zfI (zaF d 20) Rc.o (k:=9) [.so 220 0 x.es.length 0] ([bb x.u,ib x.q,ib x.k,ib x.b.r,ib x.b.q,ib x.ln,ib x.ds,LS 3 aNm Nm.o x.ns,LS 2 aSm Sm.o [],LS 4 aEn En.o x.es]) ([bb x.u,ib x.q,ib x.k,ib x.b.r,ib x.b.q,ib x.ln,ib x.ds,LS 3 aNm Nm.o x.ns,LS 2 aSm Sm.o [], .so 220 0 x.es.length 0]) rfl hoff9 rfl rfl rfl rfl rfl rfl hlt (by decide) rfl ?_|refine RK.of (zaP (zcu (zaF d 20) (show([bb x.u,ib x.q,ib x.k,ib x.b.r,ib x.b.q,ib x.ln,ib x.ds,LS 3 aNm Nm.o x.ns,LS 2 aSm Sm.o [], .so 220 0 x.es.length 0]).length=10 from rfl)) Rc.o (k:=8) hoff8 rfl rfl hlt (by decide) hu8) ?_|refine Need.mk (p:=zah _=true) ?_ ?_;decide+kernel);conv=>whnf
     have hpv:∀p∈[(2*d+1,220)],∀k,k≠d→2*k≠p.1∧2*k+1≠p.1:=fun p hp k hk=>by
      rcases List.mem_singleton.1 hp with rfl
      dsimp only;omega
     refine WLoop.inv kmix (D:=Unit) (fun _=>0) (fun _=>True) (fun _=>slots [(1, .ptr 0 0),(2, .ptr 2 0),(4, .ptr 1 (0+((d:Nat):Int).toNat*10)),(20,ib v.rs.length),(21,ib d),(56,ib (0:Nat)),(57,ib (0:Nat))] 79) (fun _=>zax 20 220 (gC v (d+1)) [.row [ib v.c,LS 2 aRun Run.o v.al, .so 1 0 v.rs.length 0,LS 1 aI 0 v.ds,tb v.mp] 26 0, .row (flatI (rcC (d+1) 20) 0 v.rs) 66 10, .row [ib 0, .sc (.slice none 0 0), .sc (.slice none 0 0), .sc (.slice none 0 0),tb []] 26 0]) () trivial ?_ ?_
     ·refine Weak.ofG [0,1,2] [] [(2*d+1,220)] rfl rfl rfl rfl ?_ ?_ ?_ ?_
      ·refine⟨⟨rfl,rfl,WL.row (p0_W ⟨rfl,rfl⟩)⟩,⟨rfl,rfl,WL.row (zkW h96 (hpv) ?_)⟩,⟨rfl,rfl, .same rfl rfl⟩,trivial⟩;rw[hxd];unfold rcP;rw[zkQ (.inr hs),hs,zfL he]
       repeat refine WL.sc rfl ?_
       exact WL.cons (zlU (by omega)) WL.nil
      ·refine famC (fun j hj hp=> ?_);rw[hgx j hj];have:j≠2*d+1:=hp (2*d+1,220) (by simp);rw[if_pos (by omega),if_pos hs]
      ·intro p hp o1 ho
       ·rcases List.mem_singleton.1 hp with rfl
        have ho:gC v (d+1) (2*d+1)=some o1:=ho;unfold gC at ho;rw[if_pos (by omega),hgx _ (by omega),if_neg (by omega),if_neg he] at ho;cases ho;exact⟨_,rfl,rfl,rfl, .same rfl (zbx _)⟩
      ·(repeat' first|exact zT|exact rfl|refine zA ?_ ?_)
     ·intro _ _
      (conv=>whnf);repeat((first|(refine KIf.f rfl ?_;conv=>whnf)|(refine Need.mk ?_ ?_;((constructor<;>omega));conv=>whnf)))
      refine⟨d+1,by omega,by dsimp only;omega,?_⟩;refine Weak.ofG [0,1,2] [] [] rfl rfl rfl rfl ?_ ?_ ?_ ?_
      ·exact⟨⟨rfl,rfl,WL.row (p0_W ⟨rfl,rfl⟩)⟩,⟨rfl,rfl,WL.row (zhs h96)⟩,⟨rfl,rfl, .same rfl rfl⟩,trivial⟩
      ·exact(fun j o1 h _=>⟨h,zef _ _ j o1 h⟩)
      ·exact zN
      ·(repeat' first|exact zT|exact rfl|refine zA ?_ ?_)
   ·by_cases he:x.es=[]
    ·rw[he] at hv9
     have hst:(rcC d 20 d (at_ Rc.o v.rs d)).take 7++([LS 3 aNm Nm.o x.ns]++(rcC d 20 d (at_ Rc.o v.rs d)).drop (7+1))=[bb x.u,ib x.q,ib x.k,ib x.b.r,ib x.b.q,ib x.ln,ib x.ds,LS 3 aNm Nm.o x.ns,LS 2 aSm Sm.o x.ss,LS 4 aEn En.o x.es]:=by rw[zgx,hxd];rfl
     have hu8:(updI (rcC d 20) d ([bb x.u,ib x.q,ib x.k,ib x.b.r,ib x.b.q,ib x.ln,ib x.ds,LS 3 aNm Nm.o x.ns, .so 220 0 x.ss.length 0,LS 4 aEn En.o []]) d (at_ Rc.o v.rs d))[8]? =some (.so 220 0 x.ss.length 0):=by rw[zbB];rfl
     (conv=>whnf);repeat(first|refine Need.mk ?_ ?_;exact hd0|refine DCall.pure (ziU x.ns b1) ?_|refine RK.of (zaP (zaF d 20) Rc.o (k:=7) hoff7 rfl rfl hlt (by decide) hv7) ?_|refine RK.of (zaP (zaF d 20) Rc.o (k:=8) hoff8 rfl rfl hlt (by decide) hv8) ?_|refine RK.of (zaP (zaF d 20) Rc.o (k:=9) hoff9 rfl rfl hlt (by decide) hv9) ?_|refine Ck.DCall.lift [] [] (.so 220 0 x.ss.length 0) [.row (x.ss.flatMap aSm) 80 2] (zhX x.ss b2 (List.length_pos_iff.2 hs)) rfl trivial ⟨rfl,zaa rfl,trivial⟩ ⟨(by unfold Rn;rfl),rfl,⟨rfl,rfl, .inr ⟨rfl,zas (fun _=>rfl) _⟩⟩,trivial⟩ ?_|refine DCall.pure (ziV) ?_|refine zbC (zaF d 20) Rc.o (k:=7) [LS 3 aNm Nm.o x.ns] ([bb x.u,ib x.q,ib x.k,ib x.b.r,ib x.b.q,ib x.ln,ib x.ds,LS 3 aNm Nm.o x.ns,LS 2 aSm Sm.o x.ss,LS 4 aEn En.o x.es]) hoff7 rfl rfl rfl rfl rfl rfl hlt (by decide) hst ?_|refine zfI (zaF d 20) Rc.o (k:=8) [.so 220 0 x.ss.length 0] ([bb x.u,ib x.q,ib x.k,ib x.b.r,ib x.b.q,ib x.ln,ib x.ds,LS 3 aNm Nm.o x.ns,LS 2 aSm Sm.o x.ss,LS 4 aEn En.o x.es]) ([bb x.u,ib x.q,ib x.k,ib x.b.r,ib x.b.q,ib x.ln,ib x.ds,LS 3 aNm Nm.o x.ns, .so 220 0 x.ss.length 0,LS 4 aEn En.o x.es]) rfl hoff8 rfl rfl rfl rfl rfl rfl hlt (by decide) rfl ?_|refine zfI (zaF d 20) Rc.o (k:=9) [LS 4 aEn En.o []] ([bb x.u,ib x.q,ib x.k,ib x.b.r,ib x.b.q,ib x.ln,ib x.ds,LS 3 aNm Nm.o x.ns, .so 220 0 x.ss.length 0,LS 4 aEn En.o x.es]) ([bb x.u,ib x.q,ib x.k,ib x.b.r,ib x.b.q,ib x.ln,ib x.ds,LS 3 aNm Nm.o x.ns, .so 220 0 x.ss.length 0,LS 4 aEn En.o []]) rfl hoff9 rfl rfl rfl rfl rfl rfl hlt (by decide) rfl ?_|refine RK.of (zaP (zcu (zaF d 20) (show([bb x.u,ib x.q,ib x.k,ib x.b.r,ib x.b.q,ib x.ln,ib x.ds,LS 3 aNm Nm.o x.ns, .so 220 0 x.ss.length 0,LS 4 aEn En.o []]).length=10 from rfl)) Rc.o (k:=8) hoff8 rfl rfl hlt (by decide) hu8) ?_|refine Need.mk (p:=zah _=true) ?_ ?_;decide+kernel|refine Need.mk ?_ ?_;trivial);conv=>whnf
     have hpv:∀p∈[(2*d,220)],∀k,k≠d→2*k≠p.1∧2*k+1≠p.1:=fun p hp k hk=>by
      rcases List.mem_singleton.1 hp with rfl
      dsimp only;omega
     refine WLoop.inv kmix (D:=Nat) (fun k=>x.ss.length-k) (fun k=>k≤x.ss.length) (fun k=>slots [(1, .ptr 0 0),(2, .ptr 2 0),(4, .ptr 1 (0+((d:Nat):Int).toNat*10)),(20,ib v.rs.length),(21,ib d),(56,ib x.ss.length),(57,ib k)] 79) (fun _=>zax 20 220 (gC v (d+1)) [.row [ib v.c,LS 2 aRun Run.o v.al, .so 1 0 v.rs.length 0,LS 1 aI 0 v.ds,tb v.mp] 26 0, .row (flatI (rcC (d+1) 20) 0 v.rs) 66 10, .row [ib 0, .sc (.slice none 0 0), .sc (.slice none 0 0), .sc (.slice none 0 0),tb []] 26 0]) 0 (Nat.zero_le _) ?_ ?_
     ·refine Weak.ofG [0,1,2] [] [(2*d,220)] rfl rfl rfl rfl ?_ ?_ ?_ ?_
      ·refine⟨⟨rfl,rfl,WL.row (p0_W ⟨rfl,rfl⟩)⟩,⟨rfl,rfl,WL.row (zkW h96 (hpv) ?_)⟩,⟨rfl,rfl, .same rfl rfl⟩,trivial⟩;rw[hxd];unfold rcP;rw[zi8 hs,zdh he]
       repeat refine WL.sc rfl ?_
       exact WL.cons (zlU (by omega)) (WL.cons (zc6 rfl) WL.nil)
      ·refine famC (fun j hj hp=> ?_);rw[hgx j hj];have:j≠2*d:=hp (2*d,220) (by simp);rw[if_neg (by omega),if_pos he]
      ·intro p hp o1 ho
       ·rcases List.mem_singleton.1 hp with rfl
        have ho:gC v (d+1) (2*d)=some o1:=ho;unfold gC at ho;rw[if_pos (by omega),hgx _ (by omega),if_pos (by omega),if_neg hs] at ho;cases ho;exact⟨_,rfl,rfl,rfl, .same rfl (zma _)⟩
      ·(repeat' first|exact zT|exact rfl|refine zA ?_ ?_)
     ·intro k hk;have e1:seS false 20 d x= .so (fam 20 (2*d)) 0 x.ss.length 0:=zi8 hs;rw[e1] at hw8
      have h9:2*d<220-20:=by omega
      have hge:gC v (d+1) (2*d)=some (.row (x.ss.flatMap aSm) 80 2):=by
       unfold gC;rw[if_pos (by omega),hgx _ (by omega),if_pos (by omega),if_neg hs]
      conv=>whnf
      refine KIf.dec (fun hkl=> ?_) (fun hkl=> ?_)
      ·have hkx:k<x.ss.length:=by omega
       have hk0:(0:Int)≤(k:Nat)∧((k:Nat):Int)<(x.ss.length:Nat):=⟨by omega,by omega⟩
       have hoffk:0+((k:Nat):Int).toNat*2+0=k*2+0:=by simp
       obtain⟨y,hy⟩:∃y,at_ Sm.o x.ss k=y:=⟨_,rfl⟩
       have hyr:y.r.length≤100000:=by rw[←hy];exact b4 _ (at_mem Sm.o x.ss k hkx)
       have hv0:(aSm (at_ Sm.o x.ss k))[0]? =some (LS 2 aRun Run.o y.r):=by rw[hy];rfl
       have hset:x.ss.set k y=x.ss:=by rw[←hy,zaG _ _ _ hkx,List.set_getElem_self]
       (conv=>whnf);repeat(first|refine Need.mk ?_ ?_;exact hk0|refine RK.of (zaP (zaF (d+1) 20) Rc.o (k:=8) hoff8 rfl rfl hlt (by decide) hw8) ?_|refine RK.of (zld (enc:=aSm) (sz:=2) (fun _=>rfl) Sm.o hoffk rfl ((zaq h9).trans hge) hkx (by decide) hv0) ?_|refine DCall.pure (zfa y.r hyr) ?_|refine zhm (enc:=aSm) (sz:=2) (fun _=>rfl) Sm.o (k:=0) y hoffk rfl rfl rfl (fun y hy=>by rcases List.mem_singleton.1 hy with rfl;rfl) ((zaq h9).trans hge) hkx (by decide) (by rw[hy];rfl) ?_;(conv=>whnf);rw[zcW (j:=2*d) h9]|refine Need.mk (p:=zah _=true) ?_ ?_;decide+kernel|refine Need.mk ?_ ?_;((constructor<;>omega)));conv=>whnf
       refine⟨k+1,by omega,by dsimp only;omega,?_⟩;rw[hset,←hge];refine Weak.ofG [0,1,2] [] [] rfl rfl rfl rfl ?_ ?_ ?_ ?_
       ·exact⟨⟨rfl,rfl,WL.row (p0_W ⟨rfl,rfl⟩)⟩,⟨rfl,rfl,WL.row (zhs h96)⟩,⟨rfl,rfl, .same rfl rfl⟩,trivial⟩
       ·intro j o1 ho _;refine⟨?_,zef _ _ j o1 ho⟩;by_cases hj:j=2*d
        ·rw[zcc,if_pos hj,←hj];exact ho
        ·rw[zbh hj];exact ho
       ·exact zN
       ·(repeat' first|exact zT|exact rfl|refine zA ?_ ?_)
      ·(conv=>whnf);repeat(((refine Need.mk ?_ ?_;((constructor<;>omega));conv=>whnf)))
       refine⟨d+1,by omega,by dsimp only;omega,?_⟩;refine Weak.ofG [0,1,2] [] [] rfl rfl rfl rfl ?_ ?_ ?_ ?_
       ·exact⟨⟨rfl,rfl,WL.row (p0_W ⟨rfl,rfl⟩)⟩,⟨rfl,rfl,WL.row (zhs h96)⟩,⟨rfl,rfl, .same rfl rfl⟩,trivial⟩
       ·exact(fun j o1 h _=>⟨h,zef _ _ j o1 h⟩)
       ·exact zN
       ·(repeat' first|exact zT|exact rfl|refine zA ?_ ?_)
    ·have hst:(rcC d 20 d (at_ Rc.o v.rs d)).take 7++([LS 3 aNm Nm.o x.ns]++(rcC d 20 d (at_ Rc.o v.rs d)).drop (7+1))=[bb x.u,ib x.q,ib x.k,ib x.b.r,ib x.b.q,ib x.ln,ib x.ds,LS 3 aNm Nm.o x.ns,LS 2 aSm Sm.o x.ss,LS 4 aEn En.o x.es]:=by rw[zgx,hxd];rfl
     have hu8:(updI (rcC d 20) d ([bb x.u,ib x.q,ib x.k,ib x.b.r,ib x.b.q,ib x.ln,ib x.ds,LS 3 aNm Nm.o x.ns, .so 220 0 x.ss.length 0, .so 221 0 x.es.length 0]) d (at_ Rc.o v.rs d))[8]? =some (.so 220 0 x.ss.length 0):=by rw[zbB];rfl
     (conv=>whnf);repeat(first|refine Need.mk ?_ ?_;exact hd0|refine DCall.pure (ziU x.ns b1) ?_|refine RK.of (zaP (zaF d 20) Rc.o (k:=7) hoff7 rfl rfl hlt (by decide) hv7) ?_|refine RK.of (zaP (zaF d 20) Rc.o (k:=8) hoff8 rfl rfl hlt (by decide) hv8) ?_|refine RK.of (zaP (zaF d 20) Rc.o (k:=9) hoff9 rfl rfl hlt (by decide) hv9) ?_|refine Ck.DCall.lift [] [] (.so 220 0 x.ss.length 0) [.row (x.ss.flatMap aSm) 80 2] (zhX x.ss b2 (List.length_pos_iff.2 hs)) rfl trivial ⟨rfl,zaa rfl,trivial⟩ ⟨(by unfold Rn;rfl),rfl,⟨rfl,rfl, .inr ⟨rfl,zas (fun _=>rfl) _⟩⟩,trivial⟩ ?_|refine Ck.DCall.lift [] [] (.so 221 0 x.es.length 0) [.row (x.es.flatMap aEn) 73 4] (zfH x.es b3 (List.length_pos_iff.2 he)) rfl trivial ⟨rfl,zaa rfl,trivial⟩ ⟨(by unfold Rn;rfl),rfl,⟨rfl,rfl, .inr ⟨rfl,zas (fun _=>rfl) _⟩⟩,trivial⟩ ?_|refine zbC (zaF d 20) Rc.o (k:=7) [LS 3 aNm Nm.o x.ns] ([bb x.u,ib x.q,ib x.k,ib x.b.r,ib x.b.q,ib x.ln,ib x.ds,LS 3 aNm Nm.o x.ns,LS 2 aSm Sm.o x.ss,LS 4 aEn En.o x.es]) hoff7 rfl rfl rfl rfl rfl rfl hlt (by decide) hst ?_|refine zfI (zaF d 20) Rc.o (k:=8) [.so 220 0 x.ss.length 0] ([bb x.u,ib x.q,ib x.k,ib x.b.r,ib x.b.q,ib x.ln,ib x.ds,LS 3 aNm Nm.o x.ns,LS 2 aSm Sm.o x.ss,LS 4 aEn En.o x.es]) ([bb x.u,ib x.q,ib x.k,ib x.b.r,ib x.b.q,ib x.ln,ib x.ds,LS 3 aNm Nm.o x.ns, .so 220 0 x.ss.length 0,LS 4 aEn En.o x.es]) rfl hoff8 rfl rfl rfl rfl rfl rfl hlt (by decide) rfl ?_|refine zfI (zaF d 20) Rc.o (k:=9) [.so 221 0 x.es.length 0] ([bb x.u,ib x.q,ib x.k,ib x.b.r,ib x.b.q,ib x.ln,ib x.ds,LS 3 aNm Nm.o x.ns, .so 220 0 x.ss.length 0,LS 4 aEn En.o x.es]) ([bb x.u,ib x.q,ib x.k,ib x.b.r,ib x.b.q,ib x.ln,ib x.ds,LS 3 aNm Nm.o x.ns, .so 220 0 x.ss.length 0, .so 221 0 x.es.length 0]) rfl hoff9 rfl rfl rfl rfl rfl rfl hlt (by decide) rfl ?_|refine RK.of (zaP (zcu (zaF d 20) (show([bb x.u,ib x.q,ib x.k,ib x.b.r,ib x.b.q,ib x.ln,ib x.ds,LS 3 aNm Nm.o x.ns, .so 220 0 x.ss.length 0, .so 221 0 x.es.length 0]).length=10 from rfl)) Rc.o (k:=8) hoff8 rfl rfl hlt (by decide) hu8) ?_|refine Need.mk (p:=zah _=true) ?_ ?_;decide+kernel|refine Need.mk ?_ ?_;trivial);conv=>whnf
     have hpv:∀p∈[(2*d,220),(2*d+1,221)],∀k,k≠d→2*k≠p.1∧2*k+1≠p.1:=fun p hp k hk=>by
      simp only[List.mem_cons,List.not_mem_nil,or_false] at hp
      rcases hp with rfl|rfl<;>(dsimp only;omega)
     refine WLoop.inv kmix (D:=Nat) (fun k=>x.ss.length-k) (fun k=>k≤x.ss.length) (fun k=>slots [(1, .ptr 0 0),(2, .ptr 2 0),(4, .ptr 1 (0+((d:Nat):Int).toNat*10)),(20,ib v.rs.length),(21,ib d),(56,ib x.ss.length),(57,ib k)] 79) (fun _=>zax 20 220 (gC v (d+1)) [.row [ib v.c,LS 2 aRun Run.o v.al, .so 1 0 v.rs.length 0,LS 1 aI 0 v.ds,tb v.mp] 26 0, .row (flatI (rcC (d+1) 20) 0 v.rs) 66 10, .row [ib 0, .sc (.slice none 0 0), .sc (.slice none 0 0), .sc (.slice none 0 0),tb []] 26 0]) 0 (Nat.zero_le _) ?_ ?_
     ·refine Weak.ofG [0,1,2] [] [(2*d,220),(2*d+1,221)] rfl rfl rfl rfl ?_ ?_ ?_ ?_
      ·refine⟨⟨rfl,rfl,WL.row (p0_W ⟨rfl,rfl⟩)⟩,⟨rfl,rfl,WL.row (zkW h96 (hpv) ?_)⟩,⟨rfl,rfl, .same rfl rfl⟩,trivial⟩;rw[hxd];unfold rcP;rw[zi8 hs,zfL he]
       repeat refine WL.sc rfl ?_
       exact WL.cons (zlU (by omega)) (WL.cons (zmb (by omega) (by omega)) WL.nil)
      ·refine famC (fun j hj hp=> ?_);rw[hgx j hj];have:j≠2*d:=hp (2*d,220) (by simp);have:j≠2*d+1:=hp (2*d+1,221) (by simp);omega
      ·intro p hp o1 ho
       rcases List.mem_cons.1 hp with rfl|hp
       ·have ho:gC v (d+1) (2*d)=some o1:=ho;unfold gC at ho;rw[if_pos (by omega),hgx _ (by omega),if_pos (by omega),if_neg hs] at ho;cases ho;exact⟨_,rfl,rfl,rfl, .same rfl (zma _)⟩
       ·rcases List.mem_singleton.1 hp with rfl
        have ho:gC v (d+1) (2*d+1)=some o1:=ho;unfold gC at ho;rw[if_pos (by omega),hgx _ (by omega),if_neg (by omega),if_neg he] at ho;cases ho;exact⟨_,rfl,rfl,rfl, .same rfl (zbx _)⟩
      ·(repeat' first|exact zT|exact rfl|refine zA ?_ ?_)
     ·intro k hk;have e1:seS false 20 d x= .so (fam 20 (2*d)) 0 x.ss.length 0:=zi8 hs;rw[e1] at hw8
      have h9:2*d<220-20:=by omega
      have hge:gC v (d+1) (2*d)=some (.row (x.ss.flatMap aSm) 80 2):=by
       unfold gC;rw[if_pos (by omega),hgx _ (by omega),if_pos (by omega),if_neg hs]
      conv=>whnf
      refine KIf.dec (fun hkl=> ?_) (fun hkl=> ?_)
      ·have hkx:k<x.ss.length:=by omega
       have hk0:(0:Int)≤(k:Nat)∧((k:Nat):Int)<(x.ss.length:Nat):=⟨by omega,by omega⟩
       have hoffk:0+((k:Nat):Int).toNat*2+0=k*2+0:=by simp
       obtain⟨y,hy⟩:∃y,at_ Sm.o x.ss k=y:=⟨_,rfl⟩
       have hyr:y.r.length≤100000:=by rw[←hy];exact b4 _ (at_mem Sm.o x.ss k hkx)
       have hv0:(aSm (at_ Sm.o x.ss k))[0]? =some (LS 2 aRun Run.o y.r):=by rw[hy];rfl
       have hset:x.ss.set k y=x.ss:=by rw[←hy,zaG _ _ _ hkx,List.set_getElem_self]
       (conv=>whnf);repeat(first|refine Need.mk ?_ ?_;exact hk0|refine RK.of (zaP (zaF (d+1) 20) Rc.o (k:=8) hoff8 rfl rfl hlt (by decide) hw8) ?_|refine RK.of (zld (enc:=aSm) (sz:=2) (fun _=>rfl) Sm.o hoffk rfl ((zaq h9).trans hge) hkx (by decide) hv0) ?_|refine DCall.pure (zfa y.r hyr) ?_|refine zhm (enc:=aSm) (sz:=2) (fun _=>rfl) Sm.o (k:=0) y hoffk rfl rfl rfl (fun y hy=>by rcases List.mem_singleton.1 hy with rfl;rfl) ((zaq h9).trans hge) hkx (by decide) (by rw[hy];rfl) ?_;(conv=>whnf);rw[zcW (j:=2*d) h9]|refine Need.mk (p:=zah _=true) ?_ ?_;decide+kernel|refine Need.mk ?_ ?_;((constructor<;>omega)));conv=>whnf
       refine⟨k+1,by omega,by dsimp only;omega,?_⟩;rw[hset,←hge];refine Weak.ofG [0,1,2] [] [] rfl rfl rfl rfl ?_ ?_ ?_ ?_
       ·exact⟨⟨rfl,rfl,WL.row (p0_W ⟨rfl,rfl⟩)⟩,⟨rfl,rfl,WL.row (zhs h96)⟩,⟨rfl,rfl, .same rfl rfl⟩,trivial⟩
       ·intro j o1 ho _;refine⟨?_,zef _ _ j o1 ho⟩;by_cases hj:j=2*d
        ·rw[zcc,if_pos hj,←hj];exact ho
        ·rw[zbh hj];exact ho
       ·exact zN
       ·(repeat' first|exact zT|exact rfl|refine zA ?_ ?_)
      ·(conv=>whnf);repeat(((refine Need.mk ?_ ?_;((constructor<;>omega));conv=>whnf)))
       refine⟨d+1,by omega,by dsimp only;omega,?_⟩;refine Weak.ofG [0,1,2] [] [] rfl rfl rfl rfl ?_ ?_ ?_ ?_
       ·exact⟨⟨rfl,rfl,WL.row (p0_W ⟨rfl,rfl⟩)⟩,⟨rfl,rfl,WL.row (zhs h96)⟩,⟨rfl,rfl, .same rfl rfl⟩,trivial⟩
       ·exact(fun j o1 h _=>⟨h,zef _ _ j o1 h⟩)
       ·exact zN
       ·(repeat' first|exact zT|exact rfl|refine zA ?_ ?_)
  ·conv=>whnf
   obtain rfl:d=v.rs.length:=by omega
   rw[rcC_all,gC_all];refine⟨?_⟩;refine Weak.ofG [1] [] [] rfl rfl rfl rfl ?_ ?_ ?_ ?_
   ·exact⟨rQ h96,trivial⟩
   ·exact fun j o1 h _=>⟨h,zab _ _ j o1 h⟩
   ·exact zN
   ·(repeat' first|exact zT|exact rfl|(intro _ _;exact rfl)|refine zA ?_ ?_)
set_option maxHeartbeats 8000000
theorem runs_h (n M:Nat) (p:Ck.Rp) (hf:Rb n M (p,Ck.taken p.v)) (hM:M=p.v.c.toNat) (hn:n≤96) (hc:0≤p.v.c∧p.v.c≤100000) (hal:AlOk p.v) (hall:p.v.al.length≤100000) (hb:p.fd.length≤100000):HG Tryz.prog 2 20 220 105 [.ptr 0 0] (gP false p) [.row (pRow 20 1 p) 106 0, .row (flatI (rcP false 20) 0 p.v.rs) 66 10] (.tup [])
  (gP false (badRuns p)) [.row (pRow 20 1 (badRuns p)) 106 0, .row (flatI (rcP false 20) 0 (badRuns p).v.rs) 66 10]:=by
 have hpn:p.v.rs.length=n:=hf.rf.n
 have h96:p.v.rs.length≤96:=by omega
 have htk:=taken_k false p h96 hc hal hall;rw[←hM] at htk
 obtain⟨B,hB⟩:∃B,B=1000:=⟨_,rfl⟩
 subst hpn;refine HG.of kmix (by omega) ?_
 (conv=>whnf);repeat((refine KCall.liftK [0,1] (.sl 220 0 M M) [.row (pRow 20 1 p) 106 0, .row (flatI (rcP false 20) 0 p.v.rs) 66 10, .row ((Ck.taken p.v).map bb) 4 0] (htk) rfl (zab _ _) (zab _ _) ?_ ?_ ?_ ?_;exact⟨pF FR.L ⟨rfl,rfl⟩,rF FR.L h96,trivial⟩;(focus((repeat' first|exact zT|exact rfl|refine zA ?_ ?_)));exact⟨(by unfold Rn;rfl),rfl,⟨⟨rfl,rfl, .inl (pRow_RR FN.L rfl)⟩,⟨rfl,rfl, .inl (zb1 FN.L h96)⟩,⟨rfl,rfl, .inr ⟨rfl,contL_map (enc:=bb) (fun _=>rfl) _⟩⟩,trivial⟩⟩;conv=>whnf))
 obtain⟨s0,hs0⟩:∃s0:Ck.Rp×List Bool,s0=(p,Ck.taken p.v):=⟨_,rfl⟩
 have hs1:p=s0.1:=by rw[hs0]
 have hs2:Ck.taken p.v=s0.2:=by rw[hs0]
 rw[←hs0] at hf
 have hend:badRuns p=(it zad s0 p.v.rs.length).1:=by rw[hs0];rfl
 refine WLoop.inv kmix (D:=Nat) (fun d=>p.v.rs.length-d) (fun d=>d≤p.v.rs.length) (fun d=>slots [(0, .ptr 0 0),(2, .sl 2 0 M M),(18, .so 1 0 p.v.rs.length 0),(19,ib p.v.rs.length),(20,ib d)] 80)
  (fun d=>zax 20 220 (gP false (it zad s0 d).1) [.row (pRow 20 1 (it zad s0 d).1) 106 0, .row (flatI (rcP false 20) 0 (it zad s0 d).1.v.rs) 66 10, .row ((it zad s0 d).2.map bb) 4 0]) 0 (Nat.zero_le _) ?_ ?_
 ·subst hs0
  (refine Weak.ofG [0,1,220] [] [] rfl rfl rfl rfl ?_ ?_ ?_ ?_;exact⟨pQ rfl rfl,rQ h96,⟨rfl,rfl, .same rfl (contL_map (enc:=bb) (fun _=>rfl) _)⟩,trivial⟩;exact gQ;exact zN;(focus((repeat' first|exact zT|exact rfl|refine zA ?_ ?_))))
 ·intro d hd;obtain⟨h1,h2⟩:=zia hB hf d hd;have hst:it zad s0 (d+1)=zad (it zad s0 d) d:=rfl
  have hfin:d=p.v.rs.length→(it zad s0 d).1=badRuns p:=fun e=>by rw[hend,e]
  have hmul:d*B≤96*B:=Nat.mul_le_mul_right _ (by omega)
  have hb0:s0.1.fd.length≤100000:=by rw[←hs1];exact hb
  generalize it zad s0 d=q0 at*
  have hqn:q0.1.v.rs.length=p.v.rs.length:=h1.rf.n
  have hq96:q0.1.v.rs.length≤96:=by omega
  have stay:∀{t:Tm} {s:St} {q':Ck.Rp×List Bool},zad q0 d=q'→Weak 2 t s (slots [(0, .ptr 0 0),(2, .sl 2 0 M M),(18, .so 1 0 p.v.rs.length 0),(19,ib p.v.rs.length),(20,ib (d+1:Nat))] 80) (zax 20 220 (gP false q'.1) [.row (pRow 20 1 q'.1) 106 0, .row (flatI (rcP false 20) 0 q'.1.v.rs) 66 10, .row (q'.2.map bb) 4 0])→
    Weak 2 t s (slots [(0, .ptr 0 0),(2, .sl 2 0 M M),(18, .so 1 0 p.v.rs.length 0),(19,ib p.v.rs.length),(20,ib (d+1:Nat))] 80) (zax 20 220 (gP false (it zad s0 (d+1)).1) [.row (pRow 20 1 (it zad s0 (d+1)).1) 106 0, .row (flatI (rcP false 20) 0 (it zad s0 (d+1)).1.v.rs) 66 10, .row ((it zad s0 (d+1)).2.map bb) 4 0]):=fun he hw=>by rw[hst,he];exact hw
  conv=>whnf
  refine KIf.dec (fun h=> ?_) (fun h=> ?_)
  ·have hltp:d<p.v.rs.length:=by omega
   have hltq:d<q0.1.v.rs.length:=by omega
   have hoff:0+((d:Nat):Int).toNat*10=d*10:=by simp
   have hls:zad q0 d=if(at_ Rc.o q0.1.v.rs d).u then it (cutStep d) q0 (at_ Rc.o q0.1.v.rs d).ss.length else q0:=by unfold zad;simp only[zae]
   have hin:=zm0 h1 hltp;have hL:(at_ Rc.o q0.1.v.rs d).ss.length≤1000:=(h1.at hltp).1
   obtain⟨x0,hx0⟩:∃x,at_ Rc.o q0.1.v.rs d=x:=⟨_,rfl⟩
   rw[hx0] at hls hin hL
   obtain⟨u,hu⟩:∃u,x0.u=u:=⟨_,rfl⟩
   rw[hu] at hls
   (conv=>whnf);repeat(first|refine RK.of (zcI (zat false 20) Rc.o hoff rfl rfl hltq rfl) ?_|rw[hx0]|refine zeo rfl rfl rfl rfl ?_|rw[hu]|refine Need.mk ?_ ?_;omega);conv=>whnf
   cases u
   ·(conv=>whnf);repeat((first|(refine KIf.t rfl ?_;conv=>whnf)|(refine Need.mk ?_ ?_;((constructor<;>omega));conv=>whnf)))
    refine⟨d+1,by omega,by dsimp only;omega,stay (q':=q0) (by rw[hls];rfl) ?_⟩
    (refine Weak.ofG [0,1,2] [] [] rfl rfl rfl rfl ?_ ?_ ?_ ?_;exact⟨pQ rfl rfl,rQ hq96,⟨rfl,rfl, .same rfl (contL_map (enc:=bb) (fun _=>rfl) _)⟩,trivial⟩;exact gQ;exact zN;(focus((repeat' first|exact zT|exact rfl|refine zA ?_ ?_))))
   ·have hls2:zad q0 d=it (cutStep d) q0 x0.ss.length:=by rw[hls];rfl
    have hd96:d<96:=by omega
    by_cases he0:x0.ss=[]
    ·have e1:seS false 20 d x0=LS 2 aSm Sm.o []:=by rw[zkQ (.inr he0),he0]
     have hls3:zad q0 d=q0:=by rw[hls2,he0];rfl
     (conv=>whnf);repeat(first|rw[e1]|refine KIf.f rfl ?_);conv=>whnf
     refine WLoop.inv kmix (D:=Unit) (fun _=>0) (fun _=>True) (fun _=>slots [(0, .ptr 0 0),(2, .sl 2 0 M M),(18, .so 1 0 p.v.rs.length 0),(19,ib p.v.rs.length),(20,ib d),(30,ib (0:Nat)),(31,ib (0:Nat))] 80)
      (fun _=>zax 20 220 (gP false q0.1) [.row (pRow 20 1 q0.1) 106 0, .row (flatI (rcP false 20) 0 q0.1.v.rs) 66 10, .row (q0.2.map bb) 4 0]) () trivial ?_ ?_
     ·(refine Weak.ofG [0,1,2] [] [] rfl rfl rfl rfl ?_ ?_ ?_ ?_;exact⟨pQ rfl rfl,rQ hq96,⟨rfl,rfl, .same rfl (contL_map (enc:=bb) (fun _=>rfl) _)⟩,trivial⟩;exact gQ;exact zN;(focus((repeat' first|exact zT|exact rfl|refine zA ?_ ?_))))
     ·intro _ _
      (conv=>whnf);repeat((first|(refine KIf.f rfl ?_;conv=>whnf)|(refine Need.mk ?_ ?_;((constructor<;>omega));conv=>whnf)))
      refine⟨d+1,by omega,by dsimp only;omega,stay hls3 ?_⟩
      (refine Weak.ofG [0,1,2] [] [] rfl rfl rfl rfl ?_ ?_ ?_ ?_;exact⟨pQ rfl rfl,rQ hq96,⟨rfl,rfl, .same rfl (contL_map (enc:=bb) (fun _=>rfl) _)⟩,trivial⟩;exact gQ;exact zN;(focus((repeat' first|exact zT|exact rfl|refine zA ?_ ?_))))
    ·have e1:seS false 20 d x0= .so (fam 20 (2*d)) 0 x0.ss.length 0:=zi8 he0
     (conv=>whnf);repeat(first|rw[e1]|refine KIf.f rfl ?_);conv=>whnf
     refine WLoop.inv kmix (D:=Nat) (fun k=>x0.ss.length-k) (fun k=>k≤x0.ss.length) (fun k=>slots [(0, .ptr 0 0),(2, .sl 2 0 M M),(3,ib d),(4, .ptr 3 0),(18, .so 1 0 p.v.rs.length 0),(19,ib p.v.rs.length),(20,ib d),(30,ib x0.ss.length),(31,ib k)] 80)
      (fun k=>zax 20 220 (gP false (it (cutStep d) q0 k).1) [.row (pRow 20 1 (it (cutStep d) q0 k).1) 106 0, .row (flatI (rcP false 20) 0 (it (cutStep d) q0 k).1.v.rs) 66 10, .row ((it (cutStep d) q0 k).2.map bb) 4 0, .row (rcP false 20 d x0) 66 0]) 0 (Nat.zero_le _) ?_ ?_
     ·(refine Weak.ofG [0,1,2,220] [] [] rfl rfl rfl rfl ?_ ?_ ?_ ?_;exact⟨pQ rfl rfl,rQ hq96,⟨rfl,rfl, .same rfl (contL_map (enc:=bb) (fun _=>rfl) _)⟩,⟨rfl,rfl,WL.row (zcj hd96 zN)⟩,trivial⟩;exact gQ;exact zN;(focus((repeat' first|exact zT|exact rfl|refine zA ?_ ?_))))
     ·intro k hk;obtain⟨h3,h4,h5⟩:=hin k;have hst2:it (cutStep d) q0 (k+1)=cutStep d (it (cutStep d) q0 k) k:=rfl
      have hfin2:k=x0.ss.length→it (cutStep d) q0 k=zad q0 d:=fun e=>by rw[hls2,e]
      generalize it (cutStep d) q0 k=q at*
      have hqqn:q.1.v.rs.length=p.v.rs.length:=h3.rf.n
      have hqq96:q.1.v.rs.length≤96:=by omega
      have hqd:d<q.1.v.rs.length:=by omega
      have hne:(at_ Rc.o q.1.v.rs d).ss≠[]:=fun e=>he0 (List.eq_nil_of_length_eq_zero (by rw[←h5,e];rfl))
      have hge:gP false q.1 (2*d)=some (.row ((at_ Rc.o q.1.v.rs d).ss.flatMap aSm) 80 2):=znw hqd hd96 hne
      have h9:2*d<200:=by omega
      conv=>whnf
      refine KIf.dec (fun hkl=> ?_) (fun hkl=> ?_)
      ·have hkx:k<(at_ Rc.o q.1.v.rs d).ss.length:=by rw[h5];omega
       have hk0:(0:Int)≤(k:Nat)∧((k:Nat):Int)<(x0.ss.length:Nat):=⟨by omega,by omega⟩
       have hoffk:0+((k:Nat):Int).toNat*2+0=k*2+0:=by simp
       obtain⟨y,hy⟩:∃y,at_ Sm.o (at_ Rc.o q.1.v.rs d).ss k=y:=⟨_,rfl⟩
       have hsm:=h3.sm hltp k;rw[hy] at hsm
       have hv0:(aSm (at_ Sm.o (at_ Rc.o q.1.v.rs d).ss k))[0]? =some (LS 2 aRun Run.o y.r):=by rw[hy];rfl
       have hcut:=cut_k false q.1 y.r q.2 M hsm.1 hsm.2.2.2 h3.tl (by omega)
       obtain⟨t',hc1⟩:∃t',(Ck.cut y.r q.2).1=t':=⟨_,rfl⟩
       obtain⟨o,hc2⟩:∃o,(Ck.cut y.r q.2).2=o:=⟨_,rfl⟩
       have hc3:Ck.cut y.r q.2=(t',o):=by rw[←hc1,←hc2]
       rw[hc1,hc2] at hcut
       (conv=>whnf);repeat(first|refine Need.mk ?_ ?_;exact hk0|rw[e1]|refine RK.of (zld (enc:=aSm) (sz:=2) (fun _=>rfl) Sm.o hoffk rfl ((zaq (show 2*d<220-20 from h9)).trans hge) hkx (by decide) hv0) ?_|refine KCall.liftK [2] (.tup [LS 2 aRun Run.o (CutR y.r o),bb o.isSome]) [.row (t'.map bb) 4 0] (hcut) rfl (zab _ _) (zab _ _) ?_ ?_ ?_ ?_;exact⟨⟨rfl,rfl, .same rfl (contL_map (enc:=bb) (fun _=>rfl) _)⟩,trivial⟩;(focus((repeat' first|exact zT|exact rfl|(intro _ _;exact rfl)|refine zA ?_ ?_)));exact⟨(by unfold Rn Rnl;exact⟨Rn.lst,by unfold Rnl;exact⟨Rn.sc,by unfold Rnl;trivial⟩⟩),rfl,⟨⟨rfl,rfl, .inr ⟨rfl,contL_map (enc:=bb) (fun _=>rfl) _⟩⟩,trivial⟩⟩);conv=>whnf
       have stay2:∀{t:Tm} {s:St} {q':Ck.Rp×List Bool},cutStep d q k=q'→Weak 2 t s (slots [(0, .ptr 0 0),(2, .sl 2 0 M M),(3,ib d),(4, .ptr 3 0),(18, .so 1 0 p.v.rs.length 0),(19,ib p.v.rs.length),(20,ib d),(30,ib x0.ss.length),(31,ib (k+1:Nat))] 80) (zax 20 220 (gP false q'.1) [.row (pRow 20 1 q'.1) 106 0, .row (flatI (rcP false 20) 0 q'.1.v.rs) 66 10, .row (q'.2.map bb) 4 0, .row (rcP false 20 d x0) 66 0])→
        Weak 2 t s (slots [(0, .ptr 0 0),(2, .sl 2 0 M M),(3,ib d),(4, .ptr 3 0),(18, .so 1 0 p.v.rs.length 0),(19,ib p.v.rs.length),(20,ib d),(30,ib x0.ss.length),(31,ib (k+1:Nat))] 80) (zax 20 220 (gP false (it (cutStep d) q0 (k+1)).1) [.row (pRow 20 1 (it (cutStep d) q0 (k+1)).1) 106 0, .row (flatI (rcP false 20) 0 (it (cutStep d) q0 (k+1)).1.v.rs) 66 10, .row ((it (cutStep d) q0 (k+1)).2.map bb) 4 0, .row (rcP false 20 d x0) 66 0]):=fun he hw=>by rw[hst2,he];exact hw
       cases o with
       |none=>
        have hcs:cutStep d q k=(q.1,t'):=by
         unfold cutStep;simp only[zae];rw[hy,hc3]
        (conv=>whnf);repeat((first|(refine KIf.t rfl ?_;conv=>whnf)|(refine Need.mk ?_ ?_;((constructor<;>omega));conv=>whnf)))
        refine⟨k+1,by omega,by dsimp only;omega,stay2 (q':=(q.1,t')) hcs ?_⟩
        (refine Weak.ofG [0,1,2,3] [] [] rfl rfl rfl rfl ?_ ?_ ?_ ?_;exact⟨pQ rfl rfl,rQ hqq96,⟨rfl,rfl, .same rfl (contL_map (enc:=bb) (fun _=>rfl) _)⟩,⟨rfl,rfl,WL.row (zcj hd96 zN)⟩,trivial⟩;exact gQ;exact zN;(focus((repeat' first|exact zT|exact rfl|refine zA ?_ ?_))))
       |some l=>
        have hcs:cutStep d q k=((q.1.note 1 d k).setR d {at_ Rc.o q.1.v.rs d with ss:=(at_ Rc.o q.1.v.rs d).ss.set k ⟨l,min y.z (clusters l*256)⟩},t'):=by
         unfold cutStep;simp only[zae];rw[hy,hc3]
        have hb9:q.1.fd.length≤1000000:=by omega
        have hnk:=zk6 false q.1 1 d k hqq96 h3.rf.fl hb9
        (conv=>whnf);repeat(first|refine KCall.liftK [0,1] (.tup []) [.row (nRow 1 239 240 (q.1.note 1 d k)) 106 0, .row (flatI (rcP false 20) 0 (q.1).v.rs) 66 10, .row (((q.1.note 1 d k)).fd.flatMap aFd) 86 3, .row (((q.1.note 1 d k)).fl.map ib) 3 1] (hnk) rfl (zab _ _) za0 ?_ ?_ ?_ ?_;exact⟨pF FR.L ⟨rfl,rfl⟩,rF FR.L hqq96,trivial⟩;(focus((repeat' first|exact zT|exact rfl|refine zA ?_ ?_)));exact⟨(by unfold Rn Rnl;trivial),rfl,⟨rfl,rfl, .inl (zfR rfl rfl rfl)⟩,⟨rfl,rfl, .inl (zb1 FN.L hqq96)⟩,⟨rfl,rfl, .inr ⟨rfl,zbR _⟩⟩,⟨rfl,rfl, .inr ⟨rfl,zbH _⟩⟩,trivial⟩|refine KIf.f rfl ?_);conv=>whnf
        have hlo:=(zn6 y.r q.2 hsm.2.2.2).2 l hc2
        refine WLoop.inv kmix (D:=Nat) (fun j=>l.length-j) (fun j=>j≤l.length) (fun j=>slots [(0, .ptr 0 0),(2, .sl 2 0 M M),(3,ib d),(4, .ptr 3 0),(6, .ptr (fam 20 (2*d)) (0+((k:Nat):Int).toNat*2)),(7,LS 2 aRun Run.o l),(9,ib (it (fun n i=>n+(at_ Run.o l i).l) (0:Int) j)),(18, .so 1 0 p.v.rs.length 0),(19,ib p.v.rs.length),(20,ib d),(30,ib x0.ss.length),(31,ib k),(53,LS 2 aRun Run.o l),(54,ib l.length),(55,ib j)] 80)
         (fun j=>zax 20 220 (zhj (gP false q.1)) [.row (nRow 1 4 5 (q.1.note 1 d k)) 106 0, .row (flatI (rcP false 20) 0 q.1.v.rs) 66 10, .row (t'.map bb) 4 0, .row (rcP false 20 d x0) 66 0, .row ((q.1.note 1 d k).fd.flatMap aFd) 86 3, .row ((q.1.note 1 d k).fl.map ib) 3 1]) 0 (Nat.zero_le _) ?_ ?_
        ·refine Weak.ofG [0,1,2,3,239,240] [] [] rfl rfl rfl rfl ?_ ?_ ?_ ?_
         ·exact⟨⟨rfl,rfl,WL.row (znS ⟨rfl,rfl⟩ ⟨rfl,rfl⟩ ⟨rfl,rfl⟩)⟩,rQ hqq96,⟨rfl,rfl, .same rfl (contL_map (enc:=bb) (fun _=>rfl) _)⟩,⟨rfl,rfl,WL.row (zcj hd96 zN)⟩,⟨rfl,rfl, .same rfl (zbR _)⟩,⟨rfl,rfl, .same rfl (zbH _)⟩,trivial⟩
         ·exact(fun j o1 h _=>⟨h,za0 j o1 h⟩)
         ·exact zN
         ·(repeat' first|exact zT|exact zoJ h9 zN|exact rfl|(intro _ _;exact rfl)|refine zA ?_ ?_)
        ·intro j hj;obtain⟨hc5,hc6⟩:=zc2 l hlo.2 j hj;have hll:l.length≤100000:=Nat.le_trans hlo.1 hsm.1
         conv=>whnf
         refine KIf.dec (fun hjl=> ?_) (fun hjl=> ?_)
         ·have hj0:(0:Int)≤(j:Nat)∧((j:Nat):Int)<(l.length:Nat):=⟨by omega,by omega⟩
          obtain⟨hc7,hc8⟩:=zc2 l hlo.2 (j+1) (by omega)
          have hsm2:Small (it (fun n i=>n+(at_ Run.o l i).l) (0:Int) j+(at_ Run.o l j).l):=by
           have e:it (fun n i=>n+(at_ Run.o l i).l) (0:Int) (j+1)=it (fun n i=>n+(at_ Run.o l i).l) (0:Int) j+(at_ Run.o l j).l:=rfl;rw[e] at hc7 hc8;exact⟨by omega,by omega⟩
          (conv=>whnf);repeat(first|refine Need.mk ?_ ?_;(focus(first|exact hj0|exact hsm2))|refine Need.mk ?_ ?_;((constructor<;>omega)));conv=>whnf
          refine⟨j+1,by omega,by dsimp only;omega,?_⟩;refine Weak.ofG [0,1,2,3,4,5] [] [] rfl rfl rfl rfl ?_ ?_ ?_ ?_
          ·exact⟨⟨rfl,rfl,WL.row (znS ⟨rfl,rfl⟩ ⟨rfl,rfl⟩ ⟨rfl,rfl⟩)⟩,rQ hqq96,⟨rfl,rfl, .same rfl (contL_map (enc:=bb) (fun _=>rfl) _)⟩,⟨rfl,rfl,WL.row (zcj hd96 zN)⟩,⟨rfl,rfl, .same rfl (zbR _)⟩,⟨rfl,rfl, .same rfl (zbH _)⟩,trivial⟩
          ·exact(fun j o1 h _=>⟨h,za0 j o1 h⟩)
          ·exact zN
          ·(repeat' first|exact zT|exact zoJ h9 zN|exact rfl|(intro _ _;exact rfl)|refine zA ?_ ?_)
         ·have hjl2:j=l.length:=by omega
          have hcl:clusters l=it (fun n i=>n+(at_ Run.o l i).l) (0:Int) j:=by rw[hjl2];rfl
          have hmul2:Small (it (fun n i=>n+(at_ Run.o l i).l) (0:Int) j*256):=⟨by omega,by omega⟩
          have hgh:zhj (gP false q.1) (2*d)=some (.row ((at_ Rc.o q.1.v.rs d).ss.flatMap aSm) 80 2):=(zdP (by omega) (by omega)).trans hge
          have hv1:(aSm (at_ Sm.o (at_ Rc.o q.1.v.rs d).ss k))[1]? =some (ib y.z):=by rw[hy];rfl
          have hoff1:0+((k:Nat):Int).toNat*2+1=k*2+1:=by simp
          have hkx2:k<((at_ Rc.o q.1.v.rs d).ss.set k {y with r:=l}).length:=by rw[List.length_set];exact hkx
          have hat2:at_ Sm.o ((at_ Rc.o q.1.v.rs d).ss.set k {y with r:=l}) k={y with r:=l}:=zal _ _ _ _ hkx;have h10:2*d<220-20:=h9
          (conv=>whnf);repeat(first|refine Need.mk ?_ ?_;exact hmul2|refine RK.of (zld (enc:=aSm) (sz:=2) (fun _=>rfl) Sm.o hoff1 rfl ((zaq h10).trans hgh) hkx (by decide) hv1) ?_|refine zhm (enc:=aSm) (sz:=2) (fun _=>rfl) Sm.o (k:=0) {y with r:=l} hoffk rfl rfl rfl (fun y hy=>by rcases List.mem_singleton.1 hy with rfl;rfl) ((zaq h10).trans hgh) hkx (by decide) (by rw[hy];rfl) ?_;(conv=>whnf);rw[zcW (j:=2*d) h10]|refine zhm (enc:=aSm) (sz:=2) (fun _=>rfl) Sm.o (k:=1) (l:=(at_ Rc.o q.1.v.rs d).ss.set k {y with r:=l}) ⟨l,minZ y.z (it (fun n i=>n+(at_ Run.o l i).l) (0:Int) j*256)⟩ hoff1 rfl rfl rfl (fun y hy=>by rcases List.mem_singleton.1 hy with rfl;rfl) ((zaq h10).trans (by rw[zcc,if_pos rfl])) hkx2 (by decide) (by rw[hat2];rfl) ?_;(conv=>whnf);rw[zcW (j:=2*d) h10]|refine Need.mk ?_ ?_;((constructor<;>omega)));conv=>whnf
          have hp2:∀p∈[(192,4),(193,5)],2*d≠p.1∧2*d+1≠p.1:=by simp;omega
          have hp1:∀p∈[(192,4),(193,5)],2*d≠p.1:=fun p hp=>(hp2 p hp).1
          have hp3:∀p∈[(192,4),(193,5)],191<p.1:=by simp
          have hmin:minZ y.z (it (fun n i=>n+(at_ Run.o l i).l) (0:Int) j*256)=min y.z (clusters l*256):=by rw[minZ_eq,hcl]
          rw[hmin,List.set_set]
          obtain⟨ss',hss⟩:∃ss',(at_ Rc.o q.1.v.rs d).ss.set k ⟨l,min y.z (clusters l*256)⟩=ss':=⟨_,rfl⟩
          have hssl:ss'.length=(at_ Rc.o q.1.v.rs d).ss.length:=by rw[←hss];exact List.length_set
          have hssn:ss'≠[]:=fun e=>by rw[e] at hssl;exact hne (List.eq_nil_of_length_eq_zero hssl.symm)
          rw[hss] at hcs⊢;have hgs:=gP_setS (q:=q.1.note 1 d k) (d:=d) (ss:=ss') hqd hd96 hssn;refine⟨k+1,by omega,by dsimp only;omega,stay2 hcs ?_⟩;refine Weak.ofG [0,1,2,3] [] [(192,4),(193,5)] rfl rfl rfl rfl ?_ ?_ ?_ ?_
          ·refine⟨⟨rfl,rfl,WL.row (znR ⟨rfl,rfl⟩ ⟨rfl,rfl,(List.length_set).symm,rfl,rfl⟩ rfl rfl rfl rfl)⟩,⟨rfl,rfl,?_⟩,⟨rfl,rfl, .same rfl (contL_map (enc:=bb) (fun _=>rfl) _)⟩,⟨rfl,rfl,WL.row (zcj hd96 hp2)⟩,trivial⟩;show WRowG _ _ _ (flatI (rcP false 20) 0 (q.1.v.rs.set d _)) _;rw[zfq (rcP false 20) Rc.o q.1.v.rs 0 d _ (by rw[Nat.zero_add];exact rcP_ss hssl)];exact WL.row (zdo hqq96 hp3)
          ·intro j o1 ho hj;have e1:j≠192:=hj (192,4) (by simp);have e2:j≠193:=hj (193,5) (by simp);refine⟨?_,zab _ _ j o1 ho⟩;rw[←ho];refine Eq.trans ?_ (congrFun hgs j).symm;by_cases h1:j=2*d
           ·rw[zcc,if_pos h1,zcc,if_pos h1]
           ·rw[zbh h1,zbh h1,zbh h1,zdP e1 e2];exact(ziE (ph:=false) (p:=q.1) (q:=q.1.note 1 d k) rfl e1 e2).symm
          ·intro p9 hp9 o1 ho;refine note_ov (ph:=false) (p:=q.1) (k:=1) (r0:=d) (i:=k) rfl (List.flatMap_append ..) rfl (List.map_append ..) p9 hp9 o1 ?_;rw[←ho];refine Eq.trans ?_ (congrFun hgs _).symm;rw[zbh (hp1 p9 hp9).symm]
          ·(repeat' first|exact zT|exact rfl|refine zA ?_ ?_)
      ·(conv=>whnf);repeat(((refine Need.mk ?_ ?_;((constructor<;>omega));conv=>whnf)))
       refine⟨d+1,by omega,by dsimp only;omega,stay (q':=q) ((hfin2 (by omega)).symm) ?_⟩
       (refine Weak.ofG [0,1,2] [] [] rfl rfl rfl rfl ?_ ?_ ?_ ?_;exact⟨pQ rfl rfl,rQ hqq96,⟨rfl,rfl, .same rfl (contL_map (enc:=bb) (fun _=>rfl) _)⟩,trivial⟩;exact gQ;exact zN;(focus((repeat' first|exact zT|exact rfl|refine zA ?_ ?_))))
  ·conv=>whnf
   rw[←hfin (by omega)];refine⟨?_⟩
   (refine Weak.ofG [0,1] [] [] rfl rfl rfl rfl ?_ ?_ ?_ ?_;exact⟨pQ rfl rfl,rQ hq96,trivial⟩;exact gQ;exact zN;(focus((repeat' first|exact zT|refine zA ?_ ?_))))
set_option maxHeartbeats 16000000
theorem entries_h (n:Nat) (p:Ck.Rp) (hf:Rk n p) (hn:n≤96) (hb:p.fd.length≤100000):HG Tryz.prog 2 20 220 107 [.ptr 0 0] (gP false p) [.row (pRow 20 1 p) 106 0, .row (flatI (rcP false 20) 0 p.v.rs) 66 10] (.tup [])
  (gP false (badEntries p)) [.row (pRow 20 1 (badEntries p)) 106 0, .row (flatI (rcP false 20) 0 (badEntries p).v.rs) 66 10]:=by
 have hpn:p.v.rs.length=n:=hf.rf.n
 have h96:p.v.rs.length≤96:=by omega
 obtain⟨B,hB⟩:∃B,B=1000:=⟨_,rfl⟩
 subst hpn;refine HG.of kmix (by omega) ?_
 conv=>whnf
 refine WLoop.inv kmix (D:=Nat) (fun d=>p.v.rs.length-d) (fun d=>d≤p.v.rs.length) (fun d=>slots [(0, .ptr 0 0),(12, .so 1 0 p.v.rs.length 0),(13,ib p.v.rs.length),(14,ib d)] 92)
  (fun d=>zax 20 220 (gP false (it zac p d)) [.row (pRow 20 1 (it zac p d)) 106 0, .row (flatI (rcP false 20) 0 (it zac p d).v.rs) 66 10]) 0 (Nat.zero_le _) ?_ ?_
 ·(refine Weak.ofG [0,1] [] [] rfl rfl rfl rfl ?_ ?_ ?_ ?_;exact⟨pQ rfl rfl,rQ h96,trivial⟩;exact gQ;exact zN;(focus((repeat' first|exact zT|exact rfl|refine zA ?_ ?_))))
 ·intro d hd;obtain⟨h1,h2⟩:=zei hB hf d hd;have hst:it zac p (d+1)=zac (it zac p d) d:=rfl
  have hfin:d=p.v.rs.length→it zac p d=badEntries p:=fun e=>by rw[e];rfl
  have hmul:d*B≤96*B:=Nat.mul_le_mul_right _ (by omega)
  generalize it zac p d=q0 at*
  have hqn:q0.v.rs.length=p.v.rs.length:=h1.rf.n
  have hq96:q0.v.rs.length≤96:=by omega
  have stay:∀{t:Tm} {s:St} {q':Ck.Rp},zac q0 d=q'→Weak 2 t s (slots [(0, .ptr 0 0),(12, .so 1 0 p.v.rs.length 0),(13,ib p.v.rs.length),(14,ib (d+1:Nat))] 92) (zax 20 220 (gP false q') [.row (pRow 20 1 q') 106 0, .row (flatI (rcP false 20) 0 q'.v.rs) 66 10])→
    Weak 2 t s (slots [(0, .ptr 0 0),(12, .so 1 0 p.v.rs.length 0),(13,ib p.v.rs.length),(14,ib (d+1:Nat))] 92) (zax 20 220 (gP false (it zac p (d+1))) [.row (pRow 20 1 (it zac p (d+1))) 106 0, .row (flatI (rcP false 20) 0 (it zac p (d+1)).v.rs) 66 10]):=fun he hw=>by rw[hst,he];exact hw
  conv=>whnf
  refine KIf.dec (fun h=> ?_) (fun h=> ?_)
  ·have hltp:d<p.v.rs.length:=by omega
   have hltq:d<q0.v.rs.length:=by omega
   have hd96:d<96:=by omega
   have hoff:0+((d:Nat):Int).toNat*10=d*10:=by simp
   have hoff9:0+((d:Nat):Int).toNat*10+9=d*10+9:=by simp
   have hd0:(0:Int)≤(d:Nat)∧((d:Nat):Int)<(q0.v.rs.length:Nat):=⟨by omega,by omega⟩
   obtain⟨x0,hx0⟩:∃x,at_ Rc.o q0.v.rs d=x:=⟨_,rfl⟩
   obtain⟨a1,a2,a3,a4⟩:=h1.at hltp;rw[hx0] at a1 a2 a3 a4
   have hls:zac q0 d=if dir x0 then(it (entryStep d x0.es) (q0,[]) x0.es.length).1.setR d {(it (entryStep d x0.es) (q0,[]) x0.es.length).1.rc d with es:=(it (entryStep d x0.es) (q0,[]) x0.es.length).2} else q0:=by unfold zac;simp only[zae];rw[hx0]
   obtain⟨ob,hob⟩:∃b,dir x0=b:=⟨_,rfl⟩
   have hdir:=zkj x0;rw[hob] at hdir hls
   (conv=>whnf);repeat(first|refine RK.of (zcI (zat false 20) Rc.o hoff rfl rfl hltq rfl) ?_|rw[hx0]|refine zeo rfl rfl rfl rfl ?_|refine KCall.lend ([]) (hdir) rfl ?_ ?_;exact zfP|refine Need.mk ?_ ?_;omega);conv=>whnf
   cases ob
   ·(conv=>whnf);repeat(first|refine KIf.t rfl ?_|refine Need.mk ?_ ?_;((constructor<;>omega)));conv=>whnf
    refine⟨d+1,by omega,by dsimp only;omega,stay (q':=q0) (by rw[hls];rfl) ?_⟩
    (refine Weak.ofG [0,1] [] [] rfl rfl rfl rfl ?_ ?_ ?_ ?_;exact⟨pQ rfl rfl,rQ hq96,trivial⟩;exact gQ;exact zN;(focus((repeat' first|exact zT|exact rfl|refine zA ?_ ?_))))
   ·by_cases he0:x0.es=[]
    ·have e1:seE 20 d x0=LS 4 aEn En.o []:=zdh he0
     have hls3:zac q0 d=q0:=by
      rw[hls,he0];show q0.setR d {q0.rc d with es:=[]}=q0;rw[zae,hx0]
      have e2:({x0 with es:=[]}:Rc)=x0:=by cases x0;simp only at he0;subst he0;rfl
      rw[e2,←hx0];unfold Rp.setR;rw[zkP _ _ hltq]
     (conv=>whnf);repeat(first|rw[e1]|refine KIf.f rfl ?_);conv=>whnf
     refine WLoop.inv kmix (D:=Unit) (fun _=>0) (fun _=>True) (fun _=>slots [(0, .ptr 0 0),(2,ib d),(4, .sc (.slice none 0 0)),(12, .so 1 0 p.v.rs.length 0),(13,ib p.v.rs.length),(14,ib d),(24,ib (0:Nat)),(25,ib (0:Nat))] 92)
      (fun _=>zax 20 220 (gP false q0) [.row (pRow 20 1 q0) 106 0, .row (flatI (rcP false 20) 0 q0.v.rs) 66 10]) () trivial ?_ ?_
     ·(refine Weak.ofG [0,1] [] [] rfl rfl rfl rfl ?_ ?_ ?_ ?_;exact⟨pQ rfl rfl,rQ hq96,trivial⟩;exact gQ;exact zN;(focus((repeat' first|exact zT|exact rfl|refine zA ?_ ?_))))
     ·intro _ _
      (conv=>whnf);repeat(first|refine Need.mk ?_ ?_;exact hd0|refine zbC (zat false 20) Rc.o (k:=9) [.sc (.slice none 0 0)] (rcE 20 d (at_ Rc.o q0.v.rs d) (.sc (.slice none 0 0))) hoff9 rfl rfl rfl rfl rfl rfl hltq (by decide) rfl ?_|refine KIf.f rfl ?_|refine Need.mk ?_ ?_;((constructor<;>omega)));conv=>whnf
      refine⟨d+1,by omega,by dsimp only;omega,stay hls3 ?_⟩;refine Weak.ofG [0,1] [] [] rfl rfl rfl rfl ?_ ?_ ?_ ?_
      ·refine⟨pQ rfl rfl,⟨rfl,rfl,WL.row (zbf (i:=d) hq96 rfl (fun _ _=>rfl) zN ?_)⟩,trivial⟩;rw[hx0];unfold rcE rcP;rw[e1]
       repeat refine WL.sc rfl ?_
       exact WL.cons (zlV hd96 zN) (WL.cons ⟨trivial,Wv.nil rfl⟩ WL.nil)
      ·exact gQ
      ·exact zN
      ·(repeat' first|exact zT|exact rfl|refine zA ?_ ?_)
    ·have e1:seE 20 d x0= .so (fam 20 (2*d+1)) 0 x0.es.length 0:=zfL he0
     have h9:2*d+1<200:=by omega
     (conv=>whnf);repeat(first|rw[e1]|refine KIf.f rfl ?_);conv=>whnf
     have hls2:zac q0 d=(it (entryStep d x0.es) (q0,[]) x0.es.length).1.setR d {(it (entryStep d x0.es) (q0,[]) x0.es.length).1.rc d with es:=(it (entryStep d x0.es) (q0,[]) x0.es.length).2}:=by rw[hls];rfl
     have hin:=zge (i:=d) (es:=x0.es) (q:=q0) h1.rf.fl
     refine WLoop.inv kmix (D:=Nat) (fun k=>x0.es.length-k) (fun k=>k≤x0.es.length) (fun k=>slots [(0, .ptr 0 0),(2,ib d),(3, .ptr 2 0),(4,stS 3 (it (entryStep d x0.es) (q0,[]) k).2),(12, .so 1 0 p.v.rs.length 0),(13,ib p.v.rs.length),(14,ib d),(23, .so (fam 20 (2*d+1)) 0 x0.es.length 0),(24,ib x0.es.length),(25,ib k)] 92)
      (fun k=>zax 20 220 (gP false (it (entryStep d x0.es) (q0,[]) k).1) (stR (.row (pRow 20 1 (it (entryStep d x0.es) (q0,[]) k).1) 106 0) (.row (flatI (rcP false 20) 0 (it (entryStep d x0.es) (q0,[]) k).1.v.rs) 66 10) (.row (rcP false 20 d x0) 66 0) (it (entryStep d x0.es) (q0,[]) k).2)) 0 (Nat.zero_le _) ?_ ?_
     ·refine Weak.ofG [0,1,220] [] [] rfl rfl rfl rfl ?_ ?_ ?_ ?_
      ·exact⟨pQ rfl rfl,rQ hq96,⟨rfl,rfl,WL.row (zcj hd96 zN)⟩,trivial⟩
      ·exact gQ
      ·exact zN
      ·(repeat' first|exact zT|exact so_W h9 zN|exact rfl|refine zA ?_ ?_)
     ·intro k hk;obtain⟨h3,h4,h5,h6,h7⟩:=hin k hk;have hst2:it (entryStep d x0.es) (q0,[]) (k+1)=entryStep d x0.es (it (entryStep d x0.es) (q0,[]) k) k:=rfl
      have hfin2:k=x0.es.length→zac q0 d=(it (entryStep d x0.es) (q0,[]) k).1.setR d {(it (entryStep d x0.es) (q0,[]) k).1.rc d with es:=(it (entryStep d x0.es) (q0,[]) k).2}:=fun e=>by rw[hls2,e]
      generalize it (entryStep d x0.es) (q0,[]) k=s2 at*
      obtain⟨q,st⟩:=s2;dsimp only at h3 h4 h5 h6 h7 hst2 hfin2;have hqk:Rk p.v.rs.length q:=h1.of_v h3 h4;have hqqn:q.v.rs.length=p.v.rs.length:=hqk.rf.n
      have hqq96:q.v.rs.length≤96:=by omega
      have hqd:d<q.v.rs.length:=by omega
      have hqx:at_ Rc.o q.v.rs d=x0:=by rw[h3];exact hx0
      have hge:gP false q (2*d+1)=some (.row (x0.es.flatMap aEn) 73 4):=by rw[←hqx];exact zjD hqd hd96 (by rw[hqx];exact he0)
      have hstl:st.length≤1000:=by omega
      have hstn:∀e∈st,NmOk e.n:=fun e he=>a2.2 e (h7 e he)
      have stay2:∀{t:Tm} {s:St} {q':Ck.Rp} {st':List En},entryStep d x0.es (q,st) k=(q',st')→Weak 2 t s (slots [(0, .ptr 0 0),(2,ib d),(3, .ptr 2 0),(4,stS 3 st'),(12, .so 1 0 p.v.rs.length 0),(13,ib p.v.rs.length),(14,ib d),(23, .so (fam 20 (2*d+1)) 0 x0.es.length 0),(24,ib x0.es.length),(25,ib (k+1:Nat))] 92) (zax 20 220 (gP false q') (stR (.row (pRow 20 1 q') 106 0) (.row (flatI (rcP false 20) 0 q'.v.rs) 66 10) (.row (rcP false 20 d x0) 66 0) st'))→
       Weak 2 t s (slots [(0, .ptr 0 0),(2,ib d),(3, .ptr 2 0),(4,stS 3 (it (entryStep d x0.es) (q0,[]) (k+1)).2),(12, .so 1 0 p.v.rs.length 0),(13,ib p.v.rs.length),(14,ib d),(23, .so (fam 20 (2*d+1)) 0 x0.es.length 0),(24,ib x0.es.length),(25,ib (k+1:Nat))] 92) (zax 20 220 (gP false (it (entryStep d x0.es) (q0,[]) (k+1)).1) (stR (.row (pRow 20 1 (it (entryStep d x0.es) (q0,[]) (k+1)).1) 106 0) (.row (flatI (rcP false 20) 0 (it (entryStep d x0.es) (q0,[]) (k+1)).1.v.rs) 66 10) (.row (rcP false 20 d x0) 66 0) (it (entryStep d x0.es) (q0,[]) (k+1)).2)):=fun he hw=>by rw[hst2,he];exact hw
      dsimp only
      cases st with
      |nil=>
       conv=>whnf
       refine KIf.dec (fun hkl=> ?_) (fun hkl=> ?_)
       ·have hkx:k<x0.es.length:=by omega
        have hk0:(0:Int)≤(k:Nat)∧((k:Nat):Int)<(x0.es.length:Nat):=⟨by omega,by omega⟩
        have hoffk:0+((k:Nat):Int).toNat*4=k*4:=by simp
        have hxm:=at_mem En.o x0.es k hkx
        obtain⟨x,hx⟩:∃x,at_ En.o x0.es k=x:=⟨_,rfl⟩
        rw[hx] at hxm;have hen:=zjz q d [] x hqk.na hqd (a2.2 x hxm) hstl hstn;have hxf:=a3 x hxm
        obtain⟨b,hb⟩:∃b,Ck.isEntry q d [] x=b:=⟨_,rfl⟩
        rw[hb] at hen
        have hes:entryStep d x0.es (q,[]) k=if b=true then(q,[]++[x]) else(if x.f.r<(q.v.rs.length:Nat)∧(at_ Rc.o q.v.rs x.f.r.toNat).q=x.f.q then{q.note 3 d ([]:List En).length with fl:=setLast (q.note 3 d ([]:List En).length).fl x.f.r} else q.note 3 d ([]:List En).length,[]):=by
         unfold entryStep;dsimp only;rw[hx,hb];rfl
        (conv=>whnf);repeat(first|refine Need.mk ?_ ?_;exact hk0|refine RK.of (zju (enc:=aEn) (sz:=4) (fun _=>rfl) En.o hoffk rfl ((zaq (show 2*d+1<220-20 from h9)).trans hge) hkx) ?_|rw[hx]|refine KCall.lend (zF 20 [0,1]) (hen) rfl ?_ ?_;exact Wzc (zhi (Lies.mk (fun j hj=>zbd hj) (fun j hj=>zaq (by omega))) hqq96 rfl (zbA (by simp)) rfl (zbA (by simp))) (Wzc (zaa rfl) (Wzc (by unfold Wz;rfl) (Wzc (zaa rfl) Wzn))));conv=>whnf
        cases b
        ·have hb9:q.fd.length≤1000000:=by omega
         have hnk:=zk6 false q 3 d ([]:List En).length hqq96 hqk.rf.fl hb9
         have hp2:∀p∈[(192,221),(193,222)],2*d≠p.1∧2*d+1≠p.1:=by simp;omega
         have hp1:∀p∈[(192,221),(193,222)],2*d+1≠p.1:=fun p hp=>(hp2 p hp).2
         have hp3:∀p∈[(192,221),(193,222)],191<p.1:=by simp
         have hne1:(q.note 3 d ([]:List En).length).fd≠[]:=by unfold Rp.note;simp
         have hne2:(q.note 3 d ([]:List En).length).fl≠[]:=by unfold Rp.note;simp
         have hd9:True:=trivial
         by_cases hc1:x.f.r<(q.v.rs.length:Nat)
         ·have hfl:x.f.r.toNat<q.v.rs.length:=by omega
          have hfi:(0:Int)≤x.f.r∧x.f.r<(q.v.rs.length:Nat):=⟨hxf,hc1⟩
          have hoffs:0+x.f.r.toNat*10+1=x.f.r.toNat*10+1:=by simp
          by_cases hc2:(at_ Rc.o q.v.rs x.f.r.toNat).q=x.f.q
          ·have hes2:entryStep d x0.es (q,[]) k=({q.note 3 d ([]:List En).length with fl:=setLast (q.note 3 d ([]:List En).length).fl x.f.r},[]):=by rw[hes,if_neg Bool.false_ne_true,if_pos ⟨hc1,hc2⟩]
           obtain⟨m,hm⟩:∃m,(q.note 3 d ([]:List En).length).fl=m:=⟨_,rfl⟩
           have hml:m.length=q.fl.length+1:=by rw[←hm];unfold Rp.note;simp
           have hfd5:q.fl.length≤1000000:=by rw[hqk.rf.fl];exact hb9
           have hsm:Small ((m.length:Nat)-1):=⟨by omega,by omega⟩
           have hix:(0:Int)≤(m.length:Nat)-1∧((m.length:Nat):Int)-1<(m.length:Nat):=⟨by omega,by omega⟩
           have hoffl:0+(((m.length:Nat):Int)-1).toNat*1=m.length-1:=by omega
           have hjl:m.length-1<m.length:=by omega
           have hne3:m.set (m.length-1) x.f.r≠[]:=fun e=>by have:=congrArg List.length e;simp at this;rw[this] at hml;simp at hml
           rw[hm] at hes2 hne2
           (conv=>whnf);repeat(first|refine KCall.liftK [0,1] (.tup []) [.row (nRow 1 221 222 (q.note 3 d ([]:List En).length)) 106 0, .row (flatI (rcP false 20) 0 (q).v.rs) 66 10, .row (((q.note 3 d ([]:List En).length)).fd.flatMap aFd) 86 3, .row (((q.note 3 d ([]:List En).length)).fl.map ib) 3 1] (hnk) rfl (zab _ _) za0 ?_ ?_ ?_ ?_;exact⟨pF FR.L ⟨rfl,rfl⟩,rF FR.L hqq96,trivial⟩;(focus((repeat' first|exact zT|exact rfl|refine zA ?_ ?_)));exact⟨(by unfold Rn Rnl;trivial),rfl,⟨rfl,rfl, .inl (zfR rfl rfl rfl)⟩,⟨rfl,rfl, .inl (zb1 FN.L hqq96)⟩,⟨rfl,rfl, .inr ⟨rfl,zbR _⟩⟩,⟨rfl,rfl, .inr ⟨rfl,zbH _⟩⟩,trivial⟩|rw[hm]|refine KIf.t (decide_eq_true hc1) ?_|refine Need.mk ?_ ?_;(focus(first|exact hfi|exact hsm|exact hix))|refine RK.of (zaP (zat false 20) Rc.o (k:=1) hoffs rfl rfl hfl (by decide) rfl) ?_|refine KIf.t (decide_eq_true hc2) ?_|refine Ck.storeM ib x.f.r rfl hoffl rfl rfl rfl rfl rfl hjl ?_|refine KIf.f rfl ?_|refine Need.mk (p:=zah _=true) ?_ ?_;decide+kernel|refine Need.mk ?_ ?_;((constructor<;>omega)));conv=>whnf
           refine⟨k+1,by omega,by dsimp only;omega,stay2 hes2 ?_⟩;refine Weak.ofG [0,1,2] [] [(192,221),(193,222)] rfl rfl rfl rfl ?_ ?_ ?_ ?_
           ·exact⟨⟨rfl,rfl,WL.row (zfh ⟨rfl,rfl⟩ ⟨rfl,rfl,rfl,rfl,rfl⟩ rfl (by rw[hm];exact zd9 _ _) hne1 (hne3))⟩,⟨rfl,rfl,WL.row (zdo hqq96 hp3)⟩,⟨rfl,rfl,WL.row (zcj hd96 hp2)⟩,trivial⟩
           ·exact famN rfl
           ·exact ovN rfl rfl rfl rfl hne1 (hne3)
           ·(repeat' first|exact zT|exact so_W h9 hp1|exact rfl|refine zA ?_ ?_)
          ·have hes2:entryStep d x0.es (q,[]) k=(q.note 3 d ([]:List En).length,[]):=by rw[hes,if_neg Bool.false_ne_true,if_neg (fun h=>hc2 h.2)]
           (conv=>whnf);repeat(first|refine KCall.liftK [0,1] (.tup []) [.row (nRow 1 221 222 (q.note 3 d ([]:List En).length)) 106 0, .row (flatI (rcP false 20) 0 (q).v.rs) 66 10, .row (((q.note 3 d ([]:List En).length)).fd.flatMap aFd) 86 3, .row (((q.note 3 d ([]:List En).length)).fl.map ib) 3 1] (hnk) rfl (zab _ _) za0 ?_ ?_ ?_ ?_;exact⟨pF FR.L ⟨rfl,rfl⟩,rF FR.L hqq96,trivial⟩;(focus((repeat' first|exact zT|exact rfl|refine zA ?_ ?_)));exact⟨(by unfold Rn Rnl;trivial),rfl,⟨rfl,rfl, .inl (zfR rfl rfl rfl)⟩,⟨rfl,rfl, .inl (zb1 FN.L hqq96)⟩,⟨rfl,rfl, .inr ⟨rfl,zbR _⟩⟩,⟨rfl,rfl, .inr ⟨rfl,zbH _⟩⟩,trivial⟩|refine KIf.t (decide_eq_true hc1) ?_|refine Need.mk ?_ ?_;exact hfi|refine RK.of (zaP (zat false 20) Rc.o (k:=1) hoffs rfl rfl hfl (by decide) rfl) ?_|refine KIf.f (decide_eq_false hc2) ?_|refine KIf.f rfl ?_|refine Need.mk (p:=zah _=true) ?_ ?_;decide+kernel|refine Need.mk ?_ ?_;((constructor<;>omega)));conv=>whnf
           refine⟨k+1,by omega,by dsimp only;omega,stay2 hes2 ?_⟩;refine Weak.ofG [0,1,2] [] [(192,221),(193,222)] rfl rfl rfl rfl ?_ ?_ ?_ ?_
           ·exact⟨⟨rfl,rfl,WL.row (zfh ⟨rfl,rfl⟩ ⟨rfl,rfl,rfl,rfl,rfl⟩ rfl (rfl) hne1 (hne2))⟩,⟨rfl,rfl,WL.row (zdo hqq96 hp3)⟩,⟨rfl,rfl,WL.row (zcj hd96 hp2)⟩,trivial⟩
           ·exact famN rfl
           ·exact ovN rfl rfl rfl rfl hne1 (hne2)
           ·(repeat' first|exact zT|exact so_W h9 hp1|exact rfl|refine zA ?_ ?_)
         ·have hes2:entryStep d x0.es (q,[]) k=(q.note 3 d ([]:List En).length,[]):=by rw[hes,if_neg Bool.false_ne_true,if_neg (fun h=>hc1 h.1)]
          (conv=>whnf);repeat(first|refine KCall.liftK [0,1] (.tup []) [.row (nRow 1 221 222 (q.note 3 d ([]:List En).length)) 106 0, .row (flatI (rcP false 20) 0 (q).v.rs) 66 10, .row (((q.note 3 d ([]:List En).length)).fd.flatMap aFd) 86 3, .row (((q.note 3 d ([]:List En).length)).fl.map ib) 3 1] (hnk) rfl (zab _ _) za0 ?_ ?_ ?_ ?_;exact⟨pF FR.L ⟨rfl,rfl⟩,rF FR.L hqq96,trivial⟩;(focus((repeat' first|exact zT|exact rfl|refine zA ?_ ?_)));exact⟨(by unfold Rn Rnl;trivial),rfl,⟨rfl,rfl, .inl (zfR rfl rfl rfl)⟩,⟨rfl,rfl, .inl (zb1 FN.L hqq96)⟩,⟨rfl,rfl, .inr ⟨rfl,zbR _⟩⟩,⟨rfl,rfl, .inr ⟨rfl,zbH _⟩⟩,trivial⟩|refine KIf.f (decide_eq_false hc1) ?_|refine KIf.f rfl ?_|refine Need.mk (p:=zah _=true) ?_ ?_;decide+kernel|refine Need.mk ?_ ?_;((constructor<;>omega)));conv=>whnf
          refine⟨k+1,by omega,by dsimp only;omega,stay2 hes2 ?_⟩;refine Weak.ofG [0,1,2] [] [(192,221),(193,222)] rfl rfl rfl rfl ?_ ?_ ?_ ?_
          ·exact⟨⟨rfl,rfl,WL.row (zfh ⟨rfl,rfl⟩ ⟨rfl,rfl,rfl,rfl,rfl⟩ rfl (rfl) hne1 (hne2))⟩,⟨rfl,rfl,WL.row (zdo hqq96 hp3)⟩,⟨rfl,rfl,WL.row (zcj hd96 hp2)⟩,trivial⟩
          ·exact famN rfl
          ·exact ovN rfl rfl rfl rfl hne1 (hne2)
          ·(repeat' first|exact zT|exact so_W h9 hp1|exact rfl|refine zA ?_ ?_)
        ·have hes2:entryStep d x0.es (q,[]) k=(q,[x]):=hes
         (conv=>whnf);repeat((first|(refine NCase.s (Nat.succ_ne_zero _) ?_;conv=>whnf)|(refine KIf.t rfl ?_;conv=>whnf)|(refine Need.mk ?_ ?_;(first|trivial|(constructor<;>omega));conv=>whnf)))
         refine⟨k+1,by omega,by dsimp only;omega,stay2 hes2 ?_⟩;refine Weak.ofG [0,1,2,222] [] [] rfl rfl rfl rfl ?_ ?_ ?_ ?_
         ·exact⟨pQ rfl rfl,rQ hqq96,⟨rfl,rfl,WL.row (zcj hd96 zN)⟩,⟨rfl,rfl, .same rfl rfl⟩,trivial⟩
         ·exact gQ
         ·exact zN
         ·(repeat' first|exact zT|exact so_W h9 zN|exact rfl|refine zA ?_ ?_)
       ·have hke:k=x0.es.length:=by omega
        have hls4:=hfin2 hke;rw[zae,hqx] at hls4
        have hd1:(0:Int)≤(d:Nat)∧((d:Nat):Int)<(q.v.rs.length:Nat):=⟨by omega,by omega⟩
        rw[←hqx] at hls4
        (conv=>whnf);repeat(first|refine Need.mk ?_ ?_;exact hd1|refine zbC (zat false 20) Rc.o (k:=9) [.sc (.slice none 0 0)] (rcE 20 d (at_ Rc.o q.v.rs d) (.sc (.slice none 0 0))) hoff9 rfl rfl rfl rfl rfl rfl hqd (by decide) rfl ?_|refine Need.mk ?_ ?_;((constructor<;>omega)));conv=>whnf
        refine⟨d+1,by omega,by dsimp only;omega,stay hls4 ?_⟩;refine Weak.ofG [0,1] [] [] rfl rfl rfl rfl ?_ ?_ ?_ ?_
        ·refine⟨⟨rfl,rfl,by rw[zbp];exact WL.row (zdp ⟨rfl,rfl⟩ zN)⟩,⟨rfl,rfl,WL.row (zbf (i:=d) hqq96 List.length_set (fun k hk=>zau _ _ _ _ _ (Ne.symm hk)) zN ?_)⟩,trivial⟩;show WL _ _ _ (rcP false 20 d (at_ Rc.o (q.v.rs.set d _) d)) _;rw[zal _ _ _ _ hqd];exact rcE_nil (WL.cons (zlV hd96 zN) WL.nil)
        ·exact famE0 hqd
        ·exact zN
        ·(repeat' first|exact zT|exact rfl|refine zA ?_ ?_)
      |cons y st=>
       conv=>whnf
       refine KIf.dec (fun hkl=> ?_) (fun hkl=> ?_)
       ·have hkx:k<x0.es.length:=by omega
        have hk0:(0:Int)≤(k:Nat)∧((k:Nat):Int)<(x0.es.length:Nat):=⟨by omega,by omega⟩
        have hoffk:0+((k:Nat):Int).toNat*4=k*4:=by simp
        have hxm:=at_mem En.o x0.es k hkx
        obtain⟨x,hx⟩:∃x,at_ En.o x0.es k=x:=⟨_,rfl⟩
        rw[hx] at hxm;have hen:=zjz q d (y::st) x hqk.na hqd (a2.2 x hxm) hstl hstn;have hxf:=a3 x hxm
        obtain⟨b,hb⟩:∃b,Ck.isEntry q d (y::st) x=b:=⟨_,rfl⟩
        rw[hb] at hen
        have hes:entryStep d x0.es (q,(y::st)) k=if b=true then(q,(y::st)++[x]) else(if x.f.r<(q.v.rs.length:Nat)∧(at_ Rc.o q.v.rs x.f.r.toNat).q=x.f.q then{q.note 3 d ((y::st):List En).length with fl:=setLast (q.note 3 d ((y::st):List En).length).fl x.f.r} else q.note 3 d ((y::st):List En).length,(y::st)):=by
         unfold entryStep;dsimp only;rw[hx,hb];rfl
        (conv=>whnf);repeat(first|refine Need.mk ?_ ?_;exact hk0|refine RK.of (zju (enc:=aEn) (sz:=4) (fun _=>rfl) En.o hoffk rfl ((zaq (show 2*d+1<220-20 from h9)).trans hge) hkx) ?_|rw[hx]|refine KCall.lend (zF 20 [0,1,3]) (hen) rfl ?_ ?_;exact Wzc (zhi (Lies.mk (fun j hj=>zbd hj) (fun j hj=>zaq (by omega))) hqq96 rfl (zbA (by simp)) rfl (zbA (by simp))) (Wzc (zaa rfl) (Wzc (zmB rfl (zbA (by simp)) rfl) (Wzc (zaa rfl) Wzn))));conv=>whnf
        cases b
        ·have hb9:q.fd.length≤1000000:=by omega
         have hnk:=zk6 false q 3 d ((y::st):List En).length hqq96 hqk.rf.fl hb9
         have hp2:∀p∈[(192,221),(193,222)],2*d≠p.1∧2*d+1≠p.1:=by simp;omega
         have hp1:∀p∈[(192,221),(193,222)],2*d+1≠p.1:=fun p hp=>(hp2 p hp).2
         have hp3:∀p∈[(192,221),(193,222)],191<p.1:=by simp
         have hne1:(q.note 3 d ((y::st):List En).length).fd≠[]:=by unfold Rp.note;simp
         have hne2:(q.note 3 d ((y::st):List En).length).fl≠[]:=by unfold Rp.note;simp
         have hd9:True:=trivial
         by_cases hc1:x.f.r<(q.v.rs.length:Nat)
         ·have hfl:x.f.r.toNat<q.v.rs.length:=by omega
          have hfi:(0:Int)≤x.f.r∧x.f.r<(q.v.rs.length:Nat):=⟨hxf,hc1⟩
          have hoffs:0+x.f.r.toNat*10+1=x.f.r.toNat*10+1:=by simp
          by_cases hc2:(at_ Rc.o q.v.rs x.f.r.toNat).q=x.f.q
          ·have hes2:entryStep d x0.es (q,(y::st)) k=({q.note 3 d ((y::st):List En).length with fl:=setLast (q.note 3 d ((y::st):List En).length).fl x.f.r},(y::st)):=by rw[hes,if_neg Bool.false_ne_true,if_pos ⟨hc1,hc2⟩]
           obtain⟨m,hm⟩:∃m,(q.note 3 d ((y::st):List En).length).fl=m:=⟨_,rfl⟩
           have hml:m.length=q.fl.length+1:=by rw[←hm];unfold Rp.note;simp
           have hfd5:q.fl.length≤1000000:=by rw[hqk.rf.fl];exact hb9
           have hsm:Small ((m.length:Nat)-1):=⟨by omega,by omega⟩
           have hix:(0:Int)≤(m.length:Nat)-1∧((m.length:Nat):Int)-1<(m.length:Nat):=⟨by omega,by omega⟩
           have hoffl:0+(((m.length:Nat):Int)-1).toNat*1=m.length-1:=by omega
           have hjl:m.length-1<m.length:=by omega
           have hne3:m.set (m.length-1) x.f.r≠[]:=fun e=>by have:=congrArg List.length e;simp at this;rw[this] at hml;simp at hml
           rw[hm] at hes2 hne2
           (conv=>whnf);repeat(first|refine KCall.liftK [0,1] (.tup []) [.row (nRow 1 221 222 (q.note 3 d ((y::st):List En).length)) 106 0, .row (flatI (rcP false 20) 0 (q).v.rs) 66 10, .row (((q.note 3 d ((y::st):List En).length)).fd.flatMap aFd) 86 3, .row (((q.note 3 d ((y::st):List En).length)).fl.map ib) 3 1] (hnk) rfl (zab _ _) za0 ?_ ?_ ?_ ?_;exact⟨pF FR.L ⟨rfl,rfl⟩,rF FR.L hqq96,trivial⟩;(focus((repeat' first|exact zT|exact rfl|refine zA ?_ ?_)));exact⟨(by unfold Rn Rnl;trivial),rfl,⟨rfl,rfl, .inl (zfR rfl rfl rfl)⟩,⟨rfl,rfl, .inl (zb1 FN.L hqq96)⟩,⟨rfl,rfl, .inr ⟨rfl,zbR _⟩⟩,⟨rfl,rfl, .inr ⟨rfl,zbH _⟩⟩,trivial⟩|rw[hm]|refine KIf.t (decide_eq_true hc1) ?_|refine Need.mk ?_ ?_;(focus(first|exact hfi|exact hsm|exact hix))|refine RK.of (zaP (zat false 20) Rc.o (k:=1) hoffs rfl rfl hfl (by decide) rfl) ?_|refine KIf.t (decide_eq_true hc2) ?_|refine Ck.storeM ib x.f.r rfl hoffl rfl rfl rfl rfl rfl hjl ?_|refine KIf.f rfl ?_|refine Need.mk (p:=zah _=true) ?_ ?_;decide+kernel|refine Need.mk ?_ ?_;((constructor<;>omega)));conv=>whnf
           refine⟨k+1,by omega,by dsimp only;omega,stay2 hes2 ?_⟩;refine Weak.ofG [0,1,2,3] [] [(192,221),(193,222)] rfl rfl rfl rfl ?_ ?_ ?_ ?_
           ·exact⟨⟨rfl,rfl,WL.row (zfh ⟨rfl,rfl⟩ ⟨rfl,rfl,rfl,rfl,rfl⟩ rfl (by rw[hm];exact zd9 _ _) hne1 (hne3))⟩,⟨rfl,rfl,WL.row (zdo hqq96 hp3)⟩,⟨rfl,rfl,WL.row (zcj hd96 hp2)⟩,⟨rfl,rfl, .same rfl (zbx _)⟩,trivial⟩
           ·exact famN rfl
           ·exact ovN rfl rfl rfl rfl hne1 (hne3)
           ·(repeat' first|exact zT|exact so_W h9 hp1|exact rfl|refine zA ?_ ?_)
          ·have hes2:entryStep d x0.es (q,(y::st)) k=(q.note 3 d ((y::st):List En).length,(y::st)):=by rw[hes,if_neg Bool.false_ne_true,if_neg (fun h=>hc2 h.2)]
           (conv=>whnf);repeat(first|refine KCall.liftK [0,1] (.tup []) [.row (nRow 1 221 222 (q.note 3 d ((y::st):List En).length)) 106 0, .row (flatI (rcP false 20) 0 (q).v.rs) 66 10, .row (((q.note 3 d ((y::st):List En).length)).fd.flatMap aFd) 86 3, .row (((q.note 3 d ((y::st):List En).length)).fl.map ib) 3 1] (hnk) rfl (zab _ _) za0 ?_ ?_ ?_ ?_;exact⟨pF FR.L ⟨rfl,rfl⟩,rF FR.L hqq96,trivial⟩;(focus((repeat' first|exact zT|exact rfl|refine zA ?_ ?_)));exact⟨(by unfold Rn Rnl;trivial),rfl,⟨rfl,rfl, .inl (zfR rfl rfl rfl)⟩,⟨rfl,rfl, .inl (zb1 FN.L hqq96)⟩,⟨rfl,rfl, .inr ⟨rfl,zbR _⟩⟩,⟨rfl,rfl, .inr ⟨rfl,zbH _⟩⟩,trivial⟩|refine KIf.t (decide_eq_true hc1) ?_|refine Need.mk ?_ ?_;exact hfi|refine RK.of (zaP (zat false 20) Rc.o (k:=1) hoffs rfl rfl hfl (by decide) rfl) ?_|refine KIf.f (decide_eq_false hc2) ?_|refine KIf.f rfl ?_|refine Need.mk (p:=zah _=true) ?_ ?_;decide+kernel|refine Need.mk ?_ ?_;((constructor<;>omega)));conv=>whnf
           refine⟨k+1,by omega,by dsimp only;omega,stay2 hes2 ?_⟩;refine Weak.ofG [0,1,2,3] [] [(192,221),(193,222)] rfl rfl rfl rfl ?_ ?_ ?_ ?_
           ·exact⟨⟨rfl,rfl,WL.row (zfh ⟨rfl,rfl⟩ ⟨rfl,rfl,rfl,rfl,rfl⟩ rfl (rfl) hne1 (hne2))⟩,⟨rfl,rfl,WL.row (zdo hqq96 hp3)⟩,⟨rfl,rfl,WL.row (zcj hd96 hp2)⟩,⟨rfl,rfl, .same rfl (zbx _)⟩,trivial⟩
           ·exact famN rfl
           ·exact ovN rfl rfl rfl rfl hne1 (hne2)
           ·(repeat' first|exact zT|exact so_W h9 hp1|exact rfl|refine zA ?_ ?_)
         ·have hes2:entryStep d x0.es (q,(y::st)) k=(q.note 3 d ((y::st):List En).length,(y::st)):=by rw[hes,if_neg Bool.false_ne_true,if_neg (fun h=>hc1 h.1)]
          (conv=>whnf);repeat(first|refine KCall.liftK [0,1] (.tup []) [.row (nRow 1 221 222 (q.note 3 d ((y::st):List En).length)) 106 0, .row (flatI (rcP false 20) 0 (q).v.rs) 66 10, .row (((q.note 3 d ((y::st):List En).length)).fd.flatMap aFd) 86 3, .row (((q.note 3 d ((y::st):List En).length)).fl.map ib) 3 1] (hnk) rfl (zab _ _) za0 ?_ ?_ ?_ ?_;exact⟨pF FR.L ⟨rfl,rfl⟩,rF FR.L hqq96,trivial⟩;(focus((repeat' first|exact zT|exact rfl|refine zA ?_ ?_)));exact⟨(by unfold Rn Rnl;trivial),rfl,⟨rfl,rfl, .inl (zfR rfl rfl rfl)⟩,⟨rfl,rfl, .inl (zb1 FN.L hqq96)⟩,⟨rfl,rfl, .inr ⟨rfl,zbR _⟩⟩,⟨rfl,rfl, .inr ⟨rfl,zbH _⟩⟩,trivial⟩|refine KIf.f (decide_eq_false hc1) ?_|refine KIf.f rfl ?_|refine Need.mk (p:=zah _=true) ?_ ?_;decide+kernel|refine Need.mk ?_ ?_;((constructor<;>omega)));conv=>whnf
          refine⟨k+1,by omega,by dsimp only;omega,stay2 hes2 ?_⟩;refine Weak.ofG [0,1,2,3] [] [(192,221),(193,222)] rfl rfl rfl rfl ?_ ?_ ?_ ?_
          ·exact⟨⟨rfl,rfl,WL.row (zfh ⟨rfl,rfl⟩ ⟨rfl,rfl,rfl,rfl,rfl⟩ rfl (rfl) hne1 (hne2))⟩,⟨rfl,rfl,WL.row (zdo hqq96 hp3)⟩,⟨rfl,rfl,WL.row (zcj hd96 hp2)⟩,⟨rfl,rfl, .same rfl (zbx _)⟩,trivial⟩
          ·exact famN rfl
          ·exact ovN rfl rfl rfl rfl hne1 (hne2)
          ·(repeat' first|exact zT|exact so_W h9 hp1|exact rfl|refine zA ?_ ?_)
        ·have hes2:entryStep d x0.es (q,y::st) k=(q,y::st++[x]):=hes
         have hsz:((y::st).length+1)*40≤2^47∧(y::st).length+1≤2^60:=by constructor<;>omega
         (conv=>whnf);repeat(first|refine Need.mk ?_ ?_;(focus(first|exact hsz|exact es_len (y::st)))|refine NCase.s (Nat.succ_ne_zero _) ?_|refine KIf.t rfl ?_|refine Need.mk ?_ ?_;(first|trivial|(constructor<;>omega)));conv=>whnf
         refine⟨k+1,by omega,by dsimp only;omega,stay2 hes2 ?_⟩;rw[stS_app,stR_app];refine Weak.ofG [0,1,2,222] [] [] rfl rfl rfl rfl ?_ ?_ ?_ ?_
         ·exact⟨pQ rfl rfl,rQ hqq96,⟨rfl,rfl,WL.row (zcj hd96 zN)⟩,⟨rfl,rfl, .same (by rw[List.flatMap_append];rfl) (note_ov.nmc (zbx _) rfl)⟩,trivial⟩
         ·exact gQ
         ·exact zN
         ·(repeat' first|exact zT|exact so_W h9 zN|exact rfl|refine zA ?_ ?_)
       ·have hke:k=x0.es.length:=by omega
        have hls4:=hfin2 hke;rw[zae,hqx] at hls4
        have hd1:(0:Int)≤(d:Nat)∧((d:Nat):Int)<(q.v.rs.length:Nat):=⟨by omega,by omega⟩
        rw[←hqx] at hls4
        (conv=>whnf);repeat(first|refine Need.mk ?_ ?_;exact hd1|refine zbC (zat false 20) Rc.o (k:=9) [.so 3 0 (st.length+1) 0] (rcE 20 d (at_ Rc.o q.v.rs d) (.so 3 0 (st.length+1) 0)) hoff9 rfl rfl rfl rfl rfl rfl hqd (by decide) rfl ?_|refine Need.mk ?_ ?_;((constructor<;>omega)));conv=>whnf
        refine⟨d+1,by omega,by dsimp only;omega,stay hls4 ?_⟩;refine Weak.ofG [0,1] [] [(2*d+1,3)] rfl rfl rfl rfl ?_ ?_ ?_ ?_
        ·refine⟨⟨rfl,rfl,by rw[zbp];exact WL.row (zdp ⟨rfl,rfl⟩ (znt hd96))⟩,⟨rfl,rfl,WL.row (zbf (i:=d) hqq96 List.length_set (fun k hk=>zau _ _ _ _ _ (Ne.symm hk)) zol ?_)⟩,trivial⟩;show WL _ _ _ (rcP false 20 d (at_ Rc.o (q.v.rs.set d _) d)) _;rw[zal _ _ _ _ hqd];exact zmo hd96 rfl (by simp)
        ·exact famE hqd rfl
        ·exact zns hqd hd96 (by simp) rfl ⟨[],by rw[List.append_nil]⟩
        ·(repeat' first|exact zT|exact rfl|refine zA ?_ ?_)
  ·conv=>whnf
   rw[←hfin (by omega)];refine⟨?_⟩
   (refine Weak.ofG [0,1] [] [] rfl rfl rfl rfl ?_ ?_ ?_ ?_;exact⟨pQ rfl rfl,rQ hq96,trivial⟩;exact gQ;exact zN;(focus((repeat' first|exact zT|refine zA ?_ ?_))))
theorem zhr (hIt:zjY) (v:Pt) (h:Ready v):HG Tryz.prog 0 20 220 56 [aPts v] (fun _=>none) [] (.ptr 0 0)
  (gP false (zai v)) [.row (pRow 20 1 (zai v)) 106 0, .row (flatI (rcP false 20) 0 (zai v).v.rs) 66 10]:=by
 obtain⟨n,hn⟩:∃n,v.rs.length=n:=⟨_,rfl⟩
 have hps:=passes h;have h5:=h.n.1;have h96:=h.n.2;have hc:=copied_h v h96 (by omega) h.al.2 h.ds.2 (fun x hx=>⟨by have:=(h.ns x hx).1;omega,by have:=(h.ss x hx).1;omega,by have:=(h.es x hx).1;omega,fun y hy=>((h.ss x hx).2 y hy).1⟩);unfold zai;rw[hn] at hps h5 h96
 obtain⟨p0,e0⟩:∃p:Ck.Rp,p=⟨v,[],[]⟩:=⟨_,rfl⟩
 rw[←e0] at hps hc⊢
 obtain⟨p1,e1⟩:∃p,p=lostParts p0:=⟨_,rfl⟩
 rw[←e1] at hps⊢
 obtain⟨p2,e2⟩:∃p,p=badRuns p1:=⟨_,rfl⟩
 rw[←e2] at hps⊢
 obtain⟨p3,e3⟩:∃p,p=descriptors p2:=⟨_,rfl⟩
 rw[←e3] at hps⊢
 obtain⟨p4,e4⟩:∃p,p=badEntries p3:=⟨_,rfl⟩
 rw[←e4] at hps⊢
 obtain⟨p5,e5⟩:∃p,p=badNames p4:=⟨_,rfl⟩
 rw[←e5] at hps⊢
 obtain⟨p6,e6⟩:∃p,p=orphans p5:=⟨_,rfl⟩
 rw[←e6] at hps⊢
 obtain⟨p7,e7⟩:∃p,p=cyclesR p6:=⟨_,rfl⟩
 rw[←e7] at hps⊢
 obtain⟨p8,e8⟩:∃p,p=links p7:=⟨_,rfl⟩
 rw[←e8] at hps⊢
 obtain⟨p9,e9⟩:∃p,p=sizes p8:=⟨_,rfl⟩
 rw[←e9] at hps⊢;obtain⟨f0,⟨f1,g1⟩,⟨c1,al1⟩,⟨f2,g2⟩,ds2,⟨f3,g3⟩,⟨f4,g4⟩,⟨f5,g5,L5⟩,⟨f6,g6,L6,r6⟩,⟨f7,g7⟩,⟨f8,g8⟩,⟨f9,g9⟩,⟨c9,al9,mp9,ds9⟩,s9⟩:=hps
 have hv0:p0.v=v:=by rw[e0]
 have k1:HG _ _ _ _ _ _ _ _ _ _ _:=lost_h n false p0 (by rw[e0];exact f0) h96 (by rw[e0];exact Nat.zero_le _);rw[←e1] at k1;have k2:HG _ _ _ _ _ _ _ _ _ _ _:=runs_h n v.c.toNat p1 f1 (by rw[c1]) h96 (by rw[c1];exact h.c) (by unfold AlOk;rw[al1,c1];exact h.al.1) (by rw[al1];exact h.al.2) (by omega);rw[←e2] at k2;have k3:HG _ _ _ _ _ _ _ _ _ _ _:=desc_h n false p2 f2 h96 (by omega) (by rw[ds2];exact h.ds);rw[←e3] at k3;have k4:=entries_h n p3 f3 h96 (by omega);rw[←e4] at k4;have k5:=names_h n p4 f4 h96 (by omega);rw[←e5] at k5;have k6:=orphans_h hIt n 700 p5 f5 h96 (by omega) L5 (by omega);rw[←e6] at k6;have k7:=cycles_h hIt n 780 p6 f6 h96 h5 (by omega) L6 (by omega) r6;rw[←e7] at k7;have k8:=links_h n false p7 f7.rf h96 (by omega) (fun x hx=>Nat.le_trans (f7.na.ns x hx).1 (by omega));rw[←e8] at k8;have k9:=sizes_h n false p8 f8 h96 (by omega);rw[←e9] at k9
 have ho9:Okv p9.v:=⟨by rw[c9];exact h.c,by have:=f9.n;omega,fun x hx=>Nat.le_trans (s9 x hx).1 (by omega),by rw[al9];exact h.al.2,fun r hr=>by
  rw[al9] at hr;have:=h.al.1 r hr;have:=h.c
  exact⟨by omega,by omega,by omega⟩,fun x hx y hy=>⟨((s9 x hx).2 y hy).1,fun r hr=>by
  have:=((s9 x hx).2 y hy).2.2.2 r hr
  exact⟨this.1,this.2.1,this.2.2.2⟩⟩⟩
 have k10:=bits_h n ((v.c+7)/8).toNat false p9 f9 h96 ho9 (by rw[mp9];exact h.mp) (by rw[c9]) (by omega)
 obtain⟨p10,e10⟩:∃p,p=Ck.bits p9:=⟨_,rfl⟩
 rw[←e10] at k10⊢
 have q0:p0.v.rs.length≤96:=(by rw[e0];show v.rs.length≤96;omega)
 have q1:p1.v.rs.length≤96:=(by have:p1.v.rs.length=n:=f1.rf.n;omega)
 have q2:p2.v.rs.length≤96:=(by have:=f2.n;omega)
 have q3:p3.v.rs.length≤96:=(by have:=f3.rf.n;omega)
 have q4:p4.v.rs.length≤96:=(by have:=f4.rf.n;omega)
 have q5:p5.v.rs.length≤96:=(by have:=f5.rf.n;omega)
 have q6:p6.v.rs.length≤96:=(by have:=f6.rf.n;omega)
 have q7:p7.v.rs.length≤96:=(by have:=f7.rf.n;omega)
 have q8:p8.v.rs.length≤96:=(by have:=f8.rf.n;omega)
 have q9:p9.v.rs.length≤96:=(by have:=f9.n;omega)
 have q10:p10.v.rs.length≤96:=by rw[e10];show(it (zar (Ck.used p9.v)) p9 p9.v.c.toNat).v.rs.length≤96;rw[(ze0 (Ck.used p9.v) p9 f9.fl _).1];exact q9
 subst e0;refine HG.of kmix (by omega) ?_
 conv=>whnf
 refine KCall.liftG [] (.agg [ib v.c,LS 2 aRun Run.o v.al, .so 421 0 v.rs.length 0,LS 1 aI 0 v.ds,tb v.mp]) [.row (flatI (rcP false 221) 0 v.rs) 66 10] (hc) rfl (fun _ _ h=>by cases h) (zab _ _) ?_ ?_ ?_ ?_
 ·exact trivial
 ·exact⟨zcX _ rfl,zbv rfl⟩
 ·exact⟨by(unfold Rn;exact Rnl.cons Rn.sc (Rnl.cons Rn.lst (Rnl.cons (by unfold Rn;rfl) (Rnl.cons Rn.lst (Rnl.cons Rn.sc Rnl.nil))))),rfl,⟨rfl,rfl, .inl (zay h.n.2)⟩,trivial⟩
 (conv=>whnf);repeat(first|refine KCall.liftG [441,421] (.tup []) [.row (pRow 442 421 p1) 106 0, .row (flatI (rcP false 442) 0 p1.v.rs) 66 10] (k1) rfl (zab _ _) (zab _ _) ?_ ?_ ?_ ?_;exact⟨pF FR.G ⟨rfl,rfl⟩,rF FR.G q0,trivial⟩;(focus((repeat' first|exact zT|exact rfl|refine zA ?_ ?_)));exact⟨(by unfold Rn Rnl;trivial),rfl,⟨⟨rfl,rfl, .inl (zaA rfl)⟩,⟨rfl,rfl, .inl (zay q1)⟩,trivial⟩⟩|refine KCall.liftG [441,421] (.tup []) [.row (pRow 660 421 p2) 106 0, .row (flatI (rcP false 660) 0 p2.v.rs) 66 10] (k2) rfl (zab _ _) (zab _ _) ?_ ?_ ?_ ?_;exact⟨pF FR.G ⟨rfl,rfl⟩,rF FR.G q1,trivial⟩;(focus((repeat' first|exact zT|exact rfl|refine zA ?_ ?_)));exact⟨(by unfold Rn Rnl;trivial),rfl,⟨⟨rfl,rfl, .inl (zaA rfl)⟩,⟨rfl,rfl, .inl (zay q2)⟩,trivial⟩⟩|refine KCall.liftG [441,421] (.tup []) [.row (pRow 878 421 p3) 106 0, .row (flatI (rcP false 878) 0 p3.v.rs) 66 10] (k3) rfl (zab _ _) (zab _ _) ?_ ?_ ?_ ?_;exact⟨pF FR.G ⟨rfl,rfl⟩,rF FR.G q2,trivial⟩;(focus((repeat' first|exact zT|exact rfl|refine zA ?_ ?_)));exact⟨(by unfold Rn Rnl;trivial),rfl,⟨⟨rfl,rfl, .inl (zaA rfl)⟩,⟨rfl,rfl, .inl (zay q3)⟩,trivial⟩⟩|refine KCall.liftG [441,421] (.tup []) [.row (pRow 1096 421 p4) 106 0, .row (flatI (rcP false 1096) 0 p4.v.rs) 66 10] (k4) rfl (zab _ _) (zab _ _) ?_ ?_ ?_ ?_;exact⟨pF FR.G ⟨rfl,rfl⟩,rF FR.G q3,trivial⟩;(focus((repeat' first|exact zT|exact rfl|refine zA ?_ ?_)));exact⟨(by unfold Rn Rnl;trivial),rfl,⟨⟨rfl,rfl, .inl (zaA rfl)⟩,⟨rfl,rfl, .inl (zay q4)⟩,trivial⟩⟩|refine KCall.liftG [441,421] (.tup []) [.row (pRow 1314 421 p5) 106 0, .row (flatI (rcP false 1314) 0 p5.v.rs) 66 10] (k5) rfl (zab _ _) (zab _ _) ?_ ?_ ?_ ?_;exact⟨pF FR.G ⟨rfl,rfl⟩,rF FR.G q4,trivial⟩;(focus((repeat' first|exact zT|exact rfl|refine zA ?_ ?_)));exact⟨(by unfold Rn Rnl;trivial),rfl,⟨⟨rfl,rfl, .inl (zaA rfl)⟩,⟨rfl,rfl, .inl (zay q5)⟩,trivial⟩⟩|refine KCall.liftG [441,421] (.tup []) [.row (pRow 1532 421 p6) 106 0, .row (flatI (rcP false 1532) 0 p6.v.rs) 66 10] (k6) rfl (zab _ _) (zab _ _) ?_ ?_ ?_ ?_;exact⟨pF FR.G ⟨rfl,rfl⟩,rF FR.G q5,trivial⟩;(focus((repeat' first|exact zT|exact rfl|refine zA ?_ ?_)));exact⟨(by unfold Rn Rnl;trivial),rfl,⟨⟨rfl,rfl, .inl (zaA rfl)⟩,⟨rfl,rfl, .inl (zay q6)⟩,trivial⟩⟩|refine KCall.liftG [441,421] (.tup []) [.row (pRow 1750 421 p7) 106 0, .row (flatI (rcP false 1750) 0 p7.v.rs) 66 10] (k7) rfl (zab _ _) (zab _ _) ?_ ?_ ?_ ?_;exact⟨pF FR.G ⟨rfl,rfl⟩,rF FR.G q6,trivial⟩;(focus((repeat' first|exact zT|exact rfl|refine zA ?_ ?_)));exact⟨(by unfold Rn Rnl;trivial),rfl,⟨⟨rfl,rfl, .inl (zaA rfl)⟩,⟨rfl,rfl, .inl (zay q7)⟩,trivial⟩⟩|refine KCall.liftG [441,421] (.tup []) [.row (pRow 1968 421 p8) 106 0, .row (flatI (rcP false 1968) 0 p8.v.rs) 66 10] (k8) rfl (zab _ _) (zab _ _) ?_ ?_ ?_ ?_;exact⟨pF FR.G ⟨rfl,rfl⟩,rF FR.G q7,trivial⟩;(focus((repeat' first|exact zT|exact rfl|refine zA ?_ ?_)));exact⟨(by unfold Rn Rnl;trivial),rfl,⟨⟨rfl,rfl, .inl (zaA rfl)⟩,⟨rfl,rfl, .inl (zay q8)⟩,trivial⟩⟩|refine KCall.liftG [441,421] (.tup []) [.row (pRow 2186 421 p9) 106 0, .row (flatI (rcP false 2186) 0 p9.v.rs) 66 10] (k9) rfl (zab _ _) (zab _ _) ?_ ?_ ?_ ?_;exact⟨pF FR.G ⟨rfl,rfl⟩,rF FR.G q8,trivial⟩;(focus((repeat' first|exact zT|exact rfl|refine zA ?_ ?_)));exact⟨(by unfold Rn Rnl;trivial),rfl,⟨⟨rfl,rfl, .inl (zaA rfl)⟩,⟨rfl,rfl, .inl (zay q9)⟩,trivial⟩⟩|refine KCall.liftG [441,421] (.tup []) [.row (pRow 2404 421 p10) 106 0, .row (flatI (rcP false 2404) 0 p10.v.rs) 66 10] (k10) rfl (zab _ _) (zab _ _) ?_ ?_ ?_ ?_;exact⟨pF FR.G ⟨rfl,rfl⟩,rF FR.G q9,trivial⟩;(focus((repeat' first|exact zT|exact rfl|refine zA ?_ ?_)));exact⟨(by unfold Rn Rnl;trivial),rfl,⟨⟨rfl,rfl, .inl (zaA rfl)⟩,⟨rfl,rfl, .inl (zay q10)⟩,trivial⟩⟩);conv=>whnf
 refine⟨?_⟩
 (refine Weak.ofG [441,421] [] [] rfl rfl rfl rfl ?_ ?_ ?_ ?_;exact⟨pQ rfl rfl,rQ q10,trivial⟩;exact gQ;exact zN;(focus((repeat' first|exact zT|exact rfl|refine zA ?_ ?_))))
end Go.Proofs.YtgcjejajljhnaaaGreatDoor
namespace Ck
def zg4 (p:Rp) (i:Int) (k:Nat):Bool:=decide ((at_ Fd.o p.fd k).k≤7)&&(decide ((at_ Fd.o p.fd k).r=i)||decide (at_ (0:Int) p.fl k=i))
def conc (p:Rp) (i:Int):Bool:=(List.range p.fd.length).any (zg4 p i)
theorem zm2 {p:Rp} {i:Int} {k:Nat} (hk:k<p.fd.length) (h:zg4 p i k=true):conc p i=true:=List.any_eq_true.2 ⟨k,List.mem_range.2 hk,h⟩
theorem zn7 {p:Rp} {i:Int} (h:∀k,k<p.fd.length→zg4 p i k=false):conc p i=false:=by
 unfold conc;rw[List.any_eq_false];intro k hk;rw[h k (List.mem_range.1 hk)];decide
end Ck
namespace Go.Proofs.YtgcjejajljhnaaaGreatDoor
open Go.Ex Ck
set_option maxRecDepth 100000
set_option maxHeartbeats 16000000
theorem zhP (p:Ck.Rp) (i:Int) (hn:p.v.rs.length≤96) (hl:p.fl.length=p.fd.length) (hb:p.fd.length≤1000000):HG Tryz.prog 2 20 220 60 [.ptr 0 0,ib i] (gP false p) [.row (pRow 20 1 p) 106 0, .row (flatI (rcP false 20) 0 p.v.rs) 66 10] (bb (conc p i))
  (gP false p) [.row (pRow 20 1 p) 106 0, .row (flatI (rcP false 20) 0 p.v.rs) 66 10]:=by
 refine HG.of kmix (by omega) ?_
 by_cases h0:p.fd=[]
 ·have e1:slF 20 p.fd= .sc (.slice none 0 0):=by rw[h0];rfl
  have hc:conc p i=false:=zn7 (fun k hk=>by rw[h0] at hk;cases hk);rw[hc]
  (conv=>whnf);repeat((rw[e1];conv=>whnf))
  refine WLoop.inv kmix (D:=Nat) (fun _=>0) (fun d=>d=0) (fun _=>slots [(0, .ptr 0 0),(1,ib i),(10, .sc (.slice none 0 0)),(11,ib 0),(12,ib 0)] 38)
   (fun _=>zax 20 220 (gP false p) [.row (pRow 20 1 p) 106 0, .row (flatI (rcP false 20) 0 p.v.rs) 66 10]) 0 rfl ?_ ?_
  ·(refine Weak.ofG [0,1] [] [] rfl rfl rfl rfl ?_ ?_ ?_ ?_;exact⟨pQ rfl rfl,rQ hn,trivial⟩;exact gQ;exact zN;(focus((repeat' first|exact zT|exact rfl|refine zA ?_ ?_))))
  intro d _
  (conv=>whnf);repeat((refine KIf.f rfl ?_;conv=>whnf))
  refine⟨?_⟩
  (refine Weak.ofG [0,1] [] [] rfl rfl rfl rfl ?_ ?_ ?_ ?_;exact⟨pQ rfl rfl,rQ hn,trivial⟩;exact gQ;exact zN;(focus((repeat' first|exact zT|exact rfl|refine zA ?_ ?_))))
 ·have hl0:p.fl≠[]:=fun e=>h0 (List.eq_nil_of_length_eq_zero (by rw[←hl,e];rfl))
  have e1:slF 20 p.fd= .so (fam 20 192) 0 p.fd.length 0:=zhq h0;have e2:slL 20 p.fl= .so (fam 20 193) 0 p.fl.length 0:=zi5 hl0
  have h9:192<220-20:=by decide
  have m192:∀th,(T.f 20 220 (gP false p) th).get (fam 20 192)=some (.row (p.fd.flatMap aFd) 86 3):=fun th=>(zaq h9).trans (zlX h0)
  have m193:∀th,(T.f 20 220 (gP false p) th).get (fam 20 193)=some (.row (p.fl.map ib) 3 1):=fun th=>(zaq (by decide)).trans (zmN hl0)
  (conv=>whnf);repeat((rw[e1];conv=>whnf))
  refine WLoop.inv kmix (D:=Nat) (fun d=>p.fd.length-d) (fun d=>d≤p.fd.length∧∀k,k<d→zg4 p i k=false) (fun d=>slots [(0, .ptr 0 0),(1,ib i),(10, .so (fam 20 192) 0 p.fd.length 0),(11,ib p.fd.length),(12,ib d)] 38)
   (fun _=>zax 20 220 (gP false p) [.row (pRow 20 1 p) 106 0, .row (flatI (rcP false 20) 0 p.v.rs) 66 10]) 0 ⟨Nat.zero_le _,fun _ h=>(by cases h)⟩ ?_ ?_
  ·(refine Weak.ofG [0,1] [] [] rfl rfl rfl rfl ?_ ?_ ?_ ?_;exact⟨pQ rfl rfl,rQ hn,trivial⟩;exact gQ;exact zN;(focus((repeat' first|exact zT|exact so_W h9 zN|exact rfl|refine zA ?_ ?_))))
  ·intro d ⟨hd,hbe⟩
   conv=>whnf
   refine KIf.dec (fun h=> ?_) (fun h=> ?_)
   ·have hlt:d<p.fd.length:=by omega
    have hd0:(0:Int)≤(d:Nat)∧((d:Nat):Int)<(p.fd.length:Nat):=⟨by omega,by omega⟩
    have hd1:(0:Int)≤(d:Nat)∧((d:Nat):Int)<(p.fl.length:Nat):=⟨by omega,by omega⟩
    have hoff:0+((d:Nat):Int).toNat*3=d*3:=by rw[Int.toNat_natCast,Nat.zero_add]
    have hoff1:0+((d:Nat):Int).toNat*1=d:=by rw[Int.toNat_natCast];omega
    have hjl:d<p.fl.length:=by omega
    obtain⟨f,hf⟩:∃f,at_ Fd.o p.fd d=f:=⟨_,rfl⟩
    obtain⟨g,hg⟩:∃g,at_ (0:Int) p.fl d=g:=⟨_,rfl⟩
    have hca:zg4 p i d=(decide (f.k≤7)&&(decide (f.r=i)||decide (g=i))):=by unfold zg4;rw[hf,hg]
    (conv=>whnf);repeat(first|refine Need.mk ?_ ?_;exact hd0|refine RK.of (zju (enc:=aFd) (sz:=3) (fun _=>rfl) Fd.o hoff rfl (m192 _) hlt) ?_|rw[hf]);conv=>whnf
    refine KIf.dec (fun h7=> ?_) (fun h7=> ?_)
    ·(conv=>whnf);repeat(((refine KIf.dt ?_ ?_;assumption;conv=>whnf)))
     refine KIf.dec (fun hr=> ?_) (fun hr=> ?_)
     ·(conv=>whnf);repeat((first|(refine KIf.dt ?_ ?_;assumption;conv=>whnf)|(refine KIf.t rfl ?_;conv=>whnf)))
      rw[zm2 hlt (by rw[hca];simp[h7,hr])];refine⟨?_⟩
      (refine Weak.ofG [0,1] [] [] rfl rfl rfl rfl ?_ ?_ ?_ ?_;exact⟨pQ rfl rfl,rQ hn,trivial⟩;exact gQ;exact zN;(focus((repeat' first|exact zT|exact rfl|refine zA ?_ ?_))))
     ·(conv=>whnf);repeat(first|refine Need.mk ?_ ?_;exact hd1|rw[e2]|refine RK.of (Ck.loadMx ib (0:Int) g hg hoff1 rfl (m193 _) hjl) ?_|refine KIf.dt ?_ ?_;assumption|refine KIf.df ?_ ?_;assumption);conv=>whnf
      refine KIf.dec (fun hq=> ?_) (fun hq=> ?_)
      ·conv=>whnf
       rw[zm2 hlt (by rw[hca];simp[h7,hq])];refine⟨?_⟩
       (refine Weak.ofG [0,1] [] [] rfl rfl rfl rfl ?_ ?_ ?_ ?_;exact⟨pQ rfl rfl,rQ hn,trivial⟩;exact gQ;exact zN;(focus((repeat' first|exact zT|exact rfl|refine zA ?_ ?_))))
      ·(conv=>whnf);repeat(((refine Need.mk ?_ ?_;((constructor<;>omega));conv=>whnf)))
       refine⟨d+1,⟨by omega,fun k hk=> ?_⟩,by dsimp only;omega,?_⟩
       ·by_cases hkd:k=d
        ·rw[hkd,hca];simp[hr,hq]
        ·exact hbe k (by omega)
       (refine Weak.ofG [0,1] [] [] rfl rfl rfl rfl ?_ ?_ ?_ ?_;exact⟨pQ rfl rfl,rQ hn,trivial⟩;exact gQ;exact zN;(focus((repeat' first|exact zT|exact so_W h9 zN|exact rfl|refine zA ?_ ?_))))
    ·(conv=>whnf);repeat((first|(refine KIf.df ?_ ?_;assumption;conv=>whnf)|(refine KIf.f rfl ?_;conv=>whnf)|(refine Need.mk ?_ ?_;((constructor<;>omega));conv=>whnf)))
     refine⟨d+1,⟨by omega,fun k hk=> ?_⟩,by dsimp only;omega,?_⟩
     ·by_cases hkd:k=d
      ·rw[hkd,hca];simp[h7]
      ·exact hbe k (by omega)
     (refine Weak.ofG [0,1] [] [] rfl rfl rfl rfl ?_ ?_ ?_ ?_;exact⟨pQ rfl rfl,rQ hn,trivial⟩;exact gQ;exact zN;(focus((repeat' first|exact zT|exact so_W h9 zN|exact rfl|refine zA ?_ ?_))))
   ·conv=>whnf
    rw[zn7 (fun k hk=>hbe k (by omega))];refine⟨?_⟩
    (refine Weak.ofG [0,1] [] [] rfl rfl rfl rfl ?_ ?_ ?_ ?_;exact⟨pQ rfl rfl,rQ hn,trivial⟩;exact gQ;exact zN;(focus((repeat' first|exact zT|exact rfl|refine zA ?_ ?_))))
end Go.Proofs.YtgcjejajljhnaaaGreatDoor
namespace Ck
open Go Go.Ex
theorem zme {h:T AO} {z:List Nat} {sz n:Nat} {f:Nat→List AV} (hn:n=0):Wz h z (.lst sz n f) (.sc (.slice none 0 0)):=by
 subst hn;unfold Wz;rfl
theorem slF_Wz {h:T AO} {z:List Nat} {A:Nat} {ph:Bool} {p:Rp} (H:Lies h z A ph p):Wz h z (LS 3 aFd Fd.o p.fd) (slF A p.fd):=by
 unfold slF
 by_cases hs:p.fd=[]
 ·rw[if_pos hs,hs];exact zme rfl
 ·rw[if_neg hs];exact zj4 (fun _=>rfl) (fun _=>rfl) ((H.g _ (by omega)).trans (zlX hs)) (H.z _ (by omega)) rfl
theorem Ready.lens {v:Pt} (h:Ready v):(zai v).v.rs.length≤96:=by
 have hp:=(passes h).f9.1.n;have hfl:=(passes h).f9.1.fl;have h96:=h.n.2;unfold zai
 generalize sizes (links (cyclesR (orphans (badNames (badEntries (descriptors (badRuns (lostParts ⟨v,[],[]⟩))))))))=p9 at*
 show(it (zar (Ck.used p9.v)) p9 p9.v.c.toNat).v.rs.length≤96;rw[(ze0 (Ck.used p9.v) p9 hfl _).1,hp];exact h96
theorem bits_fds {p:Rp} (hl:p.fl.length=p.fd.length) (hc:p.v.c.toNat≤100000) (hb:p.fd.length≤384480):(Ck.bits p).fl.length=(Ck.bits p).fd.length∧(Ck.bits p).fd.length≤500000:=by
 obtain⟨_,b2,b3⟩:=ze0 (Ck.used p.v) p hl p.v.c.toNat;exact⟨b3,Nat.le_trans b2 (Nat.le_trans (Nat.add_le_add hb hc) (by decide))⟩
theorem Ready.fds {v:Pt} (h:Ready v):(zai v).fl.length=(zai v).fd.length∧(zai v).fd.length≤500000:=by
 have hp:=(passes h).f9;have hw:=(passes h).w9.1;have hvc:=h.c;unfold zai
 generalize sizes (links (cyclesR (orphans (badNames (badEntries (descriptors (badRuns (lostParts ⟨v,[],[]⟩))))))))=p9 at*
 exact bits_fds hp.1.fl (by rw[hw];clear hp hw;omega) hp.2
theorem Ready.flen {v:Pt} (h:Ready v):(zai v).fl.length=(zai v).fd.length:=h.fds.1
theorem Ready.fdlen {v:Pt} (h:Ready v):(zai v).fd.length≤1000000:=Nat.le_trans h.fds.2 (by omega)
end Ck
namespace Go.Proofs.YtgcjejajljhnaaaGreatDoor
open Go.Ex Ck
set_option maxRecDepth 100000
set_option maxHeartbeats 16000000
theorem zen (hIt:zjY) (v:Pt) (hf:FitP v) (he:Ck.partsErr v=0) (h:Ready v):PureC Tryz.prog 21 [aPts v] (.tup [aPts (zai v).v,LS 3 aFd Fd.o (zai v).fd,ib 0]):=by
 have hrep:=zhr hIt v h
 obtain⟨p,hp⟩:∃p,zai v=p:=⟨_,rfl⟩
 have hp96:p.v.rs.length≤96:=by rw[←hp];exact h.lens
 rw[hp] at hrep⊢;refine PureC.ofF kmix rfl ?_
 (conv=>whnf);repeat(first|refine KCall.pure (zdJ v hf) ?_|refine KIf.f (congrArg Bool.not (decide_eq_true he)) ?_);conv=>whnf
 refine KCall.liftG [] (.ptr 422 0) [.row (pRow 222 423 p) 106 0, .row (flatI (rcP false 222) 0 p.v.rs) 66 10] hrep rfl (fun _ _ h=>by cases h) (zab _ _) ?_ ?_ ?_ ?_
 ·exact trivial
 ·exact⟨zcX _ rfl,zbv rfl⟩
 ·exact⟨by unfold Rn;rfl,rfl,⟨rfl,rfl, .inl (zaA rfl)⟩,⟨rfl,rfl, .inl (zay hp96)⟩,trivial⟩
 by_cases h0:p.fd=[]
 ·have e1:slF 222 p.fd= .sc (.slice none 0 0):=by rw[h0];rfl
  (conv=>whnf);repeat(first|rw[e1]|refine Need.mk (p:=zah _=true) ?_ ?_;decide+kernel|refine Need.mk ?_ ?_;trivial);conv=>whnf
  refine .z (zF 222 [423]) ?_;unfold Wz;rw[h0];exact Wzc (zje (Lies.mk (fun j hj=>zbd hj) (fun j hj=>zaq (by omega))) hp96 rfl (zbA (List.mem_singleton.2 rfl)) rfl) (Wzc (zme rfl) (Wzc (zaa rfl) Wzn))
 ·have e1:slF 222 p.fd= .so (fam 222 192) 0 p.fd.length 0:=zhq h0
  (conv=>whnf);repeat(first|rw[e1]|refine Need.mk (p:=zah _=true) ?_ ?_;decide+kernel|refine Need.mk ?_ ?_;trivial);conv=>whnf
  rw[←e1];refine .z (zF 222 [423]) ?_;unfold Wz;exact Wzc (zje (Lies.mk (fun j hj=>zbd hj) (fun j hj=>zaq (by omega))) hp96 rfl (zbA (List.mem_singleton.2 rfl)) rfl) (Wzc (slF_Wz (Lies.mk (fun j hj=>zbd hj) (fun j hj=>zaq (by omega)))) (Wzc (zaa rfl) Wzn))
end Go.Proofs.YtgcjejajljhnaaaGreatDoor
namespace Ck
def sndB (v:Pt) (p:Rp) (i:Nat):Bool:=decide (16≤i)&&(own (at_ Rc.o v.rs i)&&(!decide ((at_ Rc.o v.rs i).k=0)&& !conc p i))
noncomputable def snd (v:Pt) (p:Rp) (d:Nat):List Int:=((List.range d).filter (sndB v p)).map fun(i:Nat)=>(i:Int)
theorem zoC (v:Pt) (p:Rp) (d:Nat) (h:sndB v p d=true):snd v p (d+1)=snd v p d++[(d:Int)]:=by
 unfold snd;rw[List.range_succ,List.filter_append,List.map_append];simp[h]
theorem zi3 (v:Pt) (p:Rp) (d:Nat) (h:sndB v p d=false):snd v p (d+1)=snd v p d:=by
 unfold snd;rw[List.range_succ,List.filter_append,List.map_append];simp[h]
theorem zmc (v:Pt) (p:Rp) (d:Nat):(snd v p d).length≤d:=by
 unfold snd;rw[List.length_map];exact Nat.le_trans (List.length_filter_le _ _) (by simp)
end Ck
namespace Go.Proofs.YtgcjejajljhnaaaGreatDoor
open Go.Ex Ck
set_option maxRecDepth 100000
set_option maxHeartbeats 16000000
theorem SoundIn_ok (hIt:zjY) (v:Pt) (hf:FitP v) (he:Ck.partsErr v=0) (h:Ready v):PureC Tryz.prog 23 [aPts v] (.tup [LS 1 aI 0 (snd v (zai v) v.rs.length),ib 0]):=by
 have hrep:=zhr hIt v h;have hfl:=h.flen;have hfd:=h.fdlen
 obtain⟨p,hp⟩:∃p,zai v=p:=⟨_,rfl⟩
 have hp96:p.v.rs.length≤96:=by rw[←hp];exact h.lens
 rw[hp] at hrep hfl hfd⊢;have h96:=h.n.2;refine PureC.ofF kmix rfl ?_
 (conv=>whnf);repeat(first|refine KCall.pure (zdJ v hf) ?_|refine KIf.f (congrArg Bool.not (decide_eq_true he)) ?_);conv=>whnf
 refine KCall.liftG [] (.ptr 421 0) [.row (pRow 221 422 p) 106 0, .row (flatI (rcP false 221) 0 p.v.rs) 66 10] hrep rfl (fun _ _ h=>by cases h) (zab _ _) ?_ ?_ ?_ ?_
 ·exact trivial
 ·exact⟨zcX _ rfl,zbv rfl⟩
 ·exact⟨by unfold Rn;rfl,rfl,⟨rfl,rfl, .inl (zaA rfl)⟩,⟨rfl,rfl, .inl (zay hp96)⟩,trivial⟩
 conv=>whnf
 refine WLoop.inv kmix (D:=Nat×List Int) (fun d=>v.rs.length-d.1) (fun d=>d.1≤v.rs.length∧d.2=snd v p d.1)
  (fun d=>slots [(5, .ptr 0 0),(6,lv 2 d.2),(17,LS 10 aRc Rc.o v.rs),(18,ib v.rs.length),(19,ib d.1)] 47)
  (fun d=>zax 20 220 (gP false p) (.row (pRow 20 1 p) 106 0:: .row (flatI (rcP false 20) 0 p.v.rs) 66 10::lr d.2)) (0,[]) ⟨Nat.zero_le _,rfl⟩ ?_ ?_
 ·(refine Weak.ofG [421,422] [] [] rfl rfl rfl rfl ?_ ?_ ?_ ?_;exact⟨pQ rfl rfl,rQ hp96,trivial⟩;exact gQ;exact zN;(focus((repeat' first|exact zT|exact rfl|(intro _ _;exact rfl)|refine zA ?_ ?_))))
 ·rintro⟨d,l⟩ ⟨hd,hl⟩;dsimp only at hd hl⊢;have hll:=zmc v p d;rw[←hl] at hll
  cases l with
  |nil=>
   conv=>whnf
   refine KIf.dec (fun h2=> ?_) (fun h2=> ?_)
   ·have hlt:d<v.rs.length:=by have h3:(d:Int)<v.rs.length:=h2;omega
    have hd0:(0:Int)≤(d:Nat)∧((d:Nat):Int)<(v.rs.length:Nat):=⟨by omega,by omega⟩
    obtain⟨x,hx⟩:∃x,at_ Rc.o v.rs d=x:=⟨_,rfl⟩
    have hx2:at_ Rc.o v.rs ((d:Nat):Int).toNat=x:=by rw[Int.toNat_natCast];exact hx
    obtain⟨ob,hob⟩:∃b,own x=b:=⟨_,rfl⟩
    obtain⟨conb,hcb⟩:∃b,conc p (d:Nat)=b:=⟨_,rfl⟩
    have hown:=ziw x;rw[hob] at hown;have hco:=zhP p (d:Nat) hp96 hfl hfd;rw[hcb] at hco
    have hsn:sndB v p d=(decide (16≤d)&&(ob&&(!decide (x.k=0)&& !conb))):=by unfold sndB;rw[hx,hob,hcb]
    (conv=>whnf);repeat(first|refine Need.mk ?_ ?_;exact hd0|rw[hx2]);conv=>whnf
    refine KIf.dec (fun h16=> ?_) (fun h16=> ?_)
    ·have h16n:16≤d:=by omega
     cases ob
     ·(conv=>whnf);repeat(first|refine KCall.pure (hown) ?_|refine KIf.dt ?_ ?_;assumption|refine KIf.f rfl ?_|refine Need.mk ?_ ?_;((constructor<;>omega)));conv=>whnf
      refine⟨(d+1,[]),⟨hlt,by rw[zi3 v p d (by rw[hsn];simp[])];exact hl⟩,by dsimp only;omega,?_⟩
      (refine Weak.ofG [0,1] [] [] rfl rfl rfl rfl ?_ ?_ ?_ ?_;exact⟨pQ rfl rfl,rQ hp96,trivial⟩;exact gQ;exact zN;(focus((repeat' first|exact zT|exact rfl|(intro _ _;exact rfl)|refine zA ?_ ?_))))
     ·by_cases hk:x.k=0
      ·(conv=>whnf);repeat(first|refine KCall.pure (hown) ?_|refine KIf.f (congrArg Bool.not (decide_eq_true hk)) ?_|refine KIf.dt ?_ ?_;assumption|refine KIf.t rfl ?_|refine KIf.f rfl ?_|refine Need.mk ?_ ?_;((constructor<;>omega)));conv=>whnf
       refine⟨(d+1,[]),⟨hlt,by rw[zi3 v p d (by rw[hsn];simp[hk])];exact hl⟩,by dsimp only;omega,?_⟩
       (refine Weak.ofG [0,1] [] [] rfl rfl rfl rfl ?_ ?_ ?_ ?_;exact⟨pQ rfl rfl,rQ hp96,trivial⟩;exact gQ;exact zN;(focus((repeat' first|exact zT|exact rfl|(intro _ _;exact rfl)|refine zA ?_ ?_))))
      ·cases conb
       ·(conv=>whnf);repeat(first|refine KCall.pure (hown) ?_|refine KIf.t (congrArg Bool.not (decide_eq_false hk)) ?_|refine KCall.liftG [0,1] (bb false) [.row (pRow 221 1 p) 106 0, .row (flatI (rcP false 221) 0 p.v.rs) 66 10] (hco) rfl (zab _ _) (zab _ _) ?_ ?_ ?_ ?_;exact⟨pF FR.G ⟨rfl,rfl⟩,rF FR.G hp96,trivial⟩;(focus((repeat' first|exact zT|exact rfl|refine zA ?_ ?_)));exact⟨(by unfold Rn;rfl),rfl,⟨⟨rfl,rfl, .inl (zaA rfl)⟩,⟨rfl,rfl, .inl (zay hp96)⟩,trivial⟩⟩|refine NCase.s (Nat.succ_ne_zero _) ?_|refine KIf.dt ?_ ?_;assumption|refine KIf.t rfl ?_|refine Need.mk ?_ ?_;(first|trivial|(constructor<;>omega)));conv=>whnf
        refine⟨(d+1,[(d:Int)]),⟨hlt,by rw[zoC v p d (by rw[hsn];simp[h16n,hk]),←hl];rfl⟩,by dsimp only;omega,?_⟩
        (refine Weak.ofG [0,1,440] [] [] rfl rfl rfl rfl ?_ ?_ ?_ ?_;exact⟨pQ rfl rfl,rQ hp96,⟨rfl,rfl, .same rfl rfl⟩,trivial⟩;exact gQ;exact zN;(focus((repeat' first|exact zT|exact rfl|(intro _ _;exact rfl)|refine zA ?_ ?_))))
       ·(conv=>whnf);repeat(first|refine KCall.pure (hown) ?_|refine KIf.t (congrArg Bool.not (decide_eq_false hk)) ?_|refine KCall.liftG [0,1] (bb true) [.row (pRow 221 1 p) 106 0, .row (flatI (rcP false 221) 0 p.v.rs) 66 10] (hco) rfl (zab _ _) (zab _ _) ?_ ?_ ?_ ?_;exact⟨pF FR.G ⟨rfl,rfl⟩,rF FR.G hp96,trivial⟩;(focus((repeat' first|exact zT|exact rfl|refine zA ?_ ?_)));exact⟨(by unfold Rn;rfl),rfl,⟨⟨rfl,rfl, .inl (zaA rfl)⟩,⟨rfl,rfl, .inl (zay hp96)⟩,trivial⟩⟩|refine KIf.dt ?_ ?_;assumption|refine KIf.t rfl ?_|refine KIf.f rfl ?_|refine Need.mk ?_ ?_;((constructor<;>omega)));conv=>whnf
        refine⟨(d+1,[]),⟨hlt,by rw[zi3 v p d (by rw[hsn];simp[])];exact hl⟩,by dsimp only;omega,?_⟩
        (refine Weak.ofG [0,1] [] [] rfl rfl rfl rfl ?_ ?_ ?_ ?_;exact⟨pQ rfl rfl,rQ hp96,trivial⟩;exact gQ;exact zN;(focus((repeat' first|exact zT|exact rfl|(intro _ _;exact rfl)|refine zA ?_ ?_))))
    ·have h16n:¬16≤d:=by omega
     (conv=>whnf);repeat((first|(refine KIf.df ?_ ?_;assumption;conv=>whnf)|(refine KIf.f rfl ?_;conv=>whnf)|(refine Need.mk ?_ ?_;((constructor<;>omega));conv=>whnf)))
     refine⟨(d+1,[]),⟨hlt,by rw[zi3 v p d (by rw[hsn];simp[h16n])];exact hl⟩,by dsimp only;omega,?_⟩
     (refine Weak.ofG [0,1] [] [] rfl rfl rfl rfl ?_ ?_ ?_ ?_;exact⟨pQ rfl rfl,rQ hp96,trivial⟩;exact gQ;exact zN;(focus((repeat' first|exact zT|exact rfl|(intro _ _;exact rfl)|refine zA ?_ ?_))))
   ·have hde:d=v.rs.length:=by have h3:¬(d:Int)<v.rs.length:=h2;omega
    have hfe:snd v p v.rs.length=[]:=by rw[←hde];exact hl.symm
    rw[hfe]
    conv=>whnf
    refine .z [] ?_;unfold Wz;exact Wzc (zme rfl) (Wzc (zaa rfl) Wzn)
  |cons y l=>
   conv=>whnf
   refine KIf.dec (fun h2=> ?_) (fun h2=> ?_)
   ·have hlt:d<v.rs.length:=by have h3:(d:Int)<v.rs.length:=h2;omega
    have hd0:(0:Int)≤(d:Nat)∧((d:Nat):Int)<(v.rs.length:Nat):=⟨by omega,by omega⟩
    have hsz:((y::l).length+1)*8≤2^47∧(y::l).length+1≤2^60:=by constructor<;>omega
    have hcr:cont.contL ((y::l).map ib++[ib (d:Nat)])=true:=by rw[show(y::l).map ib++[ib (d:Nat)]=(y::l++[(d:Int)]).map ib by simp];exact contL_map (fun _=>rfl) _
    have hln:((y::l).map ib).length=(y::l).length*1:=by simp
    obtain⟨x,hx⟩:∃x,at_ Rc.o v.rs d=x:=⟨_,rfl⟩
    have hx2:at_ Rc.o v.rs ((d:Nat):Int).toNat=x:=by rw[Int.toNat_natCast];exact hx
    obtain⟨ob,hob⟩:∃b,own x=b:=⟨_,rfl⟩
    obtain⟨conb,hcb⟩:∃b,conc p (d:Nat)=b:=⟨_,rfl⟩
    have hown:=ziw x;rw[hob] at hown;have hco:=zhP p (d:Nat) hp96 hfl hfd;rw[hcb] at hco
    have hsn:sndB v p d=(decide (16≤d)&&(ob&&(!decide (x.k=0)&& !conb))):=by unfold sndB;rw[hx,hob,hcb]
    (conv=>whnf);repeat(first|refine Need.mk ?_ ?_;exact hd0|rw[hx2]);conv=>whnf
    refine KIf.dec (fun h16=> ?_) (fun h16=> ?_)
    ·have h16n:16≤d:=by omega
     cases ob
     ·(conv=>whnf);repeat(first|refine KCall.pure (hown) ?_|refine KIf.dt ?_ ?_;assumption|refine KIf.f rfl ?_|refine Need.mk ?_ ?_;((constructor<;>omega)));conv=>whnf
      refine⟨(d+1,y::l),⟨hlt,by rw[zi3 v p d (by rw[hsn];simp[])];exact hl⟩,by dsimp only;omega,?_⟩
      (refine Weak.ofG [0,1,2] [] [] rfl rfl rfl rfl ?_ ?_ ?_ ?_;exact⟨pQ rfl rfl,rQ hp96,⟨rfl,rfl, .same rfl (contL_map (enc:=ib) (fun _=>rfl) (y::l))⟩,trivial⟩;exact gQ;exact zN;(focus((repeat' first|exact zT|exact rfl|(intro _ _;exact rfl)|refine zA ?_ ?_))))
     ·by_cases hk:x.k=0
      ·(conv=>whnf);repeat(first|refine KCall.pure (hown) ?_|refine KIf.f (congrArg Bool.not (decide_eq_true hk)) ?_|refine KIf.dt ?_ ?_;assumption|refine KIf.t rfl ?_|refine KIf.f rfl ?_|refine Need.mk ?_ ?_;((constructor<;>omega)));conv=>whnf
       refine⟨(d+1,y::l),⟨hlt,by rw[zi3 v p d (by rw[hsn];simp[hk])];exact hl⟩,by dsimp only;omega,?_⟩
       (refine Weak.ofG [0,1,2] [] [] rfl rfl rfl rfl ?_ ?_ ?_ ?_;exact⟨pQ rfl rfl,rQ hp96,⟨rfl,rfl, .same rfl (contL_map (enc:=ib) (fun _=>rfl) (y::l))⟩,trivial⟩;exact gQ;exact zN;(focus((repeat' first|exact zT|exact rfl|(intro _ _;exact rfl)|refine zA ?_ ?_))))
      ·cases conb
       ·(conv=>whnf);repeat(first|refine Need.mk ?_ ?_;exact hsz|refine KCall.pure (hown) ?_|refine KIf.t (congrArg Bool.not (decide_eq_false hk)) ?_|refine KCall.liftG [0,1] (bb false) [.row (pRow 221 1 p) 106 0, .row (flatI (rcP false 221) 0 p.v.rs) 66 10] (hco) rfl (zab _ _) (zab _ _) ?_ ?_ ?_ ?_;exact⟨pF FR.G ⟨rfl,rfl⟩,rF FR.G hp96,trivial⟩;(focus((repeat' first|exact zT|exact rfl|refine zA ?_ ?_)));exact⟨(by unfold Rn;rfl),rfl,⟨⟨rfl,rfl, .inl (zaA rfl)⟩,⟨rfl,rfl, .inl (zay hp96)⟩,trivial⟩⟩|refine NCase.s (Nat.succ_ne_zero _) ?_|refine KIf.dt ?_ ?_;assumption|refine KIf.t rfl ?_|refine Need.mk ?_ ?_;(first|trivial|(constructor<;>omega)|(simp only[Int.toNat_natCast];(omega))));conv=>whnf
        refine⟨(d+1,y::l++[(d:Int)]),⟨hlt,by rw[zoC v p d (by rw[hsn];simp[h16n,hk]),←hl]⟩,by dsimp only;omega,?_⟩
        (refine Weak.ofG [0,1,440] [] [] rfl rfl rfl rfl ?_ ?_ ?_ ?_;exact⟨pQ rfl rfl,rQ hp96,⟨rfl,rfl, .same (by simp) hcr⟩,trivial⟩;exact gQ;exact zN;(focus((repeat' first|exact zT|exact rfl|(intro _ _;exact rfl)|refine zA ?_ ?_))))
        (simp;done)
       ·(conv=>whnf);repeat(first|refine KCall.pure (hown) ?_|refine KIf.t (congrArg Bool.not (decide_eq_false hk)) ?_|refine KCall.liftG [0,1] (bb true) [.row (pRow 221 1 p) 106 0, .row (flatI (rcP false 221) 0 p.v.rs) 66 10] (hco) rfl (zab _ _) (zab _ _) ?_ ?_ ?_ ?_;exact⟨pF FR.G ⟨rfl,rfl⟩,rF FR.G hp96,trivial⟩;(focus((repeat' first|exact zT|exact rfl|refine zA ?_ ?_)));exact⟨(by unfold Rn;rfl),rfl,⟨⟨rfl,rfl, .inl (zaA rfl)⟩,⟨rfl,rfl, .inl (zay hp96)⟩,trivial⟩⟩|refine KIf.dt ?_ ?_;assumption|refine KIf.t rfl ?_|refine KIf.f rfl ?_|refine Need.mk ?_ ?_;((constructor<;>omega)));conv=>whnf
        refine⟨(d+1,y::l),⟨hlt,by rw[zi3 v p d (by rw[hsn];simp[])];exact hl⟩,by dsimp only;omega,?_⟩
        (refine Weak.ofG [0,1,2] [] [] rfl rfl rfl rfl ?_ ?_ ?_ ?_;exact⟨pQ rfl rfl,rQ hp96,⟨rfl,rfl, .same rfl (contL_map (enc:=ib) (fun _=>rfl) (y::l))⟩,trivial⟩;exact gQ;exact zN;(focus((repeat' first|exact zT|exact rfl|(intro _ _;exact rfl)|refine zA ?_ ?_))))
    ·have h16n:¬16≤d:=by omega
     (conv=>whnf);repeat((first|(refine KIf.df ?_ ?_;assumption;conv=>whnf)|(refine KIf.f rfl ?_;conv=>whnf)|(refine Need.mk ?_ ?_;((constructor<;>omega));conv=>whnf)))
     refine⟨(d+1,y::l),⟨hlt,by rw[zi3 v p d (by rw[hsn];simp[h16n])];exact hl⟩,by dsimp only;omega,?_⟩
     (refine Weak.ofG [0,1,2] [] [] rfl rfl rfl rfl ?_ ?_ ?_ ?_;exact⟨pQ rfl rfl,rQ hp96,⟨rfl,rfl, .same rfl (contL_map (enc:=ib) (fun _=>rfl) (y::l))⟩,trivial⟩;exact gQ;exact zN;(focus((repeat' first|exact zT|exact rfl|(intro _ _;exact rfl)|refine zA ?_ ?_))))
   ·have hde:d=v.rs.length:=by have h3:¬(d:Int)<v.rs.length:=h2;omega
    have hfe:snd v p v.rs.length=y::l:=by rw[←hde];exact hl.symm
    rw[hfe]
    conv=>whnf
    refine .z [2] ?_;unfold Wz;exact Wzc (Wz.own rfl (by simp) rfl (fun _ _=>rfl) (zeP ib 0 (y::l)) (fun _ _=>rfl)) (Wzc (zaa rfl) Wzn)
end Go.Proofs.YtgcjejajljhnaaaGreatDoor
namespace Ck
def Nc (j:Nat) (p:Rp):Prop:=∀f∈p.fd,f.k≤7→f.r≠j
def core (x:Rc):List Nm×List Sm×Int:=(x.ns,x.ss,x.ds)
def Sn (j:Nat) (p q:Rp):Prop:=Nc j q→Nc j p∧core (at_ Rc.o q.v.rs j)=core (at_ Rc.o p.v.rs j)
theorem Sn.refl {j:Nat} (p:Rp):Sn j p p:=fun h=>⟨h,rfl⟩
theorem Sn.trans {j:Nat} {p q r:Rp} (h:Sn j p q) (g:Sn j q r):Sn j p r:=fun c=>by
 obtain⟨g1,g2⟩:=g c;obtain⟨h1,h2⟩:=h g1;exact⟨h1,g2.trans h2⟩
theorem Nc.note {j:Nat} {p:Rp} {k r i:Int} (h:Nc j (p.note k r i)):Nc j p∧(k≤7→r≠j):=
 ⟨fun f hf=>h f (List.mem_append_left _ hf),fun hk=>h ⟨k,r,i⟩ (List.mem_append_right _ (List.mem_singleton.2 rfl)) hk⟩
theorem Sn.fd {j:Nat} {p q:Rp} (hf:q.fd=p.fd) (h:core (at_ Rc.o q.v.rs j)=core (at_ Rc.o p.v.rs j)):Sn j p q:=fun c=>⟨by unfold Nc at c⊢;rw[hf] at c;exact c,h⟩
theorem Sn.note {j:Nat} {p q:Rp} {k r i:Int} (hf:q.fd=(p.note k r i).fd) (h:(k≤7→r≠j)→core (at_ Rc.o q.v.rs j)=core (at_ Rc.o p.v.rs j)):Sn j p q:=fun c=>by
 have c:Nc j (p.note k r i):=by unfold Nc at c⊢;rw[hf] at c;exact c
 exact⟨c.note.1,h c.note.2⟩
theorem Sn.it {S:Type} {j:Nat} {u:S→Rp} {f:S→Nat→S} (hf:∀s k,Sn j (u s) (u (f s k))) (s:S):∀k,Sn j (u s) (u (it f s k))
 |0=>Sn.refl _
 |k+1=>(Sn.it hf s k).trans (hf _ k)
theorem Sn.below {j:Nat} {f:Rp→Nat→Rp} (hf:∀q i,Sn j q (f q i)) (p:Rp):Sn j p (below f p):=Sn.it (u:=id) (fun q k=>by
 show Sn j q (if own (q.rc (16+k:Nat)) then f q (16+k) else q);split
 ·exact hf _ _
 ·exact Sn.refl q) p _
theorem zcR {p:Rp} {i j:Nat} (x:Rc) (h:i≠j):at_ Rc.o (p.setR i x).v.rs j=at_ Rc.o p.v.rs j:=zau _ _ _ _ _ h
theorem zcN {p:Rp} {i:Nat} {x:Rc} (hx:core x=core (at_ Rc.o p.v.rs i)) (j:Nat):core (at_ Rc.o (p.setR i x).v.rs j)=core (at_ Rc.o p.v.rs j):=by
 show core (at_ Rc.o (p.v.rs.set i x) j)=_;rw[zbc];split
 ·rename_i e;obtain⟨rfl,_⟩:=e;exact hx
 ·rfl
theorem nat_ne {i j:Nat} (h:((i:Nat):Int)≠(j:Nat)):i≠j:=fun e=>h (by rw[e])
theorem Sn.lostParts (j:Nat) (p:Rp):Sn j p (lostParts p):=Sn.it (u:=id) (fun q i=>by
 show Sn j q (zam q i);unfold zam;dsimp only;split
 ·refine Sn.note (k:=0) (r:=i) (i:=0) rfl fun h=> ?_
  rw[zcR _ (nat_ne (h (by decide)))];rfl
 ·exact Sn.refl q) p _
theorem Sn.badRuns (j:Nat) (p:Rp):Sn j p (badRuns p):=Sn.it (u:=Prod.fst) (fun s i=>by
 show Sn j s.1 (zad s i).1;unfold zad;split
 ·exact Sn.it (u:=Prod.fst) (fun s k=>by
   show Sn j s.1 (cutStep i s k).1;unfold cutStep;dsimp only;split
   ·exact Sn.refl _
   ·refine Sn.note (k:=1) (r:=i) (i:=k) rfl fun h=> ?_
    rw[zcR _ (nat_ne (h (by decide)))]
    rfl) s _
 ·exact Sn.refl _) (p,taken p.v) _
theorem Sn.descriptors (j:Nat) (p:Rp):Sn j p (descriptors p):=Sn.it (u:=id) (fun q i=>by
 show Sn j q (zao q i);unfold zao;dsimp only;split
 ·refine Sn.note (k:=2) (r:=i) (i:=0) rfl fun h=> ?_
  rw[zcR _ (nat_ne (h (by decide)))];rfl
 ·exact Sn.refl q) p _
theorem Sn.badEntries (j:Nat) (p:Rp):Sn j p (badEntries p):=Sn.it (u:=id) (fun q i=>by
 show Sn j q (zac q i);unfold zac;split
 ·have h:=Sn.it (j:=j) (u:=Prod.fst) (f:=entryStep i (q.rc i).es) (fun s k=>by
   show Sn j s.1 (entryStep i (q.rc i).es s k).1;unfold entryStep;dsimp only;split
   ·exact Sn.refl _
   ·split
    ·exact Sn.note (k:=3) (r:=i) (i:=s.2.length) rfl fun _=>rfl
    ·exact Sn.note (k:=3) (r:=i) (i:=s.2.length) rfl fun _=>rfl) (q,[]) (q.rc i).es.length
  dsimp only;refine h.trans (Sn.fd rfl (zcN ?_ j));rw[zae];rfl
 ·exact Sn.refl q) p _
theorem zhN (p:Rp) (d:Int) (n:List UInt8) (r j:Nat):core (at_ Rc.o (enter p d n r).v.rs j)=core (at_ Rc.o p.v.rs j):=zcN (p:=p) (i:=d.toNat) (x:={p.rc d with es:=(p.rc d).es++[⟨n,p.ref r,sizeOf (p.rc r)⟩]}) rfl j
theorem zjO (p:Rp) (r:Nat) (n:Nm) (j:Nat):core (at_ Rc.o (drop p r n).v.rs j)=core (at_ Rc.o p.v.rs j):=by
 unfold drop;split
 ·exact zcN (p:=p) (i:=n.d.r.toNat) (x:={p.rc n.d.r with es:=(p.rc n.d.r).es.filter fun x=> !(decide (x.f=p.ref r)&&decide (x.n=n.n))}) rfl j
 ·rfl
theorem zhO {p:Rp} {r j:Nat} (h:r≠j):core (at_ Rc.o (bring p r).v.rs j)=core (at_ Rc.o p.v.rs j):=by
 unfold bring;dsimp only;rw[zhN,zcR _ h]
theorem zgQ (j i:Nat) (all:List Nm) (s:Rp×List Nm) (k:Nat):Sn j s.1 (nameStep i all s k).1:=by
 unfold nameStep;dsimp only;split
 ·split
  ·exact Sn.refl _
  ·exact Sn.note (k:=5) (r:=i) (i:=s.2.length) rfl fun _=>(zhN _ _ _ _ _)
 ·split
  ·refine Sn.note (k:=4) (r:=i) (i:=s.2.length) (zft _ _ _) fun _=> ?_
   exact zjO _ _ _ _
  ·exact Sn.note (k:=4) (r:=i) (i:=s.2.length) rfl fun _=>rfl
theorem Sn.badNames (j:Nat) (p:Rp):Sn j p (badNames p):=Sn.below (fun q i=>by
 unfold badNames1;dsimp only;have h:=Sn.it (j:=j) (u:=Prod.fst) (f:=nameStep i (q.rc i).ns) (fun s k=>zgQ j i _ s k) (q,[]) (q.rc i).ns.length;have h:Sn j q (Ck.it (nameStep i (q.rc i).ns) (q,[]) (q.rc i).ns.length).1:=h
 refine h.trans fun c=> ?_
 have c:Nc j (Ck.it (nameStep i (q.rc i).ns) (q,[]) (q.rc i).ns.length).1:=c;refine⟨c,?_⟩;by_cases e:i=j
 ·subst e
  have key:∀k,k≤(q.rc i).ns.length→Nc i (Ck.it (nameStep i (q.rc i).ns) (q,[]) k).1→(Ck.it (nameStep i (q.rc i).ns) (q,[]) k).2=(q.rc i).ns.take k:=by
   refine zaJ (I:=fun k (s:Rp×List Nm)=>Nc i s.1→s.2=(q.rc i).ns.take k) (fun s k hk hs=> ?_) (fun _=>rfl);intro hn;have hs2:=hs ((zgQ i i _ s k) hn).1;unfold nameStep at hn⊢;dsimp only at hn⊢;split at hn
   ·rename_i h1;rw[if_pos h1];dsimp only;rw[hs2,zcz Nm.o _ k hk]
   ·dsimp only at hn;split at hn
    ·have:Nc i (s.1.note 4 i s.2.length):=by unfold Nc at hn⊢;rw[zft] at hn;exact hn
     exact absurd rfl (this.note.2 (by decide))
    ·have:Nc i (s.1.note 4 i s.2.length):=hn;exact absurd rfl (this.note.2 (by decide))
  have h2:=key _ (Nat.le_refl _) c;rw[List.take_length] at h2;apply zcN;have h3:=(h c).2;rw[zae,h2,zae];unfold core at h3⊢;have e1:=congrArg Prod.fst h3;rw[zae] at e1;dsimp only at e1⊢;rw[e1]
 ·rw[zcR _ e]) p
theorem Sn.orphans (j:Nat) (p:Rp):Sn j p (orphans p):=Sn.below (fun q i=>by
 unfold zaz;split
 ·refine Sn.note (k:=6) (r:=i) (i:=0) (zdU _ _) fun h=> ?_
  rw[zhO (nat_ne (h (by decide)))];rfl
 ·exact Sn.refl q) p
theorem core_drops (r:Nat) (l:List Nm) (q:Rp) (j k:Nat):core (at_ Rc.o (it (fun q k=>drop q r (at_ Nm.o l k)) q k).v.rs j)=core (at_ Rc.o q.v.rs j):=zaQ (I:=fun s:Rp=>core (at_ Rc.o s.v.rs j)=core (at_ Rc.o q.v.rs j)) (fun s k hs=>(zjO _ _ _ _).trans hs) rfl k
theorem Sn.cyclesR (j:Nat) (p:Rp):Sn j p (cyclesR p):=Sn.it (u:=id) (fun q i=>by
 show Sn j q (cycleR q i);unfold cycleR;split
 ·refine Sn.note (k:=7) (r:=(16+i:Nat)) (i:=0) ((zdU _ _).trans (zlD _ _ _ _)) fun h=> ?_
  rw[zhO (nat_ne (h (by decide))),core_drops];rfl
 ·exact Sn.refl q) p _
theorem Sn.links (j:Nat) (p:Rp):Sn j p (links p):=Sn.below (fun q i=>by
 unfold link1;split
 ·refine Sn.note (k:=8) (r:=i) (i:=0) rfl fun _=> ?_
  exact zcN (p:=q.note 8 i 0) (by rw[zae];rfl) j
 ·exact Sn.refl q) p
theorem Sn.sizes (j:Nat) (p:Rp):Sn j p (sizes p):=Sn.it (u:=id) (fun q i=>by
 show Sn j q (zak q i);unfold zak;split
 ·exact Sn.it (u:=id) (fun s k=>by
   show Sn j s (sizeStep i s k);unfold sizeStep;dsimp only;split
   ·refine Sn.note (k:=9) (r:=i) (i:=k) rfl fun _=> ?_
    exact zcN (p:=s.note 9 i k) (by rw[zae];rfl) j
   ·exact Sn.refl s) q _
 ·exact Sn.refl q) p _
theorem Sn.bits (j:Nat) (p:Rp):Sn j p (bits p):=by
 have h:Sn j p (Ck.it (zar (used p.v)) p p.v.c.toNat):=Sn.it (u:=id) (fun q c=>by
  show Sn j q (zar (used p.v) q c);unfold zar;split
  ·exact Sn.note (k:=10) (r:=c) (i:=0) rfl fun _=>rfl
  ·exact Sn.refl q) p _
 exact h.trans (Sn.fd rfl rfl)
theorem repaired_sn (v:Pt) (j:Nat):Sn j ⟨v,[],[]⟩ (zai v):=((((((((((Sn.lostParts j _).trans (Sn.badRuns j _)).trans (Sn.descriptors j _)).trans (Sn.badEntries j _)).trans (Sn.badNames j _)).trans (Sn.orphans j _)).trans (Sn.cyclesR j _)).trans (Sn.links j _)).trans (Sn.sizes j _)).trans (Sn.bits j _))
theorem conc_nc {p:Rp} {j:Nat} (h:conc p j=false):Nc j p:=fun f hf hk hr=>by
 obtain⟨i,hi,rfl⟩:=List.getElem_of_mem hf
 have:conc p j=true:=zm2 hi (by
  unfold zg4;rw[zaG _ _ _ hi,hr]
  simp[hk])
 rw[h] at this;cases this
end Ck
namespace Go.Proofs.YtgcjejajljhnaaaGreatDoor
open Go.Ex Ck
set_option maxRecDepth 100000
set_option maxHeartbeats 4000000
theorem zdB :PureC Tryz.prog 10 [] (bb true):=fun _=>CallOk.of_below (args:=[]) awake_any
theorem zjJ (v:Pt) {b:Bool} (h:fewP v=b):PureC Tryz.prog 11 [aPts v] (bb b):=by rw[←h];exact few_k v
end Go.Proofs.YtgcjejajljhnaaaGreatDoor
namespace Ck
def za4 (v:Pt):Bool:=(List.range v.rs.length).any fun i=>decide (i<16)&&(!decide (i=5)&&dir (at_ Rc.o v.rs i))
theorem foreign_f {v:Pt} (h:za4 v=false) (i:Nat) (h16:i<16) (h5:i≠5):dir (at_ Rc.o v.rs i)=false:=by
 by_cases hi:i<v.rs.length
 ·have:=List.any_eq_false.1 h i (List.mem_range.2 hi);simpa[h16,h5] using this
 ·rw[znb _ _ _ (by omega)];rfl
theorem foreign_t {v:Pt} {i:Nat} (hi:i<v.rs.length) (h16:i<16) (h5:i≠5) (h:dir (at_ Rc.o v.rs i)=true):za4 v=true:=List.any_eq_true.2 ⟨i,List.mem_range.2 hi,by simp[h16,h5,h]⟩
theorem zhJ {v:Pt} (h:∀i,i<v.rs.length→i<16→i≠5→dir (at_ Rc.o v.rs i)=false):za4 v=false:=List.any_eq_false.2 fun i hi=>by
 have hi:=List.mem_range.1 hi;by_cases h16:i<16
 ·by_cases h5:i=5
  ·simp[h5]
  ·simp[h i hi h16 h5]
 ·simp[h16]
end Ck
namespace Go.Proofs.YtgcjejajljhnaaaGreatDoor
open Go.Ex Ck
set_option maxRecDepth 100000
set_option maxHeartbeats 4000000
theorem zeT (v:Pt) (hn:v.rs.length≤100000) {b:Bool} (hb:za4 v=b):PureC Tryz.prog 30 [aPts v] (bb b):=by
 subst hb;refine PureC.of kmix rfl ?_
 conv=>whnf
 refine WLoop.inv kmix (D:=Nat) (fun d=>v.rs.length-d) (fun d=>d≤v.rs.length∧∀i,i<d→i<16∧(i≠5→dir (at_ Rc.o v.rs i)=false)) (fun d=>slots [(1, .ptr 0 0),(2,bb false),(3,ib d)] 34) (fun d=>zaj [.row (aPt v) 26 0]) 0 ⟨Nat.zero_le _,fun i hi=>absurd hi (Nat.not_lt_zero _)⟩ ?_ ?_
 ·(refine Weak.of [0] [] rfl rfl ?_ ?_<;>(repeat' first|exact zT|refine zA ?_ ?_)<;>(conv=>whnf)<;>(repeat'(exact rfl))<;>((exact Or.inr ⟨rfl,rfl⟩)))
 ·rintro d ⟨hd,hI⟩;by_cases hlt:d<v.rs.length
  ·by_cases h16:d<16
   ·have next:(d≠5→dir (at_ Rc.o v.rs d)=false)→d+1≤v.rs.length∧∀i,i<d+1→i<16∧(i≠5→dir (at_ Rc.o v.rs i)=false):=fun hx=>⟨hlt,fun i hi=>by
     by_cases e:i=d
     ·subst e;exact⟨h16,hx⟩
     ·exact hI i (by omega)⟩
    by_cases h5:d=5
    ·(conv=>whnf);repeat(first|refine KIf.f rfl ?_|refine Need.mk ?_ ?_;((constructor<;>omega))|refine KIf.t (decide_eq_true (by omega)) ?_|refine KIf.f (congrArg Bool.not (decide_eq_true (by omega))) ?_);conv=>whnf
     refine⟨d+1,next (fun c=>absurd h5 c),by dsimp only;omega,?_⟩
     (refine Weak.of [0] [] rfl rfl ?_ ?_<;>(repeat' first|exact zT|refine zA ?_ ?_)<;>(conv=>whnf)<;>(repeat'(exact rfl))<;>((exact Or.inr ⟨rfl,rfl⟩)))
    ·obtain⟨ub,hub⟩:∃b,(at_ Rc.o v.rs d).u=b:=⟨_,rfl⟩
     cases ub
     ·(conv=>whnf);repeat(first|refine KIf.f ?_ ?_;assumption|refine KIf.f rfl ?_|refine Need.mk ?_ ?_;(first|omega|(constructor<;>omega))|refine KIf.t (decide_eq_true (by omega)) ?_|refine KIf.t (congrArg Bool.not (decide_eq_false (by omega))) ?_);conv=>whnf
      refine⟨d+1,next (fun _=>by unfold dir;rw[hub];rfl),by dsimp only;omega,?_⟩
      (refine Weak.of [0] [] rfl rfl ?_ ?_<;>(repeat' first|exact zT|refine zA ?_ ?_)<;>(conv=>whnf)<;>(repeat'(exact rfl))<;>((exact Or.inr ⟨rfl,rfl⟩)))
     ·by_cases hk:(at_ Rc.o v.rs d).k=0
      ·have ht:za4 v=true:=foreign_t hlt h16 h5 (by unfold dir;rw[hub,hk];rfl);rw[ht]
       (conv=>whnf);repeat(first|refine KIf.dt ?_ ?_;assumption|refine KIf.t ?_ ?_;assumption|refine Need.mk ?_ ?_;omega|refine KIf.t (decide_eq_true (by omega)) ?_|refine KIf.t (congrArg Bool.not (decide_eq_false (by omega))) ?_);conv=>whnf
       refine .z [] ?_;exact zaa rfl
      ·(conv=>whnf);repeat(first|refine KIf.df ?_ ?_;assumption|refine KIf.t ?_ ?_;assumption|refine Need.mk ?_ ?_;(first|omega|(constructor<;>omega))|refine KIf.t (decide_eq_true (by omega)) ?_|refine KIf.t (congrArg Bool.not (decide_eq_false (by omega))) ?_);conv=>whnf
       refine⟨d+1,next (fun _=>by unfold dir;rw[hub];simpa using hk),by dsimp only;omega,?_⟩
       (refine Weak.of [0] [] rfl rfl ?_ ?_<;>(repeat' first|exact zT|refine zA ?_ ?_)<;>(conv=>whnf)<;>(repeat'(exact rfl))<;>((exact Or.inr ⟨rfl,rfl⟩)))
   ·have hf:za4 v=false:=zhJ fun i hi h1 h2=>(hI i (by omega)).2 h2
    rw[hf]
    (conv=>whnf);repeat((first|(refine KIf.t (decide_eq_true (by omega)) ?_;conv=>whnf)|(refine KIf.f (decide_eq_false (by omega)) ?_;conv=>whnf)))
    refine .z [] ?_;exact zaa rfl
  ·have hf:za4 v=false:=zhJ fun i hi h1 h2=>(hI i (by omega)).2 h2
   rw[hf]
   (conv=>whnf);repeat(first|refine KIf.f rfl ?_|refine KIf.f (decide_eq_false (by omega)) ?_);conv=>whnf
   refine .z [] ?_;exact zaa rfl
theorem Has_k (l:List Int) (n:Int) (hl:l.length≤100000):PureC Tryz.prog 32 [LS 1 aI 0 l,ib n] (bb (decide (n∈l))):=by
 refine PureC.of kmix rfl ?_
 conv=>whnf
 refine WLoop.inv kmix (D:=Nat) (fun d=>l.length-d) (fun d=>d≤l.length∧∀i,i<d→at_ 0 l i≠n) (fun d=>slots [(0,LS 1 aI 0 l),(1,ib n),(4,bb false),(5,ib d)] 18) (fun d=>zaj []) 0 ⟨Nat.zero_le _,fun i hi=>absurd hi (Nat.not_lt_zero _)⟩ ?_ ?_
 ·(refine Weak.of [] [] rfl rfl ?_ ?_<;>(repeat' first|exact zT|refine zA ?_ ?_)<;>(conv=>whnf)<;>(repeat'(exact rfl))<;>((intro _ _;rfl)))
 ·rintro d ⟨hd,hI⟩;by_cases hlt:d<l.length
  ·by_cases he:at_ 0 l d=n
   ·have hm:n∈l:=by rw[←he];exact at_mem 0 l d hlt
    rw[decide_eq_true hm]
    (conv=>whnf);repeat(first|refine KIf.dt ?_ ?_;assumption|refine Need.mk ?_ ?_;omega|refine KIf.t (decide_eq_true (by omega)) ?_);conv=>whnf
    refine .z [] ?_;exact zaa rfl
   ·(conv=>whnf);repeat(first|refine KIf.df ?_ ?_;assumption|refine Need.mk ?_ ?_;(first|omega|(constructor<;>omega))|refine KIf.t (decide_eq_true (by omega)) ?_);conv=>whnf
    refine⟨d+1,⟨hlt,fun i hi=> ?_⟩,by dsimp only;omega,?_⟩
    ·by_cases e:i=d
     ·rw[e];exact he
     ·exact hI i (by omega)
    ·(refine Weak.of [] [] rfl rfl ?_ ?_<;>(repeat' first|exact zT|refine zA ?_ ?_)<;>(conv=>whnf)<;>(repeat'(exact rfl))<;>((intro _ _;rfl)))
  ·have hm:n∉l:=fun hm=>by
    obtain⟨i,hi,e⟩:=List.getElem_of_mem hm;exact hI i (by omega) (by rw[zaG _ _ _ hi];exact e)
   rw[decide_eq_false hm]
   (conv=>whnf);repeat(((refine KIf.f (decide_eq_false (by omega)) ?_;conv=>whnf)))
   refine .z [] ?_;exact zaa rfl
theorem zoT (l:List Int) (n:Int) (hl:l.length≤100000) (h:n∈l):PureC Tryz.prog 32 [LS 1 aI 0 l,ib n] (bb true):=by
 rw[←decide_eq_true h];exact Has_k l n hl
theorem RefOf_k (v:Pt) (i:Nat) (hi:i<v.rs.length):PureC Tryz.prog 35 [aPts v,ib i] (.agg (aRef ⟨i,(at_ Rc.o v.rs i).q⟩)):=by
 refine PureC.of kmix rfl ?_
 (conv=>whnf);repeat((refine Need.mk ?_ ?_;omega;conv=>whnf))
 refine .z [] ?_;exact zaa rfl
theorem Below_k (v:Pt) (i:Nat) (hi:i<v.rs.length) (hn:v.rs.length≤100000):PureC Tryz.prog 37 [aPts v,ib i] (bb (decide (16≤i)&&own (at_ Rc.o v.rs i))):=by
 have hw:wi (i:Nat) 0 ((v.rs.length:Int)-1)=true:=by unfold wi;simp;omega
 have hrc:Ck.rc v (i:Nat)=at_ Rc.o v.rs i:=rfl;have hO:=rOwn_k v (i:Nat) hn;rw[hw,hrc] at hO;refine PureC.of kmix rfl ?_;by_cases h16:16≤i
 ·rw[decide_eq_true h16]
  (conv=>whnf);repeat(first|refine KIf.t (decide_eq_true (by omega)) ?_|refine KCall.pure (hO) ?_);conv=>whnf
  refine .z [] ?_;exact zaa rfl
 ·rw[decide_eq_false h16]
  (conv=>whnf);repeat(((refine KIf.f (decide_eq_false (by omega)) ?_;conv=>whnf)))
  refine .z [] ?_;exact zaa rfl
theorem zni (v:Pt) (hf:FitP v):PureC Tryz.prog 24 [aPts v,aPts v] (bb true):=by
 have h1:=hf.f.al;have h2:=hf.f.rs;have h3:=hf.f.ds;have hra:=zfG v.al v.al h1 h1;have hin:=Ints_k v.ds v.ds h3 h3;rw[decide_eq_true rfl] at hra hin;refine PureC.of kmix rfl ?_
 (conv=>whnf);repeat(first|refine KIf.f rfl ?_|refine KIf.f (congrArg Bool.not (decide_eq_true rfl)) ?_|refine KCall.pure (hra) ?_|refine KCall.pure (hin) ?_);conv=>whnf
 refine WLoop.inv kmix (D:=Nat) (fun d=>v.rs.length-d) (fun d=>d≤v.rs.length) (fun d=>slots [(2, .ptr 0 0),(3, .ptr 1 0),(4,bb false),(5,ib d)] 62) (fun d=>zaj [.row (aPt v) 26 0, .row (aPt v) 26 0]) 0 (Nat.zero_le _) ?_ ?_
 ·(refine Weak.of [0,1] [] rfl rfl ?_ ?_<;>(repeat' first|exact zT|refine zA ?_ ?_)<;>(conv=>whnf)<;>(repeat'(exact rfl))<;>((exact Or.inr ⟨rfl,rfl⟩)))
 ·intro d hd;by_cases hlt:d<v.rs.length
  ·have hm:=at_mem Rc.o v.rs d hlt
   (conv=>whnf);repeat(first|refine KIf.f rfl ?_|refine Need.mk (p:=zah _=true) ?_ ?_;decide+kernel|refine Need.mk ?_ ?_;(first|omega|(constructor<;>omega))|refine KIf.t (decide_eq_true (by omega)) ?_|refine DCall.pure (ze7 (at_ Rc.o v.rs d) (hf.f.ns _ hm) (hf.f.es _ hm) (hf.f.ss _ hm) (hf.f.rr _ hm)) ?_);conv=>whnf
   refine⟨d+1,hlt,by dsimp only;omega,?_⟩
   (refine Weak.of [0,1] [] rfl rfl ?_ ?_<;>(repeat' first|exact zT|refine zA ?_ ?_)<;>(conv=>whnf)<;>(repeat'(exact rfl))<;>((exact Or.inr ⟨rfl,rfl⟩)))
  ·(conv=>whnf);repeat(((refine KIf.f (decide_eq_false (by omega)) ?_;conv=>whnf)))
   refine .z [] ?_;exact zaa rfl
end Go.Proofs.YtgcjejajljhnaaaGreatDoor
