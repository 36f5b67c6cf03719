/- Own text, part Rprt 12: walks of the package acl and of its reference, and the plain laws that they lean on; no statement of the seat is here. -/
import Derived.Test.YtgcjejajljhnaaaGreatDoorRprt1
import Derived.Test.YtgcjejajljhnaaaGreatDoorRprt11
import Derived.Test.YtgcjejajljhnaaaGreatDoorRprt8
import Derived.Test.YtgcjejajljhnaaaGreatDoorRprt10
import Derived.Test.YtgcjejajljhnaaaGreatDoorRprt9
import Derived.Test.YtgcjejajljhnaaaGreatDoorRprt7
import Derived.Test.YtgcjejajljhnaaaGreatDoorRprt6
set_option linter.all false
namespace Go.Proofs.YtgcjejajljhnaaaGreatDoor
open Go.Ex Ck
set_option maxRecDepth 100000
set_option maxHeartbeats 4000000
theorem zr3 (n:Nat) (ph:Bool) (f:Ck.Rp->Nat->Ck.Rp) (p:Ck.Rp) (I:Nat->Ck.Rp->Prop) (hn:n<=96) (hI:∀j,j<=n-16->I j (it (zaO f) p j)) (hIn:∀j q,I j q->q.v.rs.length=n)
  (hcl:∀j q,16+j<n->I j q->own (at_ Rc.o q.v.rs (16+j))=true->HG Tryz.prog 3 20 220 150 [ib (16+j:Nat), .ptr 2 0] (gP ph q) [.row (zaC 20 1 q) 106 0, .row (flatI (rcP ph 20) 0 q.v.rs) 66 10, .row [.ptr 0 0] 107 0] (.tup [])
   (gP ph (f q (16+j))) [.row (zaC 20 1 (f q (16+j))) 106 0, .row (flatI (rcP ph 20) 0 (f q (16+j)).v.rs) 66 10, .row [.ptr 0 0] 107 0]):
  HG Tryz.prog 3 20 220 149 [.ptr 0 0, .fn (.func 150) [] [.ptr 2 0]] (gP ph p) [.row (zaC 20 1 p) 106 0, .row (flatI (rcP ph 20) 0 p.v.rs) 66 10, .row [.ptr 0 0] 107 0] (.tup [])
   (gP ph (below f p)) [.row (zaC 20 1 (below f p)) 106 0, .row (flatI (rcP ph 20) 0 (below f p).v.rs) 66 10, .row [.ptr 0 0] 107 0]:=by
 have hpn:p.v.rs.length=n:=hIn 0 p (hI 0 (ymX _));have hp96:p.v.rs.length<=96:=zo
 have hbe:below f p=it (zaO f) p (n-16):=by rw[←hpn];rfl
 rw[hbe];refine HG.of zal zo ?_;refine Ex.go ?_;refine Ex.wl (n-16) (λd=>zag [(0, .ptr 0 0),(1, .fn (.func 150) [] [.ptr 2 0]),(4,ib (16+d:Nat))] 27) (λd=>zaw 20 220 (gP ph (it (zaO f) p d)) [.row (zaC 20 1 (it (zaO f) p d)) 106 0, .row (flatI (rcP ph 20) 0 (it (zaO f) p d).v.rs) 66 10, .row [.ptr 0 0] 107 0]) ?_ ?_
 ·(exact Ex.wG [0,1,2] [] [] (⟨pQ rfl rfl,rQ hp96,⟨rfl,rfl,yzX (zbw ⟨rfl,rfl⟩)⟩,zT⟩))
 ·intro d hd;have hId:=hI d hd;have hst:it (zaO f) p (d+1)=zaO f (it (zaO f) p d) d:=rfl
  have hfin:d=n-16->it (zaO f) p d=it (zaO f) p (n-16):=λe=>by rw[e]
  have hIs:d+1<=n-16->I (d+1) (zaO f (it (zaO f) p d) d):=λh=>hst▸hI (d+1) h
  generalize it (zaO f) p d=q at*
  have hqn:q.v.rs.length=n:=hIn d q hId;have hq96:q.v.rs.length<=96:=zo
  have stay:∀{t:Tm} {s:St} {q':Ck.Rp},zaO f q d=q'->Weak 3 t s (zag [(0, .ptr 0 0),(1, .fn (.func 150) [] [.ptr 2 0]),(4,ib (16+(d+1):Nat))] 27) (zaw 20 220 (gP ph q') [.row (zaC 20 1 q') 106 0, .row (flatI (rcP ph 20) 0 q'.v.rs) 66 10, .row [.ptr 0 0] 107 0])->
    Weak 3 t s (zag [(0, .ptr 0 0),(1, .fn (.func 150) [] [.ptr 2 0]),(4,ib (16+(d+1):Nat))] 27) (zaw 20 220 (gP ph (it (zaO f) p (d+1))) [.row (zaC 20 1 (it (zaO f) p (d+1))) 106 0, .row (flatI (rcP ph 20) 0 (it (zaO f) p (d+1)).v.rs) 66 10, .row [.ptr 0 0] 107 0]):=λhe hw=>by rw[hst,he];exact hw
  refine Ex.go ?_;refine yPX (λh=> ?_) (λh=> ?_)
  ·have hltq:16+d<q.v.rs.length:=zo
   have hd0:(0:Int)<=((16+d:Nat):Int)/\((16+d:Nat):Int)<(q.v.rs.length:Nat):=⟨zo,zo⟩
   have hoff:0+((16+d:Nat):Int).toNat*10=(16+d)*10:=by rw[yrX,ylX]
   have hls:zaO f q d=if own (at_ Rc.o q.v.rs (16+d)) then f q (16+d) else q:=by unfold zaO;rw[zae]
   obtain⟨ob,hob⟩:∃b,own (at_ Rc.o q.v.rs (16+d))=b:=⟨_,rfl⟩
   have hown:=zhO (at_ Rc.o q.v.rs (16+d));rw[hob] at hown hls
   (conv=>whnf);repeat(first|refine Need.mk ?_ ?_;exact hd0|refine RK.of (zch (zab ph 20) Rc.o hoff rfl rfl hltq rfl) ?_|refine yoY ([]) (hown) (zgq) ?_);conv=>whnf
   cases ob
   ·refine Ex.go ?_;refine⟨d+1,zo,by dsimp only;omega,stay (q':=q) (by rw[hls];rfl) ?_⟩
    (exact Ex.wG [0,1,2] [] [] (⟨pQ rfl rfl,rQ hq96,⟨rfl,rfl,yzX (zbw ⟨rfl,rfl⟩)⟩,zT⟩))
   ·have hls2:zaO f q d=f q (16+d):=by rw[hls];rfl
    have hIs2:=hIs zo;rw[hls2] at hIs2
    have hf96:(f q (16+d)).v.rs.length<=96:=by rw[hIn _ _ hIs2];exact hn
    have hcl2:=hcl d q zo hId hob
    (conv=>whnf);repeat(first|refine ypY [0,1,2] (.tup []) [.row (zaC 220 1 (f q (16+d))) 106 0, .row (flatI (rcP ph 220) 0 ((f q (16+d))).v.rs) 66 10, .row [.ptr 0 0] 107 0] (hcl2) (⟨pF FR.G ⟨rfl,rfl⟩,rF FR.G hq96,⟨rfl,rfl,yzX (zbw ⟨rfl,rfl⟩)⟩,zT⟩) (⟨⟨rfl,rfl, .inl (zbg rfl)⟩,⟨rfl,rfl, .inl (zaE hf96)⟩,⟨rfl,rfl, .inl (zpg rfl)⟩,zT⟩) ?_ (hargs:=by((repeat' first|exact zT|exact rfl|refine zA ?_ ?_))) (h1:=(by unfold Rn Rnl;trivial))|refine Ex.g ?_);conv=>whnf
    refine⟨d+1,zo,by dsimp only;omega,stay hls2 ?_⟩
    (exact Ex.wG [0,1,2] [] [] (⟨pQ rfl rfl,rQ hf96,⟨rfl,rfl,yzX (zbw ⟨rfl,rfl⟩)⟩,zT⟩))
  ·conv=>whnf
   rw[←hfin zo];refine⟨?_⟩
   (exact Ex.wG [0,1,2] [] [] (⟨pQ rfl rfl,rQ hq96,⟨rfl,rfl,yzX (zbw ⟨rfl,rfl⟩)⟩,zT⟩))
theorem zr2 (n:Nat) (ph:Bool) (f:Ck.Rp->Nat->Ck.Rp) (p:Ck.Rp) (I:Nat->Ck.Rp->Prop) (hn:n<=96) (hI:∀j,j<=n-16->I j (it (zaO f) p j)) (hIn:∀j q,I j q->q.v.rs.length=n)
  (hcl:∀j q,16+j<n->I j q->own (at_ Rc.o q.v.rs (16+j))=true->HG Tryz.prog 3 20 220 155 [ib (16+j:Nat), .ptr 2 0] (gP ph q) [.row (zaC 20 1 q) 106 0, .row (flatI (rcP ph 20) 0 q.v.rs) 66 10, .row [.ptr 0 0] 107 0] (.tup [])
   (gP ph (f q (16+j))) [.row (zaC 20 1 (f q (16+j))) 106 0, .row (flatI (rcP ph 20) 0 (f q (16+j)).v.rs) 66 10, .row [.ptr 0 0] 107 0]):
  HG Tryz.prog 3 20 220 149 [.ptr 0 0, .fn (.func 155) [] [.ptr 2 0]] (gP ph p) [.row (zaC 20 1 p) 106 0, .row (flatI (rcP ph 20) 0 p.v.rs) 66 10, .row [.ptr 0 0] 107 0] (.tup [])
   (gP ph (below f p)) [.row (zaC 20 1 (below f p)) 106 0, .row (flatI (rcP ph 20) 0 (below f p).v.rs) 66 10, .row [.ptr 0 0] 107 0]:=by
 have hpn:p.v.rs.length=n:=hIn 0 p (hI 0 (ymX _));have hp96:p.v.rs.length<=96:=zo
 have hbe:below f p=it (zaO f) p (n-16):=by rw[←hpn];rfl
 rw[hbe];refine HG.of zal zo ?_;refine Ex.go ?_;refine Ex.wl (n-16) (λd=>zag [(0, .ptr 0 0),(1, .fn (.func 155) [] [.ptr 2 0]),(4,ib (16+d:Nat))] 27) (λd=>zaw 20 220 (gP ph (it (zaO f) p d)) [.row (zaC 20 1 (it (zaO f) p d)) 106 0, .row (flatI (rcP ph 20) 0 (it (zaO f) p d).v.rs) 66 10, .row [.ptr 0 0] 107 0]) ?_ ?_
 ·(exact Ex.wG [0,1,2] [] [] (⟨pQ rfl rfl,rQ hp96,⟨rfl,rfl,yzX (zbw ⟨rfl,rfl⟩)⟩,zT⟩))
 ·intro d hd;have hId:=hI d hd;have hst:it (zaO f) p (d+1)=zaO f (it (zaO f) p d) d:=rfl
  have hfin:d=n-16->it (zaO f) p d=it (zaO f) p (n-16):=λe=>by rw[e]
  have hIs:d+1<=n-16->I (d+1) (zaO f (it (zaO f) p d) d):=λh=>hst▸hI (d+1) h
  generalize it (zaO f) p d=q at*
  have hqn:q.v.rs.length=n:=hIn d q hId;have hq96:q.v.rs.length<=96:=zo
  have stay:∀{t:Tm} {s:St} {q':Ck.Rp},zaO f q d=q'->Weak 3 t s (zag [(0, .ptr 0 0),(1, .fn (.func 155) [] [.ptr 2 0]),(4,ib (16+(d+1):Nat))] 27) (zaw 20 220 (gP ph q') [.row (zaC 20 1 q') 106 0, .row (flatI (rcP ph 20) 0 q'.v.rs) 66 10, .row [.ptr 0 0] 107 0])->
    Weak 3 t s (zag [(0, .ptr 0 0),(1, .fn (.func 155) [] [.ptr 2 0]),(4,ib (16+(d+1):Nat))] 27) (zaw 20 220 (gP ph (it (zaO f) p (d+1))) [.row (zaC 20 1 (it (zaO f) p (d+1))) 106 0, .row (flatI (rcP ph 20) 0 (it (zaO f) p (d+1)).v.rs) 66 10, .row [.ptr 0 0] 107 0]):=λhe hw=>by rw[hst,he];exact hw
  refine Ex.go ?_;refine yPX (λh=> ?_) (λh=> ?_)
  ·have hltq:16+d<q.v.rs.length:=zo
   have hd0:(0:Int)<=((16+d:Nat):Int)/\((16+d:Nat):Int)<(q.v.rs.length:Nat):=⟨zo,zo⟩
   have hoff:0+((16+d:Nat):Int).toNat*10=(16+d)*10:=by rw[yrX,ylX]
   have hls:zaO f q d=if own (at_ Rc.o q.v.rs (16+d)) then f q (16+d) else q:=by unfold zaO;rw[zae]
   obtain⟨ob,hob⟩:∃b,own (at_ Rc.o q.v.rs (16+d))=b:=⟨_,rfl⟩
   have hown:=zhO (at_ Rc.o q.v.rs (16+d));rw[hob] at hown hls
   (conv=>whnf);repeat(first|refine Need.mk ?_ ?_;exact hd0|refine RK.of (zch (zab ph 20) Rc.o hoff rfl rfl hltq rfl) ?_|refine yoY ([]) (hown) (zgq) ?_);conv=>whnf
   cases ob
   ·refine Ex.go ?_;refine⟨d+1,zo,by dsimp only;omega,stay (q':=q) (by rw[hls];rfl) ?_⟩
    (exact Ex.wG [0,1,2] [] [] (⟨pQ rfl rfl,rQ hq96,⟨rfl,rfl,yzX (zbw ⟨rfl,rfl⟩)⟩,zT⟩))
   ·have hls2:zaO f q d=f q (16+d):=by rw[hls];rfl
    have hIs2:=hIs zo;rw[hls2] at hIs2
    have hf96:(f q (16+d)).v.rs.length<=96:=by rw[hIn _ _ hIs2];exact hn
    have hcl2:=hcl d q zo hId hob
    (conv=>whnf);repeat(first|refine ypY [0,1,2] (.tup []) [.row (zaC 220 1 (f q (16+d))) 106 0, .row (flatI (rcP ph 220) 0 ((f q (16+d))).v.rs) 66 10, .row [.ptr 0 0] 107 0] (hcl2) (⟨pF FR.G ⟨rfl,rfl⟩,rF FR.G hq96,⟨rfl,rfl,yzX (zbw ⟨rfl,rfl⟩)⟩,zT⟩) (⟨⟨rfl,rfl, .inl (zbg rfl)⟩,⟨rfl,rfl, .inl (zaE hf96)⟩,⟨rfl,rfl, .inl (zpg rfl)⟩,zT⟩) ?_ (hargs:=by((repeat' first|exact zT|exact rfl|refine zA ?_ ?_))) (h1:=(by unfold Rn Rnl;trivial))|refine Ex.g ?_);conv=>whnf
    refine⟨d+1,zo,by dsimp only;omega,stay hls2 ?_⟩
    (exact Ex.wG [0,1,2] [] [] (⟨pQ rfl rfl,rQ hf96,⟨rfl,rfl,yzX (zbw ⟨rfl,rfl⟩)⟩,zT⟩))
  ·conv=>whnf
   rw[←hfin zo];refine⟨?_⟩
   (exact Ex.wG [0,1,2] [] [] (⟨pQ rfl rfl,rQ hq96,⟨rfl,rfl,yzX (zbw ⟨rfl,rfl⟩)⟩,zT⟩))
theorem zvr (n:Nat) (p:Ck.Rp) (hf:Rk n p) (hn:n<=96) (hb:p.fd.length<=300000):HG Tryz.prog 2 20 220 108 [.ptr 0 0] (gP false p) [.row (zaC 20 1 p) 106 0, .row (flatI (rcP false 20) 0 p.v.rs) 66 10] (.tup [])
  (gP false (badNames p)) [.row (zaC 20 1 (badNames p)) 106 0, .row (flatI (rcP false 20) 0 (badNames p).v.rs) 66 10]:=by
 have hp96:p.v.rs.length<=96:=by rw[hf.rf.n];exact hn
 obtain⟨B,hB⟩:∃B,B=1000:=⟨_,rfl⟩
 have hI:=zhG hB hf;have hbl:=zr3 n false badNames1 p (λj q=>Rk n q/\q.fd.length<=p.fd.length+j*B) hn hI (λj q h=>h.1.rf.n) (λj q hj h _=>zs6 n q (16+j) h.1 hn hj (by have:=h.2;have:j*B<=96*B:=yEX _ zo;omega))
 have hl96:(badNames p).v.rs.length<=96:=by
  have:=(hI (n-16) (yhX _)).1.rf.n;unfold badNames below;rw[hf.rf.n,this];exact hn
 refine HG.of zal zo ?_
 (conv=>whnf);repeat((refine ypY [0,1,220] (.tup []) [.row (zaC 221 1 (badNames p)) 106 0, .row (flatI (rcP false 221) 0 ((badNames p)).v.rs) 66 10, .row [.ptr 0 0] 107 0] (hbl) (⟨pF FR.G ⟨rfl,rfl⟩,rF FR.G hp96,⟨rfl,rfl,yzX (zbw ⟨rfl,rfl⟩)⟩,zT⟩) (⟨⟨rfl,rfl, .inl (zbg rfl)⟩,⟨rfl,rfl, .inl (zaE hl96)⟩,⟨rfl,rfl, .inl (zpg rfl)⟩,zT⟩) ?_ (hargs:=by((repeat' first|exact zT|exact rfl|refine zA ?_ ?_))) (h1:=(by unfold Rn Rnl;trivial));conv=>whnf))
 refine⟨?_⟩
 (exact Ex.wG [0,1] [] [] (⟨pQ rfl rfl,rQ hl96,zT⟩))
end Go.Proofs.YtgcjejajljhnaaaGreatDoor
namespace Ck
open Go Go.Ex
theorem zp2 {h:T AO} {z:List Nat} {rr:Nat->Nat} {b:Nat} {e:TypeId} {q:Nat} {c t:List AV} {x:Nm} (hr:h.get b=some (.row c e q)) (hc:c=aNm x++t) (hz:b∈z):Wv h z rr (LS 3 aNm Nm.o [x]) (.sl b 0 1 1):=by
 subst hc;unfold Wv Wz;refine⟨rfl,yhX _,hz,rfl,_,_,_,hr,by show 3<=_;simp[aNm],λi hi=> ?_⟩;have hi:i<1:=hi;obtain rfl:i=0:=zo;exact⟨rfl,zbz x⟩
end Ck
namespace Go.Proofs.YtgcjejajljhnaaaGreatDoor
open Go.Ex Ck
set_option maxRecDepth 100000
set_option maxHeartbeats 16000000
def zil :Prop:=∀n:Nat,n<=9000->PureC Tryz.prog 82 [ib (n:Nat)] (tb (Ck.dec n))
theorem zrV (hIt:zil) (n:Nat) (p:Ck.Rp) (r:Nat) (hf:Rk n p) (hn:n<=96) (hr:16<=r/\r<n):HG Tryz.prog 2 20 220 156 [.ptr 0 0,ib (r:Nat)] (gP false p) [.row (zaC 20 1 p) 106 0, .row (flatI (rcP false 20) 0 p.v.rs) 66 10] (.tup [])
  (gP false (Ck.bring p r)) [.row (zaC 20 1 (Ck.bring p r)) 106 0, .row (flatI (rcP false 20) 0 (Ck.bring p r).v.rs) 66 10]:=by
 have hpn:p.v.rs.length=n:=hf.rf.n;have h96:p.v.rs.length<=96:=zo;have h5l:5<p.v.rs.length:=zo;have hrl:r<p.v.rs.length:=zo;have hr100:r<100:=zo;obtain⟨b1,b2,b3,b4⟩:=hf.at (show 5<n by omega)
 obtain⟨es,hes⟩:∃es,(at_ Rc.o p.v.rs 5).es=es:=⟨_,rfl⟩
 rw[hes] at b2 b3
 have hbr:Ck.bring p r=enter (p.setR r {at_ Rc.o p.v.rs r with ns:=[⟨p.ref 5,zad r (zbY es r 0 (es.length+1))⟩]}) 5 (zad r (zbY es r 0 (es.length+1))) r:=by
  unfold Ck.bring;dsimp only;rw[show p.rc 5=at_ Rc.o p.v.rs 5 from rfl,hes,zae]
 have hdl:(Ck.dec r).length<=4:=(zea 3 r zo).2
 have hadd:(([102,111,117,110,100,46]:List UInt8)).length+(Ck.dec r).length<=9223372036854775807:=by simp;omega
 refine HG.of zal zo ?_
 (conv=>whnf);repeat(first|refine yaX (hIt r zo) ?_|refine Need.mk ?_ ?_;exact hadd);conv=>whnf
 refine yFX zal (D:=Nat) (λj=>es.length+1-j) (λj=>j<=es.length/\∀i,i<j->zcX es r i=true) (λj=>zag [(0, .ptr 0 0),(1,ib r),(4,tb (found++Ck.dec r)),(5, .ptr 2 0),(6,ib (j+1:Nat))] 45)
  (λj=>zaw 20 220 (gP false p) [.row (zaC 20 1 p) 106 0, .row (flatI (rcP false 20) 0 p.v.rs) 66 10, .row [tb (zad r j)] 9 0]) 0 ⟨ymX _,λi hi=>absurd hi (ypX _)⟩ ?_ ?_
 ·(exact Ex.wG [0,1,220] [] [] (⟨pQ rfl rfl,rQ h96,⟨rfl,rfl, .same rfl rfl⟩,zT⟩))
 ·rintro j ⟨hj,htk⟩
  have hoff9:0+(5:Int).toNat*10+9=5*10+9:=by decide
  have hnok:zdm (zad r j):=by
   have h1:=zgd (k:=j) hr100 zo;unfold zdm;rw[zb8,yvX];show 6+(zdk r j).length<=100000;omega
  have hcon:=zgH [tb (zad r j)] (λx=>Ck.same x.n (zad r j)) es zo (λx hx=>ztK x (zad r j) (b2.2 x hx) hnok)
  obtain⟨b,hb⟩:∃b,(es.any λx=>Ck.same x.n (zad r j))=b:=⟨_,rfl⟩
  rw[hb] at hcon
  have hd5:(0:Int)<=5/\(5:Int)<(p.v.rs.length:Nat):=⟨zo,zo⟩
  have hr0:(0:Int)<=(r:Nat)/\((r:Nat):Int)<(p.v.rs.length:Nat):=⟨zo,zo⟩
  have h7:0+((r:Nat):Int).toNat*10+7=r*10+7:=by simp
  have href:=zie p 5 h5l h96
  by_cases he:es=[]
  ·subst he;have e1:seE 20 5 (at_ Rc.o p.v.rs 5)=LS 4 aEn En.o []:=zbM hes;cases b
   ·have hK:zbY ([]:List En) r 0 (([]:List En).length+1)=j:=zeb (([]:List En).length+1) 0 j (ymX _) zo (λi _ hi=>htk i hi) hb;rw[hK] at hbr;rw[hbr];have hgq:gP false (p.setR r {at_ Rc.o p.v.rs r with ns:=[⟨p.ref 5,zad r j⟩]})=gP false p:=zc4 ⟨rfl,rfl⟩
    have hq:Rk n (p.setR r {at_ Rc.o p.v.rs r with ns:=[⟨p.ref 5,zad r j⟩]}):=by
     obtain⟨c1,c2,c3,c4⟩:=hf.at hr.2;exact hf.setR r _ (hf.rf.at hr.2) ⟨by show(1:Nat)<=1000;omega,λm hm=>by rw[yiX.1 hm];exact hnok⟩ c2 c3 c4
    have hent:=zmP n (p.setR r {at_ Rc.o p.v.rs r with ns:=[⟨p.ref 5,zad r j⟩]}) 5 r (zad r j) hq.rf hn zo hr.2 (λw hw=>⟨hq.ss w hw,(hq.na.es w hw).1⟩)
    have he96:(enter (p.setR r {at_ Rc.o p.v.rs r with ns:=[⟨p.ref 5,zad r j⟩]}) 5 (zad r j) r).v.rs.length<=96:=by unfold Ck.enter Rp.setR;simp only[yoX];exact h96
    rw[hgq] at hent
    (conv=>whnf);repeat(first|refine Need.mk ?_ ?_;exact hd5|refine RK.of (zam (zab false 20) Rc.o (k:=9) hoff9 rfl rfl h5l (by decide) rfl) ?_|rw[e1]|refine yoY ([2]) (hcon) (Wzc (ydX rfl) (Wzc (zcs rfl (by simp) (zpG _)) Wzn)) ?_|refine yRY (zF 20 [0,1]) (href) (Wzc (zif (Lies.mk (λj hj=>za3 hj) (λj hj=>zah zo)) h96 rfl (zbt (by simp)) rfl (zbt (by simp))) (Wzc (ydX rfl) Wzn)) ?_|refine Need.mk ?_ ?_;exact hr0|refine zaV (zab false 20) Rc.o (k:=7) [.sl 220 0 1 1] (rcN 20 r (at_ Rc.o p.v.rs r) (.sl 220 0 1 1)) h7 rfl rfl rfl rfl rfl rfl hrl (by decide) rfl ?_|refine Ex.g ?_);conv=>whnf
    (conv=>whnf);repeat((refine yYZ [0,1] [220] (.tup []) [.row (zaC 221 1 (enter (p.setR r {at_ Rc.o p.v.rs r with ns:=[⟨p.ref 5,zad r j⟩]}) 5 (zad r j) r)) 106 0, .row (flatI (rcP false 221) 0 ((enter (p.setR r {at_ Rc.o p.v.rs r with ns:=[⟨p.ref 5,zad r j⟩]}) 5 (zad r j) r)).v.rs) 66 10] (hent) rfl (yQX _ _) (yQX _ _) ?_ ?_ ?_ ?_;exact⟨⟨rfl,rfl,by rw[zbC];exact yzX (zdY ⟨rfl,rfl⟩ zN)⟩,⟨rfl,rfl,yzX (zaI (i:=r) h96 yoX (λk hk=>zap _ _ _ _ _ (Ne.symm hk)) zN (by show WL _ _ _ (rcP false 20 r (at_ Rc.o (p.v.rs.set r _) r)) _;rw[zaj _ _ _ _ hrl];exact zjs zo zN (zp2 (x:=⟨p.ref 5,zad r j⟩) (t:=[]) rfl rfl (by simp))))⟩,zT⟩;(focus((repeat' first|exact zT|exact rfl|refine zA ?_ ?_)));exact⟨(by unfold Rn Rnl;trivial),rfl,⟨rfl,rfl, .inl (zbg rfl)⟩,⟨rfl,rfl, .inl (zaE he96)⟩,zT⟩;conv=>whnf))
    refine⟨?_⟩
    (exact Ex.wG [0,1] [] [] (⟨pQ rfl rfl,rQ he96,zT⟩))
   ·exact absurd hb (by simp)
  ·have e1:seE 20 5 (at_ Rc.o p.v.rs 5)= .so (fam 20 (2*5+1)) 0 es.length 0:=by rw[←hes];exact zbB (by rw[hes];exact he)
   have hge:gP false p (2*5+1)=some (.row (es.flatMap aEn) 73 4):=by rw[←hes];exact zfA h5l zo (by rw[hes];exact he)
   have h9:2*5+1<200:=zo;cases b
   ·have hK:zbY es r 0 (es.length+1)=j:=zeb (es.length+1) 0 j (ymX _) zo (λi _ hi=>htk i hi) hb;rw[hK] at hbr;rw[hbr];have hgq:gP false (p.setR r {at_ Rc.o p.v.rs r with ns:=[⟨p.ref 5,zad r j⟩]})=gP false p:=zc4 ⟨rfl,rfl⟩
    have hq:Rk n (p.setR r {at_ Rc.o p.v.rs r with ns:=[⟨p.ref 5,zad r j⟩]}):=by
     obtain⟨c1,c2,c3,c4⟩:=hf.at hr.2;exact hf.setR r _ (hf.rf.at hr.2) ⟨by show(1:Nat)<=1000;omega,λm hm=>by rw[yiX.1 hm];exact hnok⟩ c2 c3 c4
    have hent:=zmP n (p.setR r {at_ Rc.o p.v.rs r with ns:=[⟨p.ref 5,zad r j⟩]}) 5 r (zad r j) hq.rf hn zo hr.2 (λw hw=>⟨hq.ss w hw,(hq.na.es w hw).1⟩)
    have he96:(enter (p.setR r {at_ Rc.o p.v.rs r with ns:=[⟨p.ref 5,zad r j⟩]}) 5 (zad r j) r).v.rs.length<=96:=by unfold Ck.enter Rp.setR;simp only[yoX];exact h96
    rw[hgq] at hent
    (conv=>whnf);repeat(first|refine Need.mk ?_ ?_;exact hd5|refine RK.of (zam (zab false 20) Rc.o (k:=9) hoff9 rfl rfl h5l (by decide) rfl) ?_|rw[e1]|refine yoY (zF 20 [2]) (hcon) (Wzc (zl8 (λ_=>rfl) (λ_=>rfl) ((zah h9).trans hge) (za3 h9) rfl) (Wzc (zcs rfl (zbt (by simp)) (zpG _)) Wzn)) ?_|refine yRY (zF 20 [0,1]) (href) (Wzc (zif (Lies.mk (λj hj=>za3 hj) (λj hj=>zah zo)) h96 rfl (zbt (by simp)) rfl (zbt (by simp))) (Wzc (ydX rfl) Wzn)) ?_|refine Need.mk ?_ ?_;exact hr0|refine zaV (zab false 20) Rc.o (k:=7) [.sl 220 0 1 1] (rcN 20 r (at_ Rc.o p.v.rs r) (.sl 220 0 1 1)) h7 rfl rfl rfl rfl rfl rfl hrl (by decide) rfl ?_|refine Ex.g ?_);conv=>whnf
    (conv=>whnf);repeat((refine yYZ [0,1] [220] (.tup []) [.row (zaC 221 1 (enter (p.setR r {at_ Rc.o p.v.rs r with ns:=[⟨p.ref 5,zad r j⟩]}) 5 (zad r j) r)) 106 0, .row (flatI (rcP false 221) 0 ((enter (p.setR r {at_ Rc.o p.v.rs r with ns:=[⟨p.ref 5,zad r j⟩]}) 5 (zad r j) r)).v.rs) 66 10] (hent) rfl (yQX _ _) (yQX _ _) ?_ ?_ ?_ ?_;exact⟨⟨rfl,rfl,by rw[zbC];exact yzX (zdY ⟨rfl,rfl⟩ zN)⟩,⟨rfl,rfl,yzX (zaI (i:=r) h96 yoX (λk hk=>zap _ _ _ _ _ (Ne.symm hk)) zN (by show WL _ _ _ (rcP false 20 r (at_ Rc.o (p.v.rs.set r _) r)) _;rw[zaj _ _ _ _ hrl];exact zjs zo zN (zp2 (x:=⟨p.ref 5,zad r j⟩) (t:=[]) rfl rfl (by simp))))⟩,zT⟩;(focus((repeat' first|exact zT|exact rfl|refine zA ?_ ?_)));exact⟨(by unfold Rn Rnl;trivial),rfl,⟨rfl,rfl, .inl (zbg rfl)⟩,⟨rfl,rfl, .inl (zaE he96)⟩,zT⟩;conv=>whnf))
    refine⟨?_⟩
    (exact Ex.wG [0,1] [] [] (⟨pQ rfl rfl,rQ he96,zT⟩))
   ·have hle:=zi8 (es:=es) (r:=r) (j:=j+1) hr100 zo (λi hi=>by
     by_cases hij:i=j
     ·rw[hij];exact hb
     ·exact htk i zo)
    have hkl:(Ck.dec (j+1)).length<=4:=(zea 3 (j+1) zo).2
    have hs1:(found++Ck.dec r).length+([46]:List UInt8).length<=9223372036854775807:=by simp[found];omega
    have hs2:(found++Ck.dec r++[46]).length+(Ck.dec (j+1)).length<=9223372036854775807:=by simp[found];omega
    (conv=>whnf);repeat(first|refine Need.mk ?_ ?_;exact hd5|refine RK.of (zam (zab false 20) Rc.o (k:=9) hoff9 rfl rfl h5l (by decide) rfl) ?_|rw[e1]|refine yoY (zF 20 [2]) (hcon) (Wzc (zl8 (λ_=>rfl) (λ_=>rfl) ((zah h9).trans hge) (za3 h9) rfl) (Wzc (zcs rfl (zbt (by simp)) (zpG _)) Wzn)) ?_|refine yaX (hIt (j+1) zo) ?_|refine Need.mk ?_ ?_;(focus(first|exact hs1|exact hs2))|refine Ex.g ?_);conv=>whnf
    refine⟨j+1,⟨hle,λi hi=>by
     by_cases hij:i=j
     ·rw[hij];exact hb
     ·exact htk i zo⟩,by dsimp only;omega,?_⟩
    (exact Ex.wG [0,1,2] [] [] (⟨pQ rfl rfl,rQ h96,⟨rfl,rfl, .same rfl rfl⟩,zT⟩))
end Go.Proofs.YtgcjejajljhnaaaGreatDoor
namespace Ck
open Go Go.Ex
def zwt (n:Nat):List UInt8:=if n=0 then [] else dec n
theorem zrG {n:Nat} (h:n≠0):zwt n=zwt (n/10)++[digit n]:=by
 unfold zwt;rw[yfX h];by_cases h1:n<10
 ·rw[dec_lt h1,ygX zo];rfl
 ·rw[ziR h1,yfX zo]
theorem ztY (d:Nat):((d:Nat):Int).tdiv 10=((d/10:Nat):Int):=by rw[yGY zo];omega
theorem zwB (d:Nat):((d:Nat):Int).tmod 10=((d%10:Nat):Int):=by rw[ymY zo];omega
theorem ztJ {p:Rp} {r K:Nat} (hK:zbY (at_ Rc.o p.v.rs 5).es r 0 ((at_ Rc.o p.v.rs 5).es.length+1)=K):bring p r=enter (zaD r [⟨p.ref 5,zad r K⟩] p) (5:Nat) (zad r K) r:=by
 have e5:p.rc 5=at_ Rc.o p.v.rs 5:=rfl;unfold bring zaD;rw[e5,hK,zae];rfl
theorem zqy {p:Rp} (hv:Rv p) (h:Fit5 p) (h96:p.v.rs.length<=96) (h5:dir (at_ Rc.o p.v.rs 5)=true):∀k,k<=p.v.rs.length-16->Fit5 (it (λq j=>if own (q.rc (16+j:Nat)) then zaz q (16+j) else q) p k)/\Rv (it (λq j=>if own (q.rc (16+j:Nat)) then zaz q (16+j) else q) p k)/\Kp p (it (λq j=>if own (q.rc (16+j:Nat)) then zaz q (16+j) else q) p k):=by
 refine zbo (I:=λk q=>Fit5 q/\Rv q/\Kp p q) (λs k hk ⟨a1,a2,a3⟩=> ?_) ⟨h,hv,ybY p⟩
 have hs96:s.v.rs.length<=96:=by rw[a3.2.2.2];exact h96
 have hs5:dir (at_ Rc.o s.v.rs 5)=true:=by rw[a3.2.1.dir];exact h5
 have hes:(at_ Rc.o s.v.rs 5).es.length<=640:=yBX (zkf a1 5) (zeU a2 hs96);split
 ·rename_i ho;unfold zaz;split
  ·rename_i h0;rw[zae] at h0;have hn:Kp s (s.note 6 (16+k:Nat) 0):=(ybY s).of_v rfl
   have hil:16<=16+k/\16+k<(s.note 6 (16+k:Nat) 0).v.rs.length:=⟨zo,by show 16+k<s.v.rs.length;rw[a3.2.2.2];omega⟩
   refine⟨?_,?_,a3.trans (hn.bring _)⟩
   ·exact((a1.of_v (q:=s.note 6 (16+k:Nat) 0) rfl).fx (r:=16+k) (yeX h0)).bring hil hs96 ho hs5 (by show(at_ Rc.o s.v.rs 5).es.length<9000;omega)
   ·exact(a2.of_v (q:=s.note 6 (16+k:Nat) 0) rfl).bring hs96 hil ho hs5 (by show(at_ Rc.o s.v.rs 5).es.length<700;omega)
  ·exact⟨a1,a2,a3⟩
 ·exact⟨a1,a2,a3⟩
end Ck
namespace Go.Proofs.YtgcjejajljhnaaaGreatDoor
open Go.Ex Ck
set_option maxRecDepth 100000
set_option maxHeartbeats 8000000
theorem zxQ (n:Nat) (hn:n<=100000):PureC Tryz.prog 128 [ib (n:Nat)] (ib (n:Nat)):=by
 have hm:zxc (n:Int) (0-(n:Int))=n:=by unfold zxc;rw[yfX zo]
 refine ytX zal rfl ?_
 (conv=>whnf);repeat((refine Ex.g ?_;conv=>whnf))
 rw[hm];refine .z [] ?_;exact ydX rfl
theorem zlU (n:Nat) (hn:n<=9000):PureC Tryz.prog 83 [ib (n:Nat)] (tb (Ck.dec n)):=by
 refine ytX zal rfl ?_;by_cases h0:n=0
 ·subst h0;rw[dec_lt zo]
  (conv=>whnf);repeat((refine Ex.g ?_;conv=>whnf))
  refine .z [] ?_;exact ydX rfl
 ·have hi0:¬((n:Nat):Int)=0:=zo;have hdp:zwt n=dec n:=yfX h0;have hdl:(dec n).length<=5:=(zea 4 n zo).2
  (conv=>whnf);repeat((refine Ex.g ?_;conv=>whnf))
  refine yFX zal (D:=Nat×List UInt8) (λd=>d.1) (λd=>zwt d.1++d.2=dec n/\d.1<=n) (λd=>zag [(0,ib d.1),(2,tb []),(3,tb d.2),(4,tb [])] 27) (λd=>zan []) (n,[]) ⟨by rw[yKX];exact hdp,yhX _⟩ ?_ ?_
  ·exact Ex.wO [] []
  rintro⟨m,acc⟩ ⟨hI,hm⟩;dsimp only at hI hm⊢;by_cases hm0:m=0
  ·subst hm0;have hacc:acc=dec n:=hI;rw[←hacc]
   have hl:([]:List UInt8).length+acc.length<=9223372036854775807:=by rw[hacc];simp;omega
   (conv=>whnf);repeat(first|refine Need.mk ?_ ?_;exact hl|refine Ex.g ?_);conv=>whnf
   refine .z [] ?_;exact ydX rfl
  ·have hmi:¬((m:Nat):Int)=0:=zo;have hA:=zxQ (m%10) zo;have hstep:=zrG hm0
   have hal:acc.length<=5:=by have:=yqX List.length hI;simp at this;omega
   have hq:(10:Int)≠0/\Small (((m:Nat):Int).tdiv 10):=⟨zo,by unfold Small;rw[ztY];omega⟩
   have hr:(10:Int)≠0:=zo
   have hX:UInt8.ofNat (zeL .u8 (48+((m%10:Nat):Int))).toNat=digit m:=by
    have key:∀k:Fin 10,UInt8.ofNat (zeL .u8 (48+((k.1:Nat):Int))).toNat=UInt8.ofNat (48+k.1):=by decide+kernel
    exact key ⟨m%10,zo⟩
   have hl:[UInt8.ofNat (zeL .u8 (48+((m%10:Nat):Int))).toNat].length+acc.length<=9223372036854775807:=by simp;omega
   (conv=>whnf);repeat(first|refine KIf.t (yqX Bool.not (ycX hmi)) ?_|refine Need.mk ?_ ?_;(focus(first|exact hq|exact hr|exact hl))|refine yaX (hA) ?_|rw[zwB]|rw[ztY]|refine Ex.g ?_);conv=>whnf
   refine⟨(m/10,digit m::acc),⟨by show zwt (m/10)++([digit m]++acc)=dec n;rw[←yVX,←hstep];exact hI,by show m/10<=n;omega⟩,by show m/10<m;omega,?_⟩;dsimp only;rw[←hX];exact Ex.wO [] []
theorem znz (n:Nat) (p:Ck.Rp) (r:Nat) (hf:Rk n p) (hrv:Rv p) (hn:n<=96) (hr:16<=r/\r<n):HG Tryz.prog 2 20 220 119 [.agg (rV n 20 0 1 p),ib (r:Nat)] (gP false (nf p)) [.row (flatI (rcP false 20) 0 (p).v.rs) 66 10, .row ((cnL n (p)).map bb) 4 0] (.agg (rV n 20 0 1 (Ck.bring p r)))
  (gP false (nf (Ck.bring p r))) [.row (flatI (rcP false 20) 0 ((Ck.bring p r)).v.rs) 66 10, .row ((cnL n ((Ck.bring p r))).map bb) 4 0]:=by
 have hpn:p.v.rs.length=n:=hf.rf.n;have h96:p.v.rs.length<=96:=zo;have h5l:5<p.v.rs.length:=zo;have hrl:r<p.v.rs.length:=zo;have hr96:r<96:=zo;obtain⟨b1,b2,b3,b4⟩:=hf.at (show 5<n by omega);have hleg:∀e∈(at_ Rc.o p.v.rs 5).es,zau e.n=0:=λe he=>(zbv ((hrv.at h5l).en e he)).1
 obtain⟨es,hes⟩:∃es,(at_ Rc.o p.v.rs 5).es=es:=⟨_,rfl⟩
 rw[hes] at b2;have hdl:(Ck.dec r).length<=4:=(zea 3 r zo).2
 have hadd:(([102,111,117,110,100,46]:List UInt8)).length+(Ck.dec r).length<=9223372036854775807:=by simp;omega
 refine HG.of zal zo ?_
 (conv=>whnf);repeat(first|refine yaX (zlU r zo) ?_|refine Need.mk ?_ ?_;exact hadd);conv=>whnf
 refine yFX zal (D:=Nat) (λj=>es.length+1-j) (λj=>j<=es.length/\∀i,i<j->zcX es r i=true) (λj=>zag [(1,ib r),(2, .ptr 2 0),(4, .ptr 3 0),(5,tb (found++Ck.dec r)),(6,tb (zad r j)),(7,ib (j+1:Nat))] 40) (λj=>zaw 20 220 (gP false (nf (p))) [.row (flatI (rcP false 20) 0 (p).v.rs) 66 10, .row ((cnL n (p)).map bb) 4 0, .row (rV n 20 0 1 (p)) 53 0, .row zkw 53 0]) 0 ⟨ymX _,λi hi=>absurd hi (ypX _)⟩ ?_ ?_
 ·exact Ex.wG [0,1,220,221] [] [] ⟨rQ h96,bR,bV,aR,zT⟩
 rintro j ⟨hj,htk⟩;have hnok:zau (zad r j)=0:=zkt zo zo;have hAt:=zoJ p.v 5 (zad r j) h5l (by rw[hes];omega) hleg hnok;rw[hes] at hAt;have hany:=zds (λe:En=>Ck.same e.n (zad r j)) es 0
 obtain⟨I,hI⟩:∃I,ixL (λe:En=>Ck.same e.n (zad r j)) es 0=I:=⟨_,rfl⟩
 rw[hI] at hAt hany;have hRf:=zic p.v 5 h5l
 obtain⟨b,hb⟩:∃b,zcX es r j=b:=⟨_,rfl⟩
 have hIb:decide (0<=I)=b:=hany.trans hb;cases b
 ·have hK:zbY es r 0 (es.length+1)=j:=zeb (es.length+1) 0 j (ymX _) zo (λi _ hi=>htk i hi) hb;have hbr:=ztJ (p:=p) (r:=r) (K:=j) (by rw[hes];exact hK);rw[hbr];have hge:¬I≥0:=of_decide_eq_false hIb
  have h7:0+((r:Nat):Int).toNat*10+7=r*10+7:=by simp
  have hr0:(0:Int)<=(r:Nat)/\((r:Nat):Int)<(n:Nat):=⟨zo,zo⟩
  have href:p.ref 5=⟨5,(at_ Rc.o p.v.rs 5).q⟩:=rfl
  have hse:∀x∈(zaD r [⟨p.ref 5,zad r j⟩] p).v.rs,x.ss.length<=100000/\x.es.length<=1000:=λx hx=>by
   rcases mem_set hx with hx|rfl
   ·exact⟨hf.ss x hx,(hf.na.es x hx).1⟩
   ·exact⟨(hf.at hr.2).2.2.2,(hf.at hr.2).2.1.1⟩
  have hp'n:(zaD r [⟨p.ref 5,zad r j⟩] p).v.rs.length=n:=setNs_len.trans hpn;have hAE:=zi1 n (zaD r [⟨p.ref 5,zad r j⟩] p) 5 r (zad r j) hp'n hn zo hr.2 hse;have hgq:gP false (nf (zaD r [⟨p.ref 5,zad r j⟩] p))=gP false (nf p):=zc4 (p:=nf p) ⟨rfl,rfl⟩;rw[hgq] at hAE
  obtain⟨Z,hZ⟩:∃Z,enter (zaD r [⟨p.ref 5,zad r j⟩] p) (5:Nat) (zad r j) r=Z:=⟨_,rfl⟩
  rw[hZ] at hAE⊢
  have hz96:Z.v.rs.length<=96:=by rw[←hZ];show(List.set _ _ _).length<=96;rw[yoX];omega
  (conv=>whnf);repeat(first|refine Need.mk ?_ ?_;exact hr0|refine Ck.lV p (hAt) h96 hpn.symm (Wzc (ydX rfl) (Wzc (ydX rfl) Wzn)) ?_|refine KIf.f (ycX hge) ?_|refine Ck.lD p (hRf) h96 hpn.symm (Wzc (ydX rfl) Wzn) ?_|refine zaV (zab false 20) Rc.o (k:=7) [.sl 220 0 1 1] (rcN 20 r (at_ Rc.o p.v.rs r) (.sl 220 0 1 1)) h7 rfl rfl rfl rfl rfl rfl hrl (by decide) rfl ?_|refine yYZ [0,1] [220] (.agg (rV n 221 0 1 (Z))) [.row (flatI (rcP false 221) 0 (Z).v.rs) 66 10, .row ((cnL n (Z)).map bb) 4 0] (hAE) rfl (yQX _ _) (yQX _ _) ?_ ?_ ?_ ?_;exact⟨⟨rfl,rfl,yzX (zaI (i:=r) h96 setNs_len (λk hk=>zap _ _ _ _ _ (Ne.symm hk)) zN (by show WL _ _ _ (rcP false 20 r (at_ Rc.o (zaD r [⟨p.ref 5,zad r j⟩] p).v.rs r)) _;rw[zaY hrl,ygX rfl];exact zjs hr96 zN (zp2 (x:=⟨p.ref 5,zad r j⟩) (t:=[]) rfl rfl (by simp))))⟩,bR,zT⟩;exact ywX (za2 (zdN FR.G ⟨rfl,rfl⟩ ⟨rfl,rfl⟩)) (WL.sc rfl (WL.sc rfl (WL.sc rfl yMX)));exact⟨(zdC (zdq FN.G rfl rfl)),rfl,⟨⟨rfl,rfl, .inl (zaE hz96)⟩,⟨rfl,rfl, .inr ⟨rfl,zaF _⟩⟩,zT⟩⟩|refine ygY (rV n 221 0 1 Z) ?_|refine Ex.g ?_);conv=>whnf
  exact⟨Ex.wG [0,1] [] [] ⟨rQ hz96,bR,zT⟩ (hsl:=by exact⟨za2 (zgB ⟨rfl,rfl⟩ ⟨rfl,rfl⟩ zN),zT⟩)⟩
 ·have hge:I≥0:=yiZ hIb
  have hall:∀i,i<j+1->zcX es r i=true:=λi hi=>by
   by_cases hij:i=j
   ·rw[hij];exact hb
   ·exact htk i zo
  have hle:=zi8 (es:=es) (r:=r) (j:=j+1) zo zo hall;have hkl:(Ck.dec (j+1)).length<=4:=(zea 3 (j+1) zo).2
  have hs1:(found++Ck.dec r).length+([46]:List UInt8).length<=9223372036854775807:=by simp[found];omega
  have hs2:(found++Ck.dec r++[46]).length+(Ck.dec (j+1)).length<=9223372036854775807:=by simp[found];omega
  (conv=>whnf);repeat(first|refine Need.mk ?_ ?_;(focus(first|exact hs1|exact hs2))|refine Ck.lV p (hAt) h96 hpn.symm (Wzc (ydX rfl) (Wzc (ydX rfl) Wzn)) ?_|refine KIf.t (ybX hge) ?_|refine yaX (zlU (j+1) zo) ?_|refine Ex.g ?_);conv=>whnf
  refine⟨j+1,⟨hle,hall⟩,by dsimp only;omega,?_⟩;exact Ex.wG [0,1,2,3] [] [] ⟨rQ h96,bR,bV,aR,zT⟩
theorem zoE (n L:Nat) (p:Ck.Rp) (hf:Rk n p) (hrv:Rv p) (hfit:Fit5 p) (hn:n<=96) (hb:p.fd.length<=400000) (hL:EsL L p) (hl:L+n<1000) (hroot:dir (at_ Rc.o p.v.rs 5)=true):HG Tryz.prog 2 20 220 67 [.agg (rV n 20 0 1 p)] (gP false (nf p)) [.row (flatI (rcP false 20) 0 (p).v.rs) 66 10, .row ((cnL n (p)).map bb) 4 0] (.agg (rV n 20 0 1 (orphans p)))
  (gP false (nf (orphans p))) [.row (flatI (rcP false 20) 0 ((orphans p)).v.rs) 66 10, .row ((cnL n ((orphans p))).map bb) 4 0]:=by
 have hpn:=hf.rf.n;have h96:p.v.rs.length<=96:=zo;have hI:=zeT hf hn hL hl;have hI2:=zqy hrv hfit h96 hroot;rw[hpn] at hI2;refine HG.of zal zo ?_;refine Ex.go ?_;refine Ex.wl n (λd=>zag [(1, .ptr 2 0),(2, .ptr 3 0),(3,ib d)] 34) (λd=>zaw 20 220 (gP false (nf (blw zaz p d))) [.row (flatI (rcP false 20) 0 (blw zaz p d).v.rs) 66 10, .row ((cnL n (blw zaz p d)).map bb) 4 0, .row (rV n 20 0 1 (blw zaz p d)) 53 0, .row zkw 53 0]) ?_ ?_
 ·exact Ex.wG [0,1,220,221] [] [] ⟨rQ h96,bR,bV,aR,zT⟩
 intro d hd;obtain⟨h1,h2,h3⟩:=zh7 (f:=zaz) (I:=λj q=>Rk n q/\q.fd.length<=p.fd.length+j/\EsL (L+j) q) hI hd;obtain⟨k1,k2,k3⟩:=zh7 (f:=zaz) (I:=λ_ q=>Fit5 q/\Rv q/\Kp p q) hI2 hd;have hlo:=zrW (f:=zaz) (p:=p) (d:=d);have hhi:=zrX (f:=zaz) (p:=p) (d:=d);have hfin:d=n->blw zaz p d=orphans p:=λe=>zmY (by rw[e,hpn])
 generalize blw zaz p d=q at*
 have hqn:q.v.rs.length=n:=h1.rf.n;have hq96:q.v.rs.length<=96:=zo;by_cases h:d<n
 ·have hltq:d<q.v.rs.length:=zo
  have hd0:(0:Int)<=(d:Nat)/\((d:Nat):Int)<(n:Nat):=⟨zo,zo⟩
  have h7:0+((d:Nat):Int).toNat*10+7=d*10+7:=by simp
  obtain⟨ob,hob⟩:∃b,(decide (16<=d)&&own (at_ Rc.o q.v.rs d))=b:=⟨_,rfl⟩
  have hO:=zju q.v d hltq zo hob;cases ob
  ·have hsame:blw zaz p (d+1)=q:=by
    by_cases h16:16<=d
    ·rw[hhi h16,yfX];rw[ybX h16,y3X] at hob;simp[hob]
    ·exact hlo zo
   (conv=>whnf);repeat(first|refine Ck.lV q (hO) hq96 hqn.symm (Wzc (ydX rfl) Wzn) ?_|refine Ex.g ?_|refine Ex.om ?_);conv=>whnf
   refine⟨d+1,zo,by dsimp only;omega,?_⟩;dsimp only;rw[hsame];exact Ex.wG [0,1,2,3] [] [] ⟨rQ hq96,bR,bV,aR,zT⟩
  ·simp only[ykX,yDX] at hob
   have hls:blw zaz p (d+1)=if(at_ Rc.o q.v.rs d).ns.length=0 then bring (q.note 6 d 0) d else q:=by
    rw[hhi hob.1,ygX hob.2];unfold zaz;rw[zae]
   by_cases h0:(at_ Rc.o q.v.rs d).ns.length=0
   ·have h0i:(((at_ Rc.o q.v.rs d).ns.length:Nat):Int)=0:=zo;have hB:=znz n (q.note 6 d 0) d (h1.note 6 d 0) (k2.of_v rfl) hn ⟨hob.1,h⟩;have hNo:=zcM n q 6 d 0 hqn hn h1.rf.fl zo zo;rw[ygX h0] at hls
    have hz96:(bring (q.note 6 d 0) d).v.rs.length<=96:=by rw[((h1.note 6 d 0).bring hn ⟨hob.1,h⟩ (by have:=h3.at 5;show(at_ Rc.o q.v.rs 5).es.length<1000;omega)).rf.n];exact hn
    (conv=>whnf);repeat(first|refine Need.mk ?_ ?_;exact hd0|refine Ck.lV q (hO) hq96 hqn.symm (Wzc (ydX rfl) Wzn) ?_|refine RK.of (zam (zab false 20) Rc.o (k:=7) h7 rfl rfl hltq (by decide) rfl) ?_|refine KIf.t (ybX h0i) ?_|refine Ck.cV (p':=(q.note 6 d 0)) (hNo) hq96 hq96 (WL.sc rfl (WL.sc rfl (WL.sc rfl yMX))) ?_|refine ygY (rV n 220 0 1 (q.note 6 d 0)) ?_|refine Ck.cV (p':=(bring (q.note 6 d 0) d)) (hB) hq96 hz96 (WL.sc rfl yMX) ?_|refine ygY (rV n 438 0 1 (bring (q.note 6 d 0) d)) ?_|refine Ex.g ?_|refine Ex.om ?_);conv=>whnf
    refine⟨d+1,zo,by dsimp only;omega,?_⟩;dsimp only;rw[hls];exact Ex.wG [0,1,2,3] [] [] ⟨rQ hz96,bR,bV,aR,zT⟩
   ·have h0i:¬(((at_ Rc.o q.v.rs d).ns.length:Nat):Int)=0:=zo;rw[yfX h0] at hls
    (conv=>whnf);repeat(first|refine Need.mk ?_ ?_;exact hd0|refine Ck.lV q (hO) hq96 hqn.symm (Wzc (ydX rfl) Wzn) ?_|refine RK.of (zam (zab false 20) Rc.o (k:=7) h7 rfl rfl hltq (by decide) rfl) ?_|refine KIf.f (ycX h0i) ?_|refine Ex.g ?_|refine Ex.om ?_);conv=>whnf
    refine⟨d+1,zo,by dsimp only;omega,?_⟩;dsimp only;rw[hls];exact Ex.wG [0,1,2,3] [] [] ⟨rQ hq96,bR,bV,aR,zT⟩
 ·(conv=>whnf);repeat(first|refine ygY (rV n 20 0 1 q) ?_|refine Ex.om ?_);conv=>whnf
  rw[←hfin zo];exact⟨Ex.wG [0,1] [] [] ⟨rQ hq96,bR,zT⟩ (hsl:=by exact⟨za2 (zgB ⟨rfl,rfl⟩ ⟨rfl,rfl⟩ zN),zT⟩)⟩
set_option maxHeartbeats 4000000
theorem zmr (v:Pt) (h1:v.rs.length<=100000) (h5:5<v.rs.length) (hes:∀x∈v.rs,x.es.length<=100000):HC Tryz.prog 0 39 [zbF v] [] (.sl 0 0 v.rs.length v.rs.length) [.row ((zmp v).map bb) 4 0]:=by
 have hmk:(0:Int)<=v.rs.length/\(v.rs.length:Int)<=v.rs.length/\((v.rs.length:Int)).toNat*1<=2^47/\(v.rs.length:Int)<=2^60:=by refine⟨?_,?_,?_,?_⟩<;>omega
 have hzr:zc8 v.rs.length (.bool false)=(List.replicate v.rs.length false).map bb:=by
  rw[zcE (x:=bb false) _ _ rfl];simp
 have hoff5:0+5*1=5:=rfl
 have hj5:5<(List.replicate v.rs.length false).length:=by simpa using h5
 refine HC.of zal (yhX _) ?_
 (conv=>whnf);repeat(first|refine Ex.g ?_|refine ytY bb true rfl hoff5 rfl rfl rfl rfl (yqX (λc=>some (AO.row c 4 0)) hzr) hj5 ?_);conv=>whnf
 refine yFX zal (D:=List Bool×Bool) (λd=>2*cntF d.1+(if d.2 then 1 else 0)) (λd=>Mks v d.1/\(d.2=false->d.1=zmp v))
  (λd=>zag [(1, .ptr 0 0),(3, .sl 1 0 v.rs.length v.rs.length),(4,bb d.2)] 73)
  (λd=>zan [.row (aPt v) 26 0, .row (d.1.map bb) 4 0]) (zhJ v,true) ⟨.start h5,λh=>(by cases h)⟩ ?_ ?_
 ·exact Ex.wO [0,1] []
 ·rintro⟨L0,ag0⟩ ⟨hm0,hf0⟩;dsimp only at hm0 hf0⊢;have hLl0:=hm0.len
  cases ag0 with
  |false=>
   have hL:=hf0 rfl;refine Ex.go ?_;rw[←hL]
   (refine⟨[1],[],rfl,?_,?_⟩<;>(repeat' first|exact zT|refine zA ?_ ?_)<;>(conv=>whnf)<;>(repeat'(exact rfl))<;>((exact Or.inr ⟨rfl,yyY (λ_=>rfl) _⟩)))
  |true=>
   clear hf0;refine Ex.go ?_
   refine yFX zal (D:=List Bool×Bool×Nat) (λd=>v.rs.length-d.2.2) (λd=>Rnd v L0 d.1 d.2.1/\(d.2.1=false->∀e,e<d.2.2->Clo v d.1 e)/\d.2.2<=v.rs.length)
    (λd=>zag [(1, .ptr 0 0),(3, .sl 1 0 v.rs.length v.rs.length),(4,bb d.2.1),(5,ib d.2.2)] 73)
    (λd=>zan [.row (aPt v) 26 0, .row (d.1.map bb) 4 0]) (L0,false,0) ⟨.start hm0,λ_ e he=>absurd he (ypX _),ymX _⟩ ?_ ?_
   ·exact Ex.wO [0,1] []
   ·rintro⟨L,ag,i⟩ ⟨hr,hc,hi⟩;dsimp only at hr hc hi⊢;have hLl:=hr.m.len
    conv=>whnf
    refine yPX (λh=> ?_) (λh=> ?_)
    ·have hlt:i<v.rs.length:=zo;have hix:(0:Int)<=i/\(i:Int)<v.rs.length:=zo;have hoff:0+((i:Nat):Int).toNat*1=i:=zo;have hj:i<L.length:=zo
     have hdi:(wi i 0 (v.rs.length-1)&&Ck.dir (Ck.rc v i))=Ck.dir (at_ Rc.o v.rs i):=by
      have:wi i 0 (v.rs.length-1)=true:=by simp[wi];omega
      rw[this];rfl
     obtain⟨mk,hmk⟩:∃b,at_ false L i=b:=⟨_,rfl⟩
     (conv=>whnf);repeat(first|refine Ex.g ?_|refine RK.of (yjY bb false mk hmk hoff rfl rfl hj) ?_);conv=>whnf
     cases mk
     ·refine Ex.go ?_;refine⟨(L,ag,i+1),⟨hr,λha e he=> ?_,hlt⟩,by dsimp only;omega,?_⟩
      ·rcases yeY e i with h3|h3
       ·exact hc ha e h3
       ·obtain rfl:e=i:=by have he:e<i+1:=he;omega
        intro h4;rw[hmk] at h4;cases h4
      ·exact Ex.wO [0,1] []
     ·cases hd:Ck.dir (at_ Rc.o v.rs i)
      ·rw[hd] at hdi
       (conv=>whnf);repeat(first|refine Ex.g ?_|refine yaX (zfj v (i:Int) h1 hdi) ?_);conv=>whnf
       refine⟨(L,ag,i+1),⟨hr,λha e he=> ?_,hlt⟩,by dsimp only;omega,?_⟩
       ·rcases yeY e i with h3|h3
        ·exact hc ha e h3
        ·obtain rfl:e=i:=by have he:e<i+1:=he;omega
         intro _ h5;rw[hd] at h5;cases h5
       ·exact Ex.wO [0,1] []
      ·rw[hd] at hdi;have hel:=hes _ (at_mem Rc.o v.rs i hlt)
       (conv=>whnf);repeat(first|refine Ex.g ?_|refine yaX (zfj v (i:Int) h1 hdi) ?_);conv=>whnf
       refine yFX zal (D:=List Bool×Bool×Nat) (λd=>(at_ Rc.o v.rs i).es.length-d.2.2) (λd=>Rnd v L0 d.1 d.2.1/\(d.2.1=false->∀e,e<i->Clo v d.1 e)/\at_ false d.1 i=true/\(d.2.1=false->∀j,j<d.2.2->right v (at_ En.o (at_ Rc.o v.rs i).es j).f=true->at_ false d.1 (at_ En.o (at_ Rc.o v.rs i).es j).f.r.toNat=true)/\d.2.2<=(at_ Rc.o v.rs i).es.length)
        (λd=>zag [(1, .ptr 0 0),(3, .sl 1 0 v.rs.length v.rs.length),(4,bb d.2.1),(5,ib i),(6,LS 4 aEn En.o (at_ Rc.o v.rs i).es),(7,ib d.2.2)] 73)
        (λd=>zan [.row (aPt v) 26 0, .row (d.1.map bb) 4 0]) (L,ag,0) ⟨hr,hc,hmk,λ_ e he=>absurd he (ypX _),ymX _⟩ ?_ ?_
       ·exact Ex.wO [0,1] []
       ·clear hr hc hLl hmk hj;rintro⟨L,ag,k⟩ ⟨hr,hc,hmi,hk,hkl⟩;dsimp only at hr hc hmi hk hkl⊢;have hLl:=hr.m.len
        conv=>whnf
        refine yPX (λh2=> ?_) (λh2=> ?_)
        ·have hlk:k<(at_ Rc.o v.rs i).es.length:=zo
         obtain⟨x,hx⟩:∃x,x=at_ En.o (at_ Rc.o v.rs i).es k:=⟨_,rfl⟩
         obtain⟨rb,hrx⟩:∃b,right v (at_ En.o (at_ Rc.o v.rs i).es k).f=b:=⟨_,rfl⟩
         (conv=>whnf);repeat(first|refine Ex.g ?_|refine yxX (zfi v (at_ En.o (at_ Rc.o v.rs i).es k).f h1 hrx) ?_);conv=>whnf
         cases rb
         ·refine Ex.go ?_;refine⟨(L,ag,k+1),⟨hr,hc,hmi,λha j hj hrj=> ?_,hlk⟩,by dsimp only;omega,?_⟩
          ·rcases yeY j k with h3|h3
           ·exact hk ha j h3 hrj
           ·obtain rfl:j=k:=by have hj:j<k+1:=hj;omega
            rw[hrx] at hrj;cases hrj
          ·exact Ex.wO [0,1] []
         ·rw[←hx] at hrx;have hrl:=zdo hrx;have hri:0<=x.f.r/\x.f.r<v.rs.length:=zo;have hoffx:0+x.f.r.toNat*1=x.f.r.toNat:=zo;have hjx:x.f.r.toNat<L.length:=zo;have hset:=λhn=>hr.set (hr.m.snd _ hmi) hd (x:=x) (by rw[hx];exact at_mem _ _ _ hlk) hrx hn;rw[hx] at hrx hri hoffx hjx hset
          obtain⟨mx,hmx⟩:∃b,at_ false L (at_ En.o (at_ Rc.o v.rs i).es k).f.r.toNat=b:=⟨_,rfl⟩
          (conv=>whnf);repeat(first|refine Ex.g ?_|refine RK.of (yjY bb false mx hmx hoffx rfl rfl hjx) ?_);conv=>whnf
          cases mx
          ·have hr2:=hset hmx;refine Ex.go ?_
           (refine ytY bb true rfl hoffx rfl rfl rfl rfl rfl hjx ?_;conv=>whnf)
           refine Ex.go ?_;refine⟨(L.set (at_ En.o (at_ Rc.o v.rs i).es k).f.r.toNat true,true,k+1),⟨hr2,λh=>(by cases h),zb9 _ _ _ hmi,λh=>(by cases h),hlk⟩,by dsimp only;omega,?_⟩;exact Ex.wO [0,1] []
          ·refine Ex.go ?_;refine⟨(L,ag,k+1),⟨hr,hc,hmi,λha j hj hrj=> ?_,hlk⟩,by dsimp only;omega,?_⟩
           ·rcases yeY j k with h3|h3
            ·exact hk ha j h3 hrj
            ·obtain rfl:j=k:=by have hj:j<k+1:=hj;omega
             exact hmx
           ·exact Ex.wO [0,1] []
        ·have hke:k=(at_ Rc.o v.rs i).es.length:=zo;refine Ex.go ?_;refine⟨(L,ag,i+1),⟨hr,λha e he=> ?_,hlt⟩,by dsimp only;omega,?_⟩
         ·rcases yeY e i with h3|h3
          ·exact hc ha e h3
          ·obtain rfl:e=i:=by have he:e<i+1:=he;omega
           intro _ _ x hx hrx;obtain⟨j,hj,rfl⟩:=yTX hx;have:=hk ha j zo;rw[zaS _ _ _ hj] at this;exact this hrx
         ·exact Ex.wO [0,1] []
    ·have hie:i=v.rs.length:=Nat.le_antisymm hi (Int.ofNat_le.1 (Int.not_lt.1 h));refine Ex.go ?_;refine⟨(L,ag),⟨hr.m,λha=>hr.m.fin λd hd=>hc ha d zo⟩,?_,?_⟩
     ·dsimp only
      cases ag with
      |false=>have:=hr.f rfl;rw[this];simp
      |true=>have:=hr.t rfl;simp;omega
     ·exact Ex.wO [0,1] []
end Go.Proofs.YtgcjejajljhnaaaGreatDoor
namespace Ck
theorem zsZ {q:Rp} {r:Nat} {l:List Nm} (j:Nat):∀k,(at_ Rc.o (it (λq k=>drop q r (at_ Nm.o l k)) q k).v.rs j).ns=(at_ Rc.o q.v.rs j).ns:=
 za4 (I:=λw:Rp=>(at_ Rc.o w.v.rs j).ns=(at_ Rc.o q.v.rs j).ns) (λs k hs=>(zmw j).trans hs) rfl
theorem zqH {p:Rp} {j:Nat} (hj:16+j<p.v.rs.length) (i:Nat):(at_ Rc.o (cycleR p j).v.rs i).ns=(at_ Rc.o p.v.rs i).ns∨(at_ Rc.o (cycleR p j).v.rs i).ns.length=1:=by
 unfold cycleR;split
 ·have hkp:∀k,Kp (p.note 7 (16+j:Nat) 0) (it (λq k=>drop q (16+j) (at_ Nm.o (p.rc (16+j:Nat)).ns k)) (p.note 7 (16+j:Nat) 0) k):=Kp.it (g:=id) (λ(s:Rp) k=>show Kp s (Ck.drop s (16+j) (at_ Nm.o (p.rc (16+j:Nat)).ns k)) from(ybY s).drop _ _) _;rw[znI (by rw[(hkp _).2.2.2];exact hj)];split
  ·exact .inr rfl
  ·exact .inl (zsZ i _)
 ·exact .inl rfl
end Ck
namespace Go.Proofs.YtgcjejajljhnaaaGreatDoor
open Go.Ex Ck
set_option maxRecDepth 100000
set_option maxHeartbeats 4000000
theorem zoH (v:Pt) (h1:v.rs.length<=100000) (h5:5<v.rs.length) (hd5:dir (at_ Rc.o v.rs 5)=true) (hes:∀x∈v.rs,x.es.length<=100000):HC Tryz.prog 0 74 [zbF v] [] (.sl 0 0 v.rs.length v.rs.length) [.row ((zmp v).map bb) 4 0]:=by
 have hmk:(0:Int)<=v.rs.length/\(v.rs.length:Int)<=v.rs.length/\((v.rs.length:Int)).toNat*1<=2^47/\(v.rs.length:Int)<=2^60:=by refine⟨?_,?_,?_,?_⟩<;>omega
 have hcnt0:[5].length+cntF (zhJ v)<=v.rs.length:=by
  have:=zdz (List.replicate v.rs.length false) 5 (by simpa using h5) (zql _ _);rw[zrP] at this;unfold zhJ;simp only[yGX,ySX];omega
 have hzr:zc8 v.rs.length (.bool false)=(List.replicate v.rs.length false).map bb:=by
  rw[zcE (x:=bb false) _ _ rfl];simp
 have hoff5:0+5*1=5:=rfl
 have hj5:5<(List.replicate v.rs.length false).length:=by simpa using h5
 refine HC.of zal (yhX 0) ?_
 (conv=>whnf);repeat(first|refine Ex.g ?_|refine ytY bb true rfl hoff5 rfl rfl rfl rfl (yqX (λc=>some (AO.row c 4 0)) hzr) hj5 ?_);conv=>whnf
 refine yFX zal (D:=List Bool×List Int×Sh) (λd=>2*cntF d.1+d.2.1.length) (λd=>Que v d.1 d.2.1/\okS d.2.2 d.2.1/\d.2.1.length+cntF d.1<=v.rs.length)
  (λd=>zag [(1, .ptr 0 0),(3, .sl 1 0 v.rs.length v.rs.length),(4,qv d.2.2 d.2.1)] 68)
  (λd=>zan [.row (aPt v) 26 0, .row (d.1.map bb) 4 0,qr d.2.2 d.2.1]) (zhJ v,[5], .init) ⟨.start h5 hd5,rfl,hcnt0⟩ ?_ ?_
 ·exact Ex.wO [0,1,2] []
 ·rintro⟨L,Q,sh⟩ ⟨hq,hs,hcn⟩;dsimp only at hq hs hcn⊢;have hLl:=hq.m.len
  cases sh with
  |init=>
   subst hs;have hmid:=hq.pop;clear hq;refine Ex.go ?_
   have hcq:([]:List Int).length+1+cntF L<=v.rs.length/\2*cntF L+([]:List Int).length<2*cntF L+([5]:List Int).length:=by simp only[yGX,ySX] at hcn⊢;omega
   have hel:=hes _ (at_mem Rc.o v.rs 5 zo)
   refine yFX zal (D:=List Bool×List Int×Sh×Nat) (λm=>(at_ Rc.o v.rs 5).es.length-m.2.2.2) (λm=>Mid v 5 m.2.2.2 m.1 m.2.1/\okI m.2.2.1 m.2.1/\m.2.2.2<=(at_ Rc.o v.rs 5).es.length/\m.2.1.length+1+cntF m.1<=v.rs.length/\2*cntF m.1+m.2.1.length<2*cntF L+([5]:List Int).length)
    (λm=>zag [(1, .ptr 0 0),(3, .sl 1 0 v.rs.length v.rs.length),(4,qv m.2.2.1 m.2.1),(5,ib 5),(30,LS 4 aEn En.o (at_ Rc.o v.rs 5).es),(31,ib (at_ Rc.o v.rs 5).es.length),(32,ib m.2.2.2)] 68)
    (λm=>zan [.row (aPt v) 26 0, .row (m.1.map bb) 4 0,qr m.2.2.1 m.2.1]) (L,([]:List Int), .mt0,0) ⟨hmid,rfl,ymX _,hcq.1,hcq.2⟩ ?_ ?_
   ·exact Ex.wO [0,1,2] []
   ·clear hmid hcq hcn;rintro⟨L,Q,sh,k⟩ ⟨hm,hs,hk,hcn,hme⟩;dsimp only at hm hs hk hcn hme⊢
    cases sh with
    |init=>exact hs.elim
    |mt0=>
     subst hs;have hLl:=hm.m.len
     conv=>whnf
     refine yPX (λh=> ?_) (λh=> ?_)
     ·have hlt:k<(at_ Rc.o v.rs 5).es.length:=zo
      obtain⟨x,hx⟩:∃x,x=(at_ En.o (at_ Rc.o v.rs 5).es k):=⟨_,rfl⟩
      by_cases hr:right v x.f=true
      ·have hrl:=zdo hr;have hri:0<=x.f.r/\x.f.r<v.rs.length:=zo;have hoff:0+x.f.r.toNat*1=x.f.r.toNat:=zo;have hj:x.f.r.toNat<L.length:=zo;have hset:=λhn=>hm.set hx hlt hr hn;have hskip:=λhn:at_ false L x.f.r.toNat=true=>hm.skip (by rw[←hx];exact λ_=>hn);rw[hx] at hr hri hoff hj hset hskip;cases hmk:at_ false L (at_ En.o (at_ Rc.o v.rs 5).es k).f.r.toNat
       ·have hm2:=hset hmk;have hcs:=zdz L _ hj hmk;clear hset hskip;cases hd:dir (at_ Rc.o v.rs (at_ En.o (at_ Rc.o v.rs 5).es k).f.r.toNat)
        ·rw[hd] at hm2
         (conv=>whnf);repeat(first|refine Ex.g ?_|refine yaX (zcl v _ h1 hr) ?_|refine RK.of (yjY bb false false hmk hoff rfl rfl hj) ?_|refine ytY bb true rfl hoff rfl rfl rfl rfl rfl hj ?_|refine yaX (zbd (at_ Rc.o v.rs (at_ En.o (at_ Rc.o v.rs 5).es k).f.r.toNat)) ?_);conv=>whnf
         refine⟨(L.set (at_ En.o (at_ Rc.o v.rs 5).es k).f.r.toNat true,([]:List Int),Sh.mt0,k+1),⟨hm2,rfl,hlt,by dsimp only;omega,by dsimp only at hme⊢;omega⟩,by dsimp only;omega,?_⟩;exact Ex.wO [0,1,2] []
        ·rw[hd,ygX rfl] at hm2
         (conv=>whnf);repeat(first|refine Ex.g ?_|refine yaX (zcl v _ h1 hr) ?_|refine RK.of (yjY bb false false hmk hoff rfl rfl hj) ?_|refine ytY bb true rfl hoff rfl rfl rfl rfl rfl hj ?_|refine yaX (zbd (at_ Rc.o v.rs (at_ En.o (at_ Rc.o v.rs 5).es k).f.r.toNat)) ?_);conv=>whnf
         refine⟨(L.set (at_ En.o (at_ Rc.o v.rs 5).es k).f.r.toNat true,([]:List Int)++[(at_ En.o (at_ Rc.o v.rs 5).es k).f.r],(Sh.op []),k+1),⟨hm2,trivial,hlt,by simp only[yvX,yGX,ySX] at hcn⊢;omega,by simp only[yvX,yGX,ySX] at hme⊢;omega⟩,by dsimp only;omega,?_⟩
         (refine yLY [0,1,6] [] rfl rfl ?_ ?_<;>(repeat' first|exact zT|refine zA ?_ ?_)<;>(conv=>whnf)<;>(repeat'(exact rfl))<;>(first|(intro _ _;rfl)|((first|exact Or.inr ⟨rfl,rfl⟩|exact Or.inr ⟨rfl,yyY (λ_=>rfl) _⟩))))
       ·have hm2:=hskip hmk;clear hset hskip
        (conv=>whnf);repeat(first|refine Ex.g ?_|refine yaX (zcl v _ h1 hr) ?_|refine RK.of (yjY bb false true hmk hoff rfl rfl hj) ?_);conv=>whnf
        refine⟨(L,([]:List Int),Sh.mt0,k+1),⟨hm2,rfl,hlt,hcn,hme⟩,by dsimp only;omega,?_⟩;exact Ex.wO [0,1,2] []
      ·have hr':right v x.f=false:=by simpa using hr
       have hm2:=hm.skip (by rw[←hx];exact λh=>absurd h hr);rw[hx] at hr'
       (conv=>whnf);repeat(first|refine Ex.g ?_|refine yaX (zjn v _ h1 hr') ?_);conv=>whnf
       refine⟨(L,([]:List Int),Sh.mt0,k+1),⟨hm2,rfl,hlt,hcn,hme⟩,by dsimp only;omega,?_⟩;exact Ex.wO [0,1,2] []
     ·have hke:k=(at_ Rc.o v.rs 5).es.length:=zo;refine Ex.go ?_;refine⟨(L,([]:List Int),Sh.mt0),⟨hm.fin hke,rfl,by dsimp only;omega⟩,hme,?_⟩;exact Ex.wO [0,1,2] []
    |op pre=>
     have hLl:=hm.m.len
     conv=>whnf
     refine yPX (λh=> ?_) (λh=> ?_)
     ·have hlt:k<(at_ Rc.o v.rs 5).es.length:=zo
      obtain⟨x,hx⟩:∃x,x=(at_ En.o (at_ Rc.o v.rs 5).es k):=⟨_,rfl⟩
      by_cases hr:right v x.f=true
      ·have hrl:=zdo hr;have hri:0<=x.f.r/\x.f.r<v.rs.length:=zo;have hoff:0+x.f.r.toNat*1=x.f.r.toNat:=zo;have hj:x.f.r.toNat<L.length:=zo;have hset:=λhn=>hm.set hx hlt hr hn;have hskip:=λhn:at_ false L x.f.r.toNat=true=>hm.skip (by rw[←hx];exact λ_=>hn);rw[hx] at hr hri hoff hj hset hskip;cases hmk:at_ false L (at_ En.o (at_ Rc.o v.rs 5).es k).f.r.toNat
       ·have hm2:=hset hmk;have hcs:=zdz L _ hj hmk;clear hset hskip;cases hd:dir (at_ Rc.o v.rs (at_ En.o (at_ Rc.o v.rs 5).es k).f.r.toNat)
        ·rw[hd] at hm2
         (conv=>whnf);repeat(first|refine Ex.g ?_|refine yaX (zcl v _ h1 hr) ?_|refine RK.of (yjY bb false false hmk hoff rfl rfl hj) ?_|refine ytY bb true rfl hoff rfl rfl rfl rfl rfl hj ?_|refine yaX (zbd (at_ Rc.o v.rs (at_ En.o (at_ Rc.o v.rs 5).es k).f.r.toNat)) ?_);conv=>whnf
         refine⟨(L.set (at_ En.o (at_ Rc.o v.rs 5).es k).f.r.toNat true,Q,(Sh.op pre),k+1),⟨hm2,trivial,hlt,by dsimp only;omega,by dsimp only at hme⊢;omega⟩,by dsimp only;omega,?_⟩;exact Ex.wO [0,1,2] []
        ·rw[hd,ygX rfl] at hm2
         (conv=>whnf);repeat(first|refine Ex.g ?_|refine yaX (zcl v _ h1 hr) ?_|refine RK.of (yjY bb false false hmk hoff rfl rfl hj) ?_|refine ytY bb true rfl hoff rfl rfl rfl rfl rfl hj ?_|refine yaX (zbd (at_ Rc.o v.rs (at_ En.o (at_ Rc.o v.rs 5).es k).f.r.toNat)) ?_|refine Need.mk ?_ ?_;exact(by simp));conv=>whnf
         refine⟨(L.set (at_ En.o (at_ Rc.o v.rs 5).es k).f.r.toNat true,Q++[(at_ En.o (at_ Rc.o v.rs 5).es k).f.r],(Sh.op []),k+1),⟨hm2,trivial,hlt,by simp only[yvX,yGX,ySX] at hcn⊢;omega,by simp only[yvX,yGX,ySX] at hme⊢;omega⟩,by dsimp only;omega,?_⟩
         (refine yLY [0,1,6] [] rfl rfl ?_ ?_<;>(repeat' first|exact zT|refine zA ?_ ?_)<;>(conv=>whnf)<;>(repeat'(exact rfl))<;>(first|(intro _ _;rfl)|(first|exact zfR (zmf ib _ _ _) (y4X (enc:=ib) (λ_=>rfl) _)|(first|exact Or.inr ⟨rfl,rfl⟩|exact Or.inr ⟨rfl,yyY (λ_=>rfl) _⟩)|(simp;done))))
       ·have hm2:=hskip hmk;clear hset hskip
        (conv=>whnf);repeat(first|refine Ex.g ?_|refine yaX (zcl v _ h1 hr) ?_|refine RK.of (yjY bb false true hmk hoff rfl rfl hj) ?_);conv=>whnf
        refine⟨(L,Q,(Sh.op pre),k+1),⟨hm2,trivial,hlt,hcn,hme⟩,by dsimp only;omega,?_⟩;exact Ex.wO [0,1,2] []
      ·have hr':right v x.f=false:=by simpa using hr
       have hm2:=hm.skip (by rw[←hx];exact λh=>absurd h hr);rw[hx] at hr'
       (conv=>whnf);repeat(first|refine Ex.g ?_|refine yaX (zjn v _ h1 hr') ?_);conv=>whnf
       refine⟨(L,Q,(Sh.op pre),k+1),⟨hm2,trivial,hlt,hcn,hme⟩,by dsimp only;omega,?_⟩;exact Ex.wO [0,1,2] []
     ·have hke:k=(at_ Rc.o v.rs 5).es.length:=zo;refine Ex.go ?_;refine⟨(L,Q,Sh.op pre),⟨hm.fin hke,trivial,by dsimp only;omega⟩,hme,?_⟩;exact Ex.wO [0,1,2] []
  |mt0=>
   subst hs;have hL:=hq.fin
   (conv=>whnf);repeat((refine Ex.g ?_;conv=>whnf))
   rw[←hL]
   (refine⟨[1],[],rfl,?_,?_⟩<;>(repeat' first|exact zT|refine zA ?_ ?_)<;>(conv=>whnf)<;>(repeat'(exact rfl))<;>((exact Or.inr ⟨rfl,yyY (λ_=>rfl) _⟩)))
  |op pre=>
   cases Q with
   |nil=>
    have hL:=hq.fin
    (conv=>whnf);repeat((refine Ex.g ?_;conv=>whnf))
    rw[←hL]
    (refine⟨[1],[],rfl,?_,?_⟩<;>(repeat' first|exact zT|refine zA ?_ ?_)<;>(conv=>whnf)<;>(repeat'(exact rfl))<;>((exact Or.inr ⟨rfl,yyY (λ_=>rfl) _⟩)))
   |cons d Q=>
    have hmid:=hq.pop;obtain⟨hd0,hd1,hd2,hd3⟩:=hq.q d (by simp);clear hd2 hd3;clear hq hs
    cases Q with
    |nil=>
     have hle:(0:Int)<=0/\(0:Int)<([d].length:Nat):=⟨yEZ _,by simp only[yGX,ySX];omega⟩
     have hat:at_ 0 (pre++[d]) pre.length=d:=by unfold at_;simp
     have hjl:pre.length<(pre++[d]).length:=by simp
     have hdn:0<=d/\d<v.rs.length:=zo
     (conv=>whnf);repeat(first|refine Ex.g ?_|refine Need.mk ?_ ?_;exact⟨(Nat.mul_one _).symm,by simp,rfl,rfl⟩|refine RK.of (yjY ib 0 d hat rfl rfl rfl hjl) ?_);conv=>whnf
     have hcq:([]:List Int).length+1+cntF L<=v.rs.length/\2*cntF L+([]:List Int).length<2*cntF L+([d]:List Int).length:=by simp only[yGX,ySX] at hcn⊢;omega
     have hel:=hes _ (at_mem Rc.o v.rs d.toNat zo)
     refine yFX zal (D:=List Bool×List Int×List Int×Nat) (λm=>(at_ Rc.o v.rs d.toNat).es.length-m.2.2.2) (λm=>Mid v d.toNat m.2.2.2 m.1 m.2.1/\okI (.op m.2.2.1) m.2.1/\m.2.2.2<=(at_ Rc.o v.rs d.toNat).es.length/\m.2.1.length+1+cntF m.1<=v.rs.length/\2*cntF m.1+m.2.1.length<2*cntF L+([d]:List Int).length)
      (λm=>zag [(1, .ptr 0 0),(3, .sl 1 0 v.rs.length v.rs.length),(4,qv (.op m.2.2.1) m.2.1),(5,ib d),(30,LS 4 aEn En.o (at_ Rc.o v.rs d.toNat).es),(31,ib (at_ Rc.o v.rs d.toNat).es.length),(32,ib m.2.2.2)] 68)
      (λm=>zan [.row (aPt v) 26 0, .row (m.1.map bb) 4 0,qr (.op m.2.2.1) m.2.1]) (L,([]:List Int),[],0) ⟨hmid,trivial,ymX _,hcq.1,hcq.2⟩ ?_ ?_
     ·exact Ex.wO [0,1,3] []
     ·clear hmid hcq hcn hat hjl hle;rintro⟨L,Q,pre,k⟩ ⟨hm,hs,hk,hcn,hme⟩;dsimp only at hm hs hk hcn hme⊢;have hLl:=hm.m.len
      conv=>whnf
      refine yPX (λh=> ?_) (λh=> ?_)
      ·have hlt:k<(at_ Rc.o v.rs d.toNat).es.length:=zo
       obtain⟨x,hx⟩:∃x,x=(at_ En.o (at_ Rc.o v.rs d.toNat).es k):=⟨_,rfl⟩
       by_cases hr:right v x.f=true
       ·have hrl:=zdo hr;have hri:0<=x.f.r/\x.f.r<v.rs.length:=zo;have hoff:0+x.f.r.toNat*1=x.f.r.toNat:=zo;have hj:x.f.r.toNat<L.length:=zo;have hset:=λhn=>hm.set hx hlt hr hn;have hskip:=λhn:at_ false L x.f.r.toNat=true=>hm.skip (by rw[←hx];exact λ_=>hn);rw[hx] at hr hri hoff hj hset hskip;cases hmk:at_ false L (at_ En.o (at_ Rc.o v.rs d.toNat).es k).f.r.toNat
        ·have hm2:=hset hmk;have hcs:=zdz L _ hj hmk;clear hset hskip;cases hd:dir (at_ Rc.o v.rs (at_ En.o (at_ Rc.o v.rs d.toNat).es k).f.r.toNat)
         ·rw[hd] at hm2
          (conv=>whnf);repeat(first|refine Ex.g ?_|refine yaX (zcl v _ h1 hr) ?_|refine RK.of (yjY bb false false hmk hoff rfl rfl hj) ?_|refine ytY bb true rfl hoff rfl rfl rfl rfl rfl hj ?_|refine yaX (zbd (at_ Rc.o v.rs (at_ En.o (at_ Rc.o v.rs d.toNat).es k).f.r.toNat)) ?_);conv=>whnf
          refine⟨(L.set (at_ En.o (at_ Rc.o v.rs d.toNat).es k).f.r.toNat true,Q,pre,k+1),⟨hm2,trivial,hlt,by dsimp only;omega,by dsimp only at hme⊢;omega⟩,by dsimp only;omega,?_⟩;exact Ex.wO [0,1,2] []
         ·rw[hd,ygX rfl] at hm2
          (conv=>whnf);repeat(first|refine Ex.g ?_|refine yaX (zcl v _ h1 hr) ?_|refine RK.of (yjY bb false false hmk hoff rfl rfl hj) ?_|refine ytY bb true rfl hoff rfl rfl rfl rfl rfl hj ?_|refine yaX (zbd (at_ Rc.o v.rs (at_ En.o (at_ Rc.o v.rs d.toNat).es k).f.r.toNat)) ?_|refine Need.mk ?_ ?_;exact(by simp));conv=>whnf
          refine⟨(L.set (at_ En.o (at_ Rc.o v.rs d.toNat).es k).f.r.toNat true,Q++[(at_ En.o (at_ Rc.o v.rs d.toNat).es k).f.r],[],k+1),⟨hm2,trivial,hlt,by simp only[yvX,yGX,ySX] at hcn⊢;omega,by simp only[yvX,yGX,ySX] at hme⊢;omega⟩,by dsimp only;omega,?_⟩
          (refine yLY [0,1,6] [] rfl rfl ?_ ?_<;>(repeat' first|exact zT|refine zA ?_ ?_)<;>(conv=>whnf)<;>(repeat'(exact rfl))<;>(first|(intro _ _;rfl)|(first|exact zfR (zmf ib _ _ _) (y4X (enc:=ib) (λ_=>rfl) _)|(first|exact Or.inr ⟨rfl,rfl⟩|exact Or.inr ⟨rfl,yyY (λ_=>rfl) _⟩)|(simp;done))))
        ·have hm2:=hskip hmk;clear hset hskip
         (conv=>whnf);repeat(first|refine Ex.g ?_|refine yaX (zcl v _ h1 hr) ?_|refine RK.of (yjY bb false true hmk hoff rfl rfl hj) ?_);conv=>whnf
         refine⟨(L,Q,pre,k+1),⟨hm2,trivial,hlt,hcn,hme⟩,by dsimp only;omega,?_⟩;exact Ex.wO [0,1,2] []
       ·have hr':right v x.f=false:=by simpa using hr
        have hm2:=hm.skip (by rw[←hx];exact λh=>absurd h hr);rw[hx] at hr'
        (conv=>whnf);repeat(first|refine Ex.g ?_|refine yaX (zjn v _ h1 hr') ?_);conv=>whnf
        refine⟨(L,Q,pre,k+1),⟨hm2,trivial,hlt,hcn,hme⟩,by dsimp only;omega,?_⟩;exact Ex.wO [0,1,2] []
      ·have hke:k=(at_ Rc.o v.rs d.toNat).es.length:=zo;refine Ex.go ?_;refine⟨(L,Q,Sh.op pre),⟨hm.fin hke,trivial,by dsimp only;omega⟩,hme,?_⟩;exact Ex.wO [0,1,2] []
    |cons d2 Q=>
     have hle:(0:Int)<=0/\(0:Int)<((d::d2::Q).length:Nat):=⟨yEZ _,by simp only[yGX,ySX];omega⟩
     have hat:at_ 0 (pre++(d::d2::Q)) pre.length=d:=by unfold at_;simp
     have hjl:pre.length<(pre++(d::d2::Q)).length:=by simp
     have hdn:0<=d/\d<v.rs.length:=zo
     (conv=>whnf);repeat(first|refine Ex.g ?_|refine KIf.t (ybX hle.2) ?_|refine RK.of (yjY ib 0 d hat rfl rfl rfl hjl) ?_);conv=>whnf
     have hcq:(d2::Q).length+1+cntF L<=v.rs.length/\2*cntF L+(d2::Q).length<2*cntF L+(d::d2::Q).length:=by simp only[yGX,ySX] at hcn⊢;omega
     have hel:=hes _ (at_mem Rc.o v.rs d.toNat zo)
     refine yFX zal (D:=List Bool×List Int×List Int×Nat) (λm=>(at_ Rc.o v.rs d.toNat).es.length-m.2.2.2) (λm=>Mid v d.toNat m.2.2.2 m.1 m.2.1/\okI (.op m.2.2.1) m.2.1/\m.2.2.2<=(at_ Rc.o v.rs d.toNat).es.length/\m.2.1.length+1+cntF m.1<=v.rs.length/\2*cntF m.1+m.2.1.length<2*cntF L+(d::d2::Q).length)
      (λm=>zag [(1, .ptr 0 0),(3, .sl 1 0 v.rs.length v.rs.length),(4,qv (.op m.2.2.1) m.2.1),(5,ib d),(30,LS 4 aEn En.o (at_ Rc.o v.rs d.toNat).es),(31,ib (at_ Rc.o v.rs d.toNat).es.length),(32,ib m.2.2.2)] 68)
      (λm=>zan [.row (aPt v) 26 0, .row (m.1.map bb) 4 0,qr (.op m.2.2.1) m.2.1]) (L,(d2::Q),pre++[d],0) ⟨hmid,trivial,ymX _,hcq.1,hcq.2⟩ ?_ ?_
     ·(refine yLY [0,1,2] [] rfl rfl ?_ ?_<;>(repeat' first|exact zT|refine zA ?_ ?_)<;>(conv=>whnf)<;>(repeat'(exact rfl))<;>(first|(intro _ _;rfl)|(first|exact Or.inr ⟨by simp,y4X (enc:=ib) (λ_=>rfl) _⟩|(first|exact Or.inr ⟨rfl,rfl⟩|exact Or.inr ⟨rfl,yyY (λ_=>rfl) _⟩)|(simp;done))))
     ·clear hmid hcq hcn hat hjl hle;rintro⟨L,Q,pre,k⟩ ⟨hm,hs,hk,hcn,hme⟩;dsimp only at hm hs hk hcn hme⊢;have hLl:=hm.m.len
      conv=>whnf
      refine yPX (λh=> ?_) (λh=> ?_)
      ·have hlt:k<(at_ Rc.o v.rs d.toNat).es.length:=zo
       obtain⟨x,hx⟩:∃x,x=(at_ En.o (at_ Rc.o v.rs d.toNat).es k):=⟨_,rfl⟩
       by_cases hr:right v x.f=true
       ·have hrl:=zdo hr;have hri:0<=x.f.r/\x.f.r<v.rs.length:=zo;have hoff:0+x.f.r.toNat*1=x.f.r.toNat:=zo;have hj:x.f.r.toNat<L.length:=zo;have hset:=λhn=>hm.set hx hlt hr hn;have hskip:=λhn:at_ false L x.f.r.toNat=true=>hm.skip (by rw[←hx];exact λ_=>hn);rw[hx] at hr hri hoff hj hset hskip;cases hmk:at_ false L (at_ En.o (at_ Rc.o v.rs d.toNat).es k).f.r.toNat
        ·have hm2:=hset hmk;have hcs:=zdz L _ hj hmk;clear hset hskip;cases hd:dir (at_ Rc.o v.rs (at_ En.o (at_ Rc.o v.rs d.toNat).es k).f.r.toNat)
         ·rw[hd] at hm2
          (conv=>whnf);repeat(first|refine Ex.g ?_|refine yaX (zcl v _ h1 hr) ?_|refine RK.of (yjY bb false false hmk hoff rfl rfl hj) ?_|refine ytY bb true rfl hoff rfl rfl rfl rfl rfl hj ?_|refine yaX (zbd (at_ Rc.o v.rs (at_ En.o (at_ Rc.o v.rs d.toNat).es k).f.r.toNat)) ?_);conv=>whnf
          refine⟨(L.set (at_ En.o (at_ Rc.o v.rs d.toNat).es k).f.r.toNat true,Q,pre,k+1),⟨hm2,trivial,hlt,by dsimp only;omega,by dsimp only at hme⊢;omega⟩,by dsimp only;omega,?_⟩;exact Ex.wO [0,1,2] []
         ·rw[hd,ygX rfl] at hm2
          (conv=>whnf);repeat(first|refine Ex.g ?_|refine yaX (zcl v _ h1 hr) ?_|refine RK.of (yjY bb false false hmk hoff rfl rfl hj) ?_|refine ytY bb true rfl hoff rfl rfl rfl rfl rfl hj ?_|refine yaX (zbd (at_ Rc.o v.rs (at_ En.o (at_ Rc.o v.rs d.toNat).es k).f.r.toNat)) ?_|refine Need.mk ?_ ?_;exact(by simp));conv=>whnf
          refine⟨(L.set (at_ En.o (at_ Rc.o v.rs d.toNat).es k).f.r.toNat true,Q++[(at_ En.o (at_ Rc.o v.rs d.toNat).es k).f.r],[],k+1),⟨hm2,trivial,hlt,by simp only[yvX,yGX,ySX] at hcn⊢;omega,by simp only[yvX,yGX,ySX] at hme⊢;omega⟩,by dsimp only;omega,?_⟩
          (refine yLY [0,1,6] [] rfl rfl ?_ ?_<;>(repeat' first|exact zT|refine zA ?_ ?_)<;>(conv=>whnf)<;>(repeat'(exact rfl))<;>(first|(intro _ _;rfl)|(first|exact zfR (zmf ib _ _ _) (y4X (enc:=ib) (λ_=>rfl) _)|(first|exact Or.inr ⟨rfl,rfl⟩|exact Or.inr ⟨rfl,yyY (λ_=>rfl) _⟩)|(simp;done))))
        ·have hm2:=hskip hmk;clear hset hskip
         (conv=>whnf);repeat(first|refine Ex.g ?_|refine yaX (zcl v _ h1 hr) ?_|refine RK.of (yjY bb false true hmk hoff rfl rfl hj) ?_);conv=>whnf
         refine⟨(L,Q,pre,k+1),⟨hm2,trivial,hlt,hcn,hme⟩,by dsimp only;omega,?_⟩;exact Ex.wO [0,1,2] []
       ·have hr':right v x.f=false:=by simpa using hr
        have hm2:=hm.skip (by rw[←hx];exact λh=>absurd h hr);rw[hx] at hr'
        (conv=>whnf);repeat(first|refine Ex.g ?_|refine yaX (zjn v _ h1 hr') ?_);conv=>whnf
        refine⟨(L,Q,pre,k+1),⟨hm2,trivial,hlt,hcn,hme⟩,by dsimp only;omega,?_⟩;exact Ex.wO [0,1,2] []
      ·have hke:k=(at_ Rc.o v.rs d.toNat).es.length:=zo;refine Ex.go ?_;refine⟨(L,Q,Sh.op pre),⟨hm.fin hke,trivial,by dsimp only;omega⟩,hme,?_⟩;exact Ex.wO [0,1,2] []
end Go.Proofs.YtgcjejajljhnaaaGreatDoor
namespace Ck
open Go Go.Ex
theorem zop :∀l:List Bool,plainA.plainL (l.map bb)=true
 |[]=>rfl
 |_::l=>zop l
theorem zec (l:List Bool):∀o∈[AO.row (l.map bb) 4 0],zfl o:=λo ho=>by rcases yiX.1 ho with rfl;exact zop l
end Ck
namespace Go.Proofs.YtgcjejajljhnaaaGreatDoor
open Go.Ex Ck
set_option maxRecDepth 100000
set_option maxHeartbeats 16000000
theorem zqA (hIt:zil) (n L:Nat) (q:Ck.Rp) (i:Nat) (hf:Rk n q) (hn:n<=96) (hi:16<=i/\i<n) (hb:q.fd.length<=500000) (hL:EsL L q) (hl:L<1000):HG Tryz.prog 3 20 220 155 [ib (i:Nat), .ptr 2 0] (gP false q) [.row (zaC 20 1 q) 106 0, .row (flatI (rcP false 20) 0 q.v.rs) 66 10, .row [.ptr 0 0] 107 0] (.tup [])
   (gP false (zaz q i)) [.row (zaC 20 1 (zaz q i)) 106 0, .row (flatI (rcP false 20) 0 (zaz q i).v.rs) 66 10, .row [.ptr 0 0] 107 0]:=by
 have hqn:=hf.rf.n;have hq96:q.v.rs.length<=96:=zo;have hlt:i<q.v.rs.length:=zo
 have hd0:(0:Int)<=(i:Nat)/\((i:Nat):Int)<(q.v.rs.length:Nat):=⟨zo,zo⟩
 have h7:0+((i:Nat):Int).toNat*10+7=i*10+7:=by simp
 have hls:zaz q i=if(at_ Rc.o q.v.rs i).ns.length=0 then bring (q.note 6 i 0) i else q:=by unfold zaz;rw[zae]
 refine HG.of zal zo ?_;by_cases h0:(at_ Rc.o q.v.rs i).ns.length=0
 ·have h0i:(((at_ Rc.o q.v.rs i).ns.length:Nat):Int)=0:=zo
  have hls2:zaz q i=bring (q.note 6 i 0) i:=by rw[hls,ygX h0]
  have hb6:=zrV hIt n (q.note 6 i 0) i (hf.note 6 i 0) hn hi;have hbk:Rk n (bring (q.note 6 i 0) i):=(hf.note 6 i 0).bring hn hi (by have:=hL.at 5;show(at_ Rc.o q.v.rs 5).es.length<1000;omega)
  have hb96:(bring (q.note 6 i 0) i).v.rs.length<=96:=by rw[hbk.rf.n];exact hn
  rw[hls2]
  (conv=>whnf);repeat(first|refine Need.mk ?_ ?_;exact hd0|refine RK.of (zam (zab false 20) Rc.o (k:=7) h7 rfl rfl hlt (by decide) rfl) ?_|refine KIf.t (ybX h0i) ?_|refine Ck.cG (p':=(q.note 6 i 0)) (zdb false q 6 i 0 hq96 hf.rf.fl zo) hq96 hq96 ?_|refine Ck.cG (p':=(bring (q.note 6 i 0) i)) (hb6) hq96 hb96 ?_);conv=>whnf
  refine⟨?_⟩
  (exact Ex.wG [0,1,2] [] [] (⟨pQ rfl rfl,rQ hb96,⟨rfl,rfl,yzX (zbw ⟨rfl,rfl⟩)⟩,zT⟩))
 ·have h0i:¬(((at_ Rc.o q.v.rs i).ns.length:Nat):Int)=0:=zo;rw[hls,yfX h0]
  (conv=>whnf);repeat(first|refine Need.mk ?_ ?_;exact hd0|refine RK.of (zam (zab false 20) Rc.o (k:=7) h7 rfl rfl hlt (by decide) rfl) ?_|refine KIf.f (ycX h0i) ?_);conv=>whnf
  refine⟨?_⟩
  (exact Ex.wG [0,1,2] [] [] (⟨pQ rfl rfl,rQ hq96,⟨rfl,rfl,yzX (zbw ⟨rfl,rfl⟩)⟩,zT⟩))
theorem zqz (hIt:zil) (n L:Nat) (p:Ck.Rp) (hf:Rk n p) (hn:n<=96) (hb:p.fd.length<=400000) (hL:EsL L p) (hl:L+n<1000):HG Tryz.prog 2 20 220 109 [.ptr 0 0] (gP false p) [.row (zaC 20 1 p) 106 0, .row (flatI (rcP false 20) 0 p.v.rs) 66 10] (.tup [])
  (gP false (orphans p)) [.row (zaC 20 1 (orphans p)) 106 0, .row (flatI (rcP false 20) 0 (orphans p).v.rs) 66 10]:=by
 have hp96:p.v.rs.length<=96:=by rw[hf.rf.n];exact hn
 have hI:=zeT hf hn hL hl;have hbl:=zr2 n false zaz p (λj q=>Rk n q/\q.fd.length<=p.fd.length+j/\EsL (L+j) q/\j<=n-16) hn (λj hj=>⟨(hI j hj).1,(hI j hj).2.1,(hI j hj).2.2,hj⟩) (λj q h=>h.1.rf.n) (λj q hj h _=>zqA hIt n (L+j) q (16+j) h.1 hn ⟨zo,hj⟩ (by have:=h.2.1;omega) h.2.2.1 zo)
 have hl96:(orphans p).v.rs.length<=96:=by
  have:=(hI (n-16) (yhX _)).1.rf.n;unfold orphans below;rw[hf.rf.n,this];exact hn
 refine HG.of zal zo ?_
 (conv=>whnf);repeat((refine ypY [0,1,220] (.tup []) [.row (zaC 221 1 (orphans p)) 106 0, .row (flatI (rcP false 221) 0 ((orphans p)).v.rs) 66 10, .row [.ptr 0 0] 107 0] (hbl) (⟨pF FR.G ⟨rfl,rfl⟩,rF FR.G hp96,⟨rfl,rfl,yzX (zbw ⟨rfl,rfl⟩)⟩,zT⟩) (⟨⟨rfl,rfl, .inl (zbg rfl)⟩,⟨rfl,rfl, .inl (zaE hl96)⟩,⟨rfl,rfl, .inl (zpg rfl)⟩,zT⟩) ?_ (hargs:=by((repeat' first|exact zT|exact rfl|refine zA ?_ ?_))) (h1:=(by unfold Rn Rnl;trivial));conv=>whnf))
 refine⟨?_⟩
 (exact Ex.wG [0,1] [] [] (⟨pQ rfl rfl,rQ hl96,zT⟩))
theorem ztt (hIt:zil) (n L:Nat) (p:Ck.Rp) (hf:Rk n p) (hn:n<=96) (h5:5<n) (hb:p.fd.length<=400000) (hL:EsL L p) (hl:L+n<1000) (hroot:dir (at_ Rc.o p.v.rs 5)=true):HG Tryz.prog 2 20 220 110 [.ptr 0 0] (gP false p) [.row (zaC 20 1 p) 106 0, .row (flatI (rcP false 20) 0 p.v.rs) 66 10] (.tup [])
  (gP false (cyclesR p)) [.row (zaC 20 1 (cyclesR p)) 106 0, .row (flatI (rcP false 20) 0 (cyclesR p).v.rs) 66 10]:=by
 have hpn:=hf.rf.n
 have hp96:p.v.rs.length<=96:=by rw[hf.rf.n];exact hn
 have hbe:cyclesR p=it cycleR p (n-16):=by unfold cyclesR;rw[hpn]
 rw[hbe];refine HG.of zal zo ?_;refine Ex.go ?_;refine Ex.wl (n-16) (λd=>zag [(0, .ptr 0 0),(2,ib (16+d:Nat))] 60) (λd=>zaw 20 220 (gP false (it cycleR p d)) [.row (zaC 20 1 (it cycleR p d)) 106 0, .row (flatI (rcP false 20) 0 (it cycleR p d).v.rs) 66 10]) ?_ ?_
 ·(exact Ex.wG [0,1] [] [] (⟨pQ rfl rfl,rQ hp96,zT⟩))
 ·intro d hd;obtain⟨h1,h2,h3,h4⟩:=zez hf hn hL hl d hd;have hst:it cycleR p (d+1)=cycleR (it cycleR p d) d:=rfl
  have hfin:d=n-16->it cycleR p d=it cycleR p (n-16):=λe=>by rw[e]
  have hr5:dir (at_ Rc.o (it cycleR p d).v.rs 5)=true:=by rw[h4.dir];exact hroot
  generalize it cycleR p d=q at*
  have hqn:q.v.rs.length=n:=h1.rf.n;have hq96:q.v.rs.length<=96:=zo
  have stay:∀{t:Tm} {s:St} {q':Ck.Rp},cycleR q d=q'->Weak 2 t s (zag [(0, .ptr 0 0),(2,ib (16+(d+1):Nat))] 60) (zaw 20 220 (gP false q') [.row (zaC 20 1 q') 106 0, .row (flatI (rcP false 20) 0 q'.v.rs) 66 10])->
    Weak 2 t s (zag [(0, .ptr 0 0),(2,ib (16+(d+1):Nat))] 60) (zaw 20 220 (gP false (it cycleR p (d+1))) [.row (zaC 20 1 (it cycleR p (d+1))) 106 0, .row (flatI (rcP false 20) 0 (it cycleR p (d+1)).v.rs) 66 10]):=λhe hw=>by rw[hst,he];exact hw
  refine Ex.go ?_;refine yPX (λh=> ?_) (λh=> ?_)
  ·have hltq:16+d<q.v.rs.length:=zo
   have hd0:(0:Int)<=((16+d:Nat):Int)/\((16+d:Nat):Int)<(q.v.rs.length:Nat):=⟨zo,zo⟩
   have hoff:0+((16+d:Nat):Int).toNat*10=(16+d)*10:=by rw[yrX,ylX]
   have hoff7:0+((16+d:Nat):Int).toNat*10+7=(16+d)*10+7:=by rw[yrX,ylX]
   obtain⟨x,hx⟩:∃x,at_ Rc.o q.v.rs (16+d)=x:=⟨_,rfl⟩
   have hdir:=zmD x
   obtain⟨ob,hob⟩:∃b,dir x=b:=⟨_,rfl⟩
   obtain⟨rb,hrb⟩:∃b,zsI q.v (16+d)=b:=⟨_,rfl⟩
   have hls:cycleR q d=if(ob&& !rb)=true then bring (it (λq k=>drop q (16+d) (at_ Nm.o x.ns k)) (q.note 7 (16+d:Nat) 0) x.ns.length) (16+d) else q:=by unfold cycleR;rw[zae,hx,hob,hrb]
   rw[hob] at hdir;have hrhc:=zoH q.v zo zo hr5 (λw hw=>by have:=(h1.na.es w hw).1;omega)
   have hoffr:0+((16+d:Nat):Int).toNat*1=16+d:=by rw[yrX];omega
   have hjr:16+d<(zmp q.v).length:=by rw[zgS];exact hltq
   have hatr:at_ false (zmp q.v) (16+d)=rb:=by rw[zmo _ _ hltq,hrb]
   (conv=>whnf);repeat(first|refine Need.mk ?_ ?_;exact hd0|refine RK.of (zch (zab false 20) Rc.o hoff rfl rfl hltq rfl) ?_|rw[hx]|refine yoY ([]) (hdir) (zgq) ?_);conv=>whnf
   cases ob
   ·rw[yfX (by simp)] at hls
    (conv=>whnf);repeat(((refine Ex.g ?_;conv=>whnf)))
    refine⟨d+1,zo,by dsimp only;omega,stay hls ?_⟩
    (exact Ex.wG [0,1] [] [] (⟨pQ rfl rfl,rQ hq96,zT⟩))
   ·cases rb
    ·rw[ygX (by rfl)] at hls;have hb9:q.fd.length<=1000000:=zo;have hx2:at_ Rc.o (q.note 7 (16+d:Nat) 0).v.rs (16+d)=x:=hx;have hltn:16+d<(q.note 7 (16+d:Nat) 0).v.rs.length:=hltq;have hdn:(0:Int)<=((16+d:Nat):Int)/\((16+d:Nat):Int)<((q.note 7 (16+d:Nat) 0).v.rs.length:Nat):=hd0;have hnk:=h1.note 7 (16+d:Nat) 0;have hnL:EsL (L+d) (q.note 7 (16+d:Nat) 0):=h3.of_v rfl
     have hxl:x.ns.length<=1000:=by rw[←hx];exact(h1.na.ns_at _).1
     (conv=>whnf);repeat(first|refine Need.mk ?_ ?_;exact hd0|refine KCall.lendC (zF 20 [1]) (.sl 220 0 q.v.rs.length q.v.rs.length) (hrhc) rfl ?_ ?_ ?_ ?_;exact zec _;exact Wzc (zeG (Lies.mk (λj hj=>za3 hj) (λj hj=>zah zo)) hq96 rfl (zbt (yiX.2 rfl)) rfl) Wzn;exact(by unfold Rn;rfl)|refine RK.of (yjY bb false false hatr hoffr rfl rfl hjr) ?_|refine Ck.cG (p':=(q.note 7 (16+d:Nat) 0)) (zdb false q 7 (16+d:Nat) 0 hq96 h1.rf.fl hb9) hq96 hq96 ?_|refine RK.of (zam (zab false 221) Rc.o (k:=7) hoff7 rfl rfl hltn (by decide) rfl) ?_|rw[hx2]|refine Ex.g ?_);conv=>whnf
     have hdr:=zkj hnk hnL (16+d) x.ns;refine Ex.wl x.ns.length (λk=>zag [(0, .ptr 0 0),(2,ib (16+d:Nat)),(46,LS 3 aNm Nm.o x.ns),(47,ib x.ns.length),(48,ib k)] 60) (λk=>zaw 20 220 (gP false (it (λq k=>drop q (16+d) (at_ Nm.o x.ns k)) (q.note 7 (16+d:Nat) 0) k)) [.row (zaC 20 1 (it (λq k=>drop q (16+d) (at_ Nm.o x.ns k)) (q.note 7 (16+d:Nat) 0) k)) 106 0, .row (flatI (rcP false 20) 0 (it (λq k=>drop q (16+d) (at_ Nm.o x.ns k)) (q.note 7 (16+d:Nat) 0) k).v.rs) 66 10]) ?_ ?_
     ·(exact Ex.wG [0,1] [] [] (⟨pQ rfl rfl,rQ hq96,zT⟩))
     ·intro k hk;obtain⟨g1,g2,g3,g4⟩:=hdr k;have hst2:it (λq k=>drop q (16+d) (at_ Nm.o x.ns k)) (q.note 7 (16+d:Nat) 0) (k+1)=drop (it (λq k=>drop q (16+d) (at_ Nm.o x.ns k)) (q.note 7 (16+d:Nat) 0) k) (16+d) (at_ Nm.o x.ns k):=rfl
      have hfin2:k=x.ns.length->cycleR q d=bring (it (λq k=>drop q (16+d) (at_ Nm.o x.ns k)) (q.note 7 (16+d:Nat) 0) k) (16+d):=λe=>by rw[hls,e]
      generalize it (λq k=>drop q (16+d) (at_ Nm.o x.ns k)) (q.note 7 (16+d:Nat) 0) k=w at*
      have hwn:w.v.rs.length=n:=g1.rf.n;have hw96:w.v.rs.length<=96:=zo;refine Ex.go ?_;refine yPX (λhkl=> ?_) (λhkl=> ?_)
      ·have hk0:(0:Int)<=(k:Nat)/\((k:Nat):Int)<(x.ns.length:Nat):=⟨zo,zo⟩
       obtain⟨m,hm⟩:∃m,at_ Nm.o x.ns k=m:=⟨_,rfl⟩
       have hm2:at_ Nm.o x.ns (((k:Nat):Int)).toNat=m:=by rw[yrX];exact hm
       rw[hm] at hst2;have hdp:=zrB n w (16+d) m g1.rf hn zo (λy hy=>(g1.na.es y hy).1)
       have hdw:(drop w (16+d) m).v.rs.length<=96:=by rw[(g1.drop (r:=16+d) (m:=m)).rf.n];exact hn
       (conv=>whnf);repeat(first|refine Need.mk ?_ ?_;exact hk0|rw[hm2]|refine Ck.cG (p':=(drop w (16+d) m)) (hdp) hw96 hdw ?_|refine Ex.g ?_);conv=>whnf
       refine⟨k+1,zo,by dsimp only;omega,?_⟩;dsimp only;rw[hst2]
       (exact Ex.wG [0,1] [] [] (⟨pQ rfl rfl,rQ hdw,zT⟩))
      ·have hb7:=zrV hIt n w (16+d) g1 hn ⟨zo,zo⟩;have hbk:Rk n (bring w (16+d)):=g1.bring hn ⟨zo,zo⟩ (by have:=g3.at 5;omega)
       have hb96:(bring w (16+d)).v.rs.length<=96:=by rw[hbk.rf.n];exact hn
       (conv=>whnf);repeat(first|refine Ck.cG (p':=(bring w (16+d))) (hb7) hw96 hb96 ?_|refine Ex.g ?_);conv=>whnf
       refine⟨d+1,zo,by dsimp only;omega,stay (hfin2 zo) ?_⟩
       (exact Ex.wG [0,1] [] [] (⟨pQ rfl rfl,rQ hb96,zT⟩))
    ·rw[yfX (by simp)] at hls
     (conv=>whnf);repeat(first|refine Need.mk ?_ ?_;exact hd0|refine KCall.lendC (zF 20 [1]) (.sl 220 0 q.v.rs.length q.v.rs.length) (hrhc) rfl ?_ ?_ ?_ ?_;exact zec _;exact Wzc (zeG (Lies.mk (λj hj=>za3 hj) (λj hj=>zah zo)) hq96 rfl (zbt (yiX.2 rfl)) rfl) Wzn;exact(by unfold Rn;rfl)|refine RK.of (yjY bb false true hatr hoffr rfl rfl hjr) ?_|refine Ex.g ?_);conv=>whnf
     refine⟨d+1,zo,by dsimp only;omega,stay hls ?_⟩
     (exact Ex.wG [0,1] [] [] (⟨pQ rfl rfl,rQ hq96,zT⟩))
  ·conv=>whnf
   rw[←hfin zo];refine⟨?_⟩
   (exact Ex.wG [0,1] [] [] (⟨pQ rfl rfl,rQ hq96,zT⟩))
end Go.Proofs.YtgcjejajljhnaaaGreatDoor
namespace Ck
open Go Go.Ex
theorem dV {P:Program} {A B N n:Nat} {f:FuncId} {as0 args:List AV} {t:T AO} {light:AV->Prop} {heavy:AV->St->Prop} {p p':Rp} (hc:HG P 2 20 220 f (.agg (rV n 20 0 1 p)::as0) (gP false (nf p)) [.row (flatI (rcP false 20) 0 p.v.rs) 66 10, .row ((cnL n p).map bb) 4 0] (.agg (rV n 20 0 1 p')) (gP false (nf p')) [.row (flatI (rcP false 20) 0 p'.v.rs) 66 10, .row ((cnL n p').map bb) 4 0])
  (h4:p.v.rs.length<=96) (h5:p'.v.rs.length<=96) (ha:WL (.f A B (gP false (nf p)) t) [] (zbQ 20 220 A [] [0,1]) as0 args) (hk:(ztZ 20 220 2 [0,1] (gP false (nf p')) [.row (flatI (rcP false N) 0 p'.v.rs) 66 10, .row ((cnL n p').map bb) 4 0] ⟨.f A B (gP false (nf p)) t,N⟩).nfK λs=>heavy (.agg (rV n N 0 1 p')) s)
  (hrows:p.v.rs.length<=96->zcL (.f A B (gP false (nf p)) t) [] (zbQ 20 220 A [] [0,1]) [.row (flatI (rcP false 20) 0 p.v.rs) 66 10, .row ((cnL n p).map bb) 4 0] [0,1]:=by exact λh=>⟨Ck.rF Ck.FR.G h,Ck.bR,zT⟩) (hL:okL 20 220 2 A B N [0,1] 2=true:=by rfl):DCall P f (.agg (rV n A 0 1 p)::args) light heavy ⟨.f A B (gP false (nf p)) t,N⟩:=
 DCall.liftG [0,1] (.agg (rV n N 0 1 p')) [.row (flatI (rcP false N) 0 p'.v.rs) 66 10, .row ((cnL n p').map bb) 4 0] hc hL (yQX _ _) (yQX _ _) (hrows h4) (ywX (za2 (zdN FR.G ⟨rfl,rfl⟩ ⟨rfl,rfl⟩)) ha) ⟨zdC (zdq FN.G rfl rfl),rfl,⟨rfl,rfl, .inl (zaE h5)⟩,⟨rfl,rfl, .inr ⟨rfl,zaF _⟩⟩,zT⟩ hk
theorem znQ {nm:List UInt8}:∀{l:List En} {e:En},Pws l->e∈l->e.n=nm->∃k,ixE nm l=some k/\at_ En.o l k=e
 |[],_,_,he,_=>by cases he
 |x::l,e,h,he,hn=>by
  have hp:=List.pairwise_cons.1 h;unfold ixE
  rcases yAX.1 he with rfl|hm
  ·refine⟨0,?_,rfl⟩;rw[ygX (by rw[hn];exact zdT _)]
  ·have h1:=hp.1 e hm;rw[hn] at h1;rw[yfX (by simp[h1])];obtain⟨k,h2,h3⟩:=znQ hp.2 hm hn;exact⟨k+1,by rw[h2];rfl,h3⟩
def P7 (p:Rp) (q:Rp):Prop:=Fit5 q/\Rv q/\Nf q/\Kp p q
theorem zts {p:Rp} {L:Nat} (h:Fit5 p) (hv:Rv p) (hnf:Nf p) (h96:p.v.rs.length<=96) (hL:EsL L p) (hl:L<=7000) (h5:dir (at_ Rc.o p.v.rs 5)=true):∀k,k<=p.v.rs.length-16->P7 p (it cycleR p k):=by
 have key:∀k,k<=p.v.rs.length-16->P7 p (it cycleR p k)/\EsL (L+k) (it cycleR p k):=by
  refine zbo (I:=λk q=>P7 p q/\EsL (L+k) q) (λs k hk ⟨⟨a1,a2,a3,a4⟩,a5⟩=>⟨⟨?_,?_,λj h1 h2 h3 c=> ?_,a4.trans (Kp.cycleR s k)⟩,zhZ a5 k⟩) ⟨⟨h,hv,hnf,ybY p⟩,hL⟩
  ·exact zf9 a1 (by rw[a4.2.2.2];exact h96) a5 zo (by rw[a4.2.1.dir];exact h5) (by rw[a4.2.2.2];omega)
  ·exact zlA a1 a2 (by rw[a4.2.2.2];exact h96) (by rw[a4.2.1.dir];exact h5) (by rw[a4.2.2.2];omega)
  ·have hkp:=Kp.cycleR s k
   rcases zqH (p:=s) (j:=k) (by rw[a4.2.2.2];omega) j with e|e
   ·rw[e] at c;exact a3 j h1 (by rw[←hkp.2.2.2];exact h2) (by rw[←zdZ hkp];exact h3) c
   ·rw[c] at e;cases e
 exact λk hk=>(key k hk).1
end Ck
namespace Go.Proofs.YtgcjejajljhnaaaGreatDoor
open Go.Ex Ck
set_option maxRecDepth 100000
set_option maxHeartbeats 16000000
theorem zqo (n L:Nat) (p:Ck.Rp) (hf:Rk n p) (hrv:Rv p) (hfit:Fit5 p) (hnf:Nf p) (hn:n<=96) (h5:5<n) (hb:p.fd.length<=400000) (hL:EsL L p) (hl:L+n<1000) (hroot:dir (at_ Rc.o p.v.rs 5)=true):HG Tryz.prog 2 20 220 66 [.agg (rV n 20 0 1 p)] (gP false (nf p)) [.row (flatI (rcP false 20) 0 (p).v.rs) 66 10, .row ((cnL n (p)).map bb) 4 0] (.agg (rV n 20 0 1 (cyclesR p)))
  (gP false (nf (cyclesR p))) [.row (flatI (rcP false 20) 0 ((cyclesR p)).v.rs) 66 10, .row ((cnL n ((cyclesR p))).map bb) 4 0]:=by
 have hpn:=hf.rf.n;have h96:p.v.rs.length<=96:=zo
 have hbe:cyclesR p=it cycleR p (n-16):=by unfold cyclesR;rw[hpn]
 have hI2:=zts hfit hrv hnf h96 hL zo hroot;rw[hpn] at hI2;rw[hbe];refine HG.of zal zo ?_;refine Ex.go ?_;refine Ex.wl (n-16) (λd=>zag [(1, .ptr 2 0),(2, .ptr 3 0),(3,ib (16+d:Nat))] 55) (λd=>zaw 20 220 (gP false (nf (it cycleR p d))) [.row (flatI (rcP false 20) 0 (it cycleR p d).v.rs) 66 10, .row ((cnL n (it cycleR p d)).map bb) 4 0, .row (rV n 20 0 1 (it cycleR p d)) 53 0, .row zkw 53 0]) ?_ ?_
 ·exact Ex.wG [0,1,220,221] [] [] ⟨rQ h96,bR,bV,aR,zT⟩
 intro d hd;obtain⟨h1,h2,h3,h4⟩:=zez hf hn hL hl d hd;obtain⟨k1,k2,k3,k4⟩:=hI2 d hd;have hst:it cycleR p (d+1)=cycleR (it cycleR p d) d:=rfl
 have hfin:d=n-16->it cycleR p d=it cycleR p (n-16):=λe=>by rw[e]
 have hr5:dir (at_ Rc.o (it cycleR p d).v.rs 5)=true:=by rw[h4.dir];exact hroot
 generalize it cycleR p d=q at*
 have hqn:q.v.rs.length=n:=h1.rf.n;have hq96:q.v.rs.length<=96:=zo;by_cases h:16+d<n
 ·have hlt:((16+d:Nat):Int)<(n:Nat):=zo;have hltq:16+d<q.v.rs.length:=zo
  have hd0:(0:Int)<=((16+d:Nat):Int)/\((16+d:Nat):Int)<(n:Nat):=⟨zo,zo⟩
  have hd0q:(0:Int)<=((16+d:Nat):Int)/\((16+d:Nat):Int)<(q.v.rs.length:Nat):=⟨zo,zo⟩
  have hoff7:0+((16+d:Nat):Int).toNat*10+7=(16+d)*10+7:=by rw[yrX,ylX]
  obtain⟨x,hx⟩:∃x,at_ Rc.o q.v.rs (16+d)=x:=⟨_,rfl⟩
  obtain⟨ob,hob⟩:∃b,dir (at_ Rc.o q.v.rs (16+d))=b:=⟨_,rfl⟩
  have hD:=zqt q.v (16+d) hltq zo hob
  obtain⟨rb,hrb⟩:∃b,zsI q.v (16+d)=b:=⟨_,rfl⟩
  have hls:cycleR q d=if(ob&& !rb)=true then bring (it (λq k=>drop q (16+d) (at_ Nm.o x.ns k)) (q.note 7 (16+d:Nat) 0) x.ns.length) (16+d) else q:=by unfold cycleR;rw[zae,hob,hrb,hx]
  have hrhc:=zmr q.v zo zo (λw hw=>by have:=(h1.na.es w hw).1;omega)
  have hoffr:0+((16+d:Nat):Int).toNat*1=16+d:=by rw[yrX];omega
  have hjr:16+d<(zmp q.v).length:=by rw[zgS];exact hltq
  have hatr:at_ false (zmp q.v) (16+d)=rb:=by rw[zmo _ _ hltq,hrb]
  cases ob
  ·rw[yfX (by simp)] at hls
   (conv=>whnf);repeat(first|refine KIf.t (ybX hlt) ?_|refine Ck.lV q (hD) hq96 hqn.symm (Wzc (ydX rfl) Wzn) ?_|refine Ex.g ?_);conv=>whnf
   refine⟨d+1,zo,by dsimp only;omega,?_⟩;dsimp only;rw[hst,hls];exact Ex.wG [0,1,2,3] [] [] ⟨rQ hq96,bR,bV,aR,zT⟩
  ·cases rb
   ·rw[ygX (by rfl)] at hls
    have ho16:own (at_ Rc.o q.v.rs (16+d))=true:=by
     unfold dir at hob;simp only[ykX,yiY] at hob;unfold own;rw[hob.1,hob.2];rfl
    have hxne:x.ns≠[]:=by rw[←hx];exact k3 (16+d) zo hltq ho16
    have hxk:x.k=0:=by
     rw[←hx];unfold dir at hob;simp only[ykX,yiY] at hob;exact hob.2
    have hx1:x.ns.length<=1:=by rw[←hx];exact(k1.nk (16+d)).2 (by rw[hx,hxk];decide)
    have hx2:x.ns.length=1:=by have:=yXX.2 hxne;omega
    obtain⟨m,hm⟩:∃m,x.ns=[m]:=by
     match hxs:x.ns,hx2 with
     |[m],_=>exact⟨m,rfl⟩
    have hls2:cycleR q d=bring (drop (q.note 7 (16+d:Nat) 0) (16+d) m) (16+d):=by
     rw[hls,hm];rfl
    obtain⟨hrd,e,he,hef,hen⟩:=(k1.nk (16+d)).1 m (by rw[hx,hm];exact yiX.2 rfl);obtain⟨r1,r2,r3,r4⟩:=zce hrd;have hdi:((m.d.r.toNat:Nat):Int)=m.d.r:=yWY r1;have he:e∈(at_ Rc.o q.v.rs m.d.r.toNat).es:=he;obtain⟨k,hk1,hk2⟩:=znQ (k1.pw m.d.r.toNat) he hen;have hkl:=ziJ hk1;have hesl:(at_ Rc.o q.v.rs m.d.r.toNat).es.length<=1000:=(h1.na.es_at _).1
    have hAt:=zoJ (q.note 7 (16+d:Nat) 0).v m.d.r.toNat m.n r2 (by show(at_ Rc.o q.v.rs m.d.r.toNat).es.length<=100000;omega) (λy hy=>(zbv ((k2.at r2).en y hy)).1) (by
     have:=(k2.at hltq).nn m (by rw[hx,hm];exact yiX.2 rfl)
     exact(zcN this).2)
    have hAt:PureC Tryz.prog 118 [zbF (q.note 7 (16+d:Nat) 0).v,ib (m.d.r.toNat:Nat),tb m.n] (ib (ixL (λe=>Ck.same e.n m.n) (at_ Rc.o q.v.rs m.d.r.toNat).es 0)):=hAt;rw[hdi,zf0,hk1] at hAt;have hAt:PureC Tryz.prog 118 [zbF (q.note 7 (16+d:Nat) 0).v,ib m.d.r,tb m.n] (ib (0+k:Nat)):=hAt;have hNo:=zcM n q 7 (16+d:Nat) 0 hqn hn h1.rf.fl zo zo;have hRe:=zcu n (q.note 7 (16+d:Nat) 0) m.d.r.toNat (0+k) _ hqn hn zo (by show 0+k<(at_ Rc.o q.v.rs m.d.r.toNat).es.length;omega) (by show(at_ Rc.o q.v.rs m.d.r.toNat).es.length<=100000;omega) rfl
    have hdrop:drop (q.note 7 (16+d:Nat) 0) (16+d) m=(q.note 7 (16+d:Nat) 0).setR m.d.r.toNat {at_ Rc.o (q.note 7 (16+d:Nat) 0).v.rs m.d.r.toNat with es:=(at_ Rc.o (q.note 7 (16+d:Nat) 0).v.rs m.d.r.toNat).es.take (0+k)++(at_ Rc.o (q.note 7 (16+d:Nat) 0).v.rs m.d.r.toNat).es.drop (0+k+1)}:=by
     rw[zrA (p:=q.note 7 (16+d:Nat) 0) hrd (k1.pw m.d.r.toNat)];have hk1':ixE m.n (at_ Rc.o (q.note 7 (16+d:Nat) 0).v.rs m.d.r.toNat).es=some k:=hk1;have hk2':at_ En.o (at_ Rc.o (q.note 7 (16+d:Nat) 0).v.rs m.d.r.toNat).es k=e:=hk2;rw[hk1'];dsimp only;rw[hk2',ygX ⟨hef,hen⟩,ylX]
    rw[←hdrop,hdi] at hRe;have hwk:Rk n (drop (q.note 7 (16+d:Nat) 0) (16+d) m):=(h1.note 7 (16+d:Nat) 0).drop;have hwv:Rv (drop (q.note 7 (16+d:Nat) 0) (16+d) m):=(k2.of_v (q:=q.note 7 (16+d:Nat) 0) rfl).drop _ _;have hB:=znz n (drop (q.note 7 (16+d:Nat) 0) (16+d) m) (16+d) hwk hwv hn ⟨zo,h⟩
    have hw96:(drop (q.note 7 (16+d:Nat) 0) (16+d) m).v.rs.length<=96:=by rw[hwk.rf.n];exact hn
    have hb96:(bring (drop (q.note 7 (16+d:Nat) 0) (16+d) m) (16+d)).v.rs.length<=96:=by
     have h3':EsL (L+d) (q.note 7 (16+d:Nat) 0):=h3.of_v rfl;have:=(h3'.drop (r:=16+d) (m:=m)).at 5;rw[(hwk.bring hn ⟨zo,h⟩ zo).rf.n];exact hn
    obtain⟨W,hW⟩:∃W,drop (q.note 7 (16+d:Nat) 0) (16+d) m=W:=⟨_,rfl⟩
    rw[hW] at hls2 hRe hB hw96 hb96
    obtain⟨Z,hZ⟩:∃Z,bring W (16+d)=Z:=⟨_,rfl⟩
    rw[hZ] at hls2 hB hb96;have hltn:16+d<(q.note 7 (16+d:Nat) 0).v.rs.length:=hltq
    have hns:(at_ Rc.o (q.note 7 (16+d:Nat) 0).v.rs (16+d)).ns=[m]:=by show(at_ Rc.o q.v.rs (16+d)).ns=[m];rw[hx,hm]
    have hz0:(0:Int)<=0/\(0:Int)<(([m]:List Nm).length:Nat):=⟨zo,by simp⟩
    (conv=>whnf);repeat(first|refine KIf.t (ybX hlt) ?_|refine Need.mk ?_ ?_;(focus(first|exact hd0|exact hd0q|exact hz0))|refine Ck.lV q (hD) hq96 hqn.symm (Wzc (ydX rfl) Wzn) ?_|refine KCall.lendC (zF 20 [0]) (.sl 220 0 q.v.rs.length q.v.rs.length) (hrhc) rfl ?_ ?_ ?_ ?_;exact zec _;exact Wzc (zeG (p:=nf q) (Lies.mk (λj hj=>za3 hj) (λj hj=>zah zo)) hq96 rfl (zbt (by simp)) hqn.symm) Wzn;exact(by unfold Rn;rfl)|refine RK.of (yjY bb false false hatr hoffr rfl rfl hjr) ?_|refine Ck.cV (p':=(q.note 7 (16+d:Nat) 0)) (hNo) hq96 hq96 (WL.sc rfl (WL.sc rfl (WL.sc rfl yMX))) ?_|refine ygY (rV n 221 0 1 (q.note 7 (16+d:Nat) 0)) ?_|refine RK.of (zam (zab false 221) Rc.o (k:=7) hoff7 rfl rfl hltn (by decide) rfl) ?_|rw[hns]|refine Ck.lD (q.note 7 (16+d:Nat) 0) (hAt) hq96 hqn.symm (Wzc (ydX rfl) (Wzc (ydX rfl) Wzn)) ?_|refine Ck.dV (p':=W) (hRe) hq96 hw96 (WL.sc rfl (WL.sc rfl yMX)) ?_|refine ygY (rV n 440 0 1 W) ?_|refine Ck.cV (p':=Z) (hB) hw96 hb96 (WL.sc rfl yMX) ?_|refine ygY (rV n 658 0 1 Z) ?_|refine Ex.g ?_);conv=>whnf
    refine⟨d+1,zo,by dsimp only;omega,?_⟩;dsimp only;rw[hst,hls2];exact Ex.wG [0,1,2,3] [] [] ⟨rQ hb96,bR,bV,aR,zT⟩
   ·rw[yfX (by simp)] at hls
    (conv=>whnf);repeat(first|refine KIf.t (ybX hlt) ?_|refine Need.mk ?_ ?_;exact hd0q|refine Ck.lV q (hD) hq96 hqn.symm (Wzc (ydX rfl) Wzn) ?_|refine KCall.lendC (zF 20 [0]) (.sl 220 0 q.v.rs.length q.v.rs.length) (hrhc) rfl ?_ ?_ ?_ ?_;exact zec _;exact Wzc (zeG (p:=nf q) (Lies.mk (λj hj=>za3 hj) (λj hj=>zah zo)) hq96 rfl (zbt (by simp)) hqn.symm) Wzn;exact(by unfold Rn;rfl)|refine RK.of (yjY bb false true hatr hoffr rfl rfl hjr) ?_|refine Ex.g ?_);conv=>whnf
    refine⟨d+1,zo,by dsimp only;omega,?_⟩;dsimp only;rw[hst,hls];exact Ex.wG [0,1,2,3] [] [] ⟨rQ hq96,bR,bV,aR,zT⟩
 ·have hlt:¬((16+d:Nat):Int)<(n:Nat):=zo
  (conv=>whnf);repeat(first|refine KIf.f (ycX hlt) ?_|refine ygY (rV n 20 0 1 q) ?_);conv=>whnf
  rw[←hfin zo];exact⟨Ex.wG [0,1] [] [] ⟨rQ hq96,bR,zT⟩ (hsl:=by exact⟨za2 (zgB ⟨rfl,rfl⟩ ⟨rfl,rfl⟩ zN),zT⟩)⟩
end Go.Proofs.YtgcjejajljhnaaaGreatDoor
namespace Ck
open Go Go.Ex
def zdO :List Run->Int
 |[]=>0
 |r::l=>r.l+zdO l
theorem zeN (a b:List Run):zdO (a++b)=zdO a+zdO b:=by
 induction a with
 |nil=>show _=0+_;simp
 |cons x a ih=>show x.l+zdO (a++b)=(x.l+zdO a)+zdO b;rw[ih];omega
theorem zkN (l:List Run):∀k,k<=l.length->it (λn i=>n+(at_ Run.o l i).l) (0:Int) k=zdO (l.take k)
 |0,_=>by simp[it,zdO]
 |k+1,h=>by
  show it (λn i=>n+(at_ Run.o l i).l) (0:Int) k+(at_ Run.o l k).l=_;rw[zkN l k zo,(zku l k h).1,zeN]
  show _=zdO (l.take k)+((at_ Run.o l k).l+0)
  omega
theorem zgw (l:List Run):za0 l=zdO l:=by
 unfold za0;rw[zkN l _ (yhX _),yCY]
theorem zpI {l:List Run} (h:∀r∈l,0<=r.l):0<=zdO l:=by
 induction l with
 |nil=>exact yEZ _
 |cons x l ih=>
  have:=ih λr hr=>h r (ycY _ hr);have:=h x (yxY ..);show 0<=x.l+zdO l;omega
def zdp :List Run->Int->List Run
 |[],_=>[]
 |r::l,n=>if 0<n then⟨r.s,zfu r.l n⟩::zdp l (n-zfu r.l n) else []
theorem zmn (l:List Run):zdp l 0=[]:=by
 cases l with
 |nil=>rfl
 |cons r l=>unfold zdp;rw[yfX zo]
theorem ziT :∀(l:List Run) (t:List Bool) (acc l':List Run),(∀r∈l,1<=r.l)->(zcy t acc l).2=some l'->∃m,l'=acc++m/\zdp l (zdO m)=m/\0<=zdO m
 |[],t,acc,l',_,h=>by unfold zcy at h;cases h
 |r::l,t,acc,l',hl,h=>by
  have hr:=hl r (yxY ..);have hl':∀r∈l,1<=r.l:=λx hx=>hl x (ycY _ hx)
  have go:∀t',(zcy t' (acc++[r]) l).2=some l'->∃m,l'=acc++m/\zdp (r::l) (zdO m)=m/\0<=zdO m:=λt' h'=>by
   obtain⟨m,h1,h2,h3⟩:=ziT l t' (acc++[r]) l' hl' h'
   have e:zfu r.l (r.l+zdO m)=r.l:=by unfold zfu;rw[yfX zo]
   refine⟨r::m,by rw[h1];simp,?_,by show 0<=r.l+zdO m;omega⟩;show zdp (r::l) (r.l+zdO m)=_;unfold zdp;rw[ygX zo,e,show r.l+zdO m-r.l=zdO m by omega,h2]
  unfold zcy at h;split at h
  ·exact go _ h
  ·split at h
   ·exact go _ h
   ·rename_i t' k hk;have hkl:=(zgK t r.s r.l.toNat 0).2 k (by rw[hk]);have h:=yfZ h;by_cases h0:0<k
    ·rw[ygX h0] at h
     have e:zfu r.l ((k:Int)+0)=k:=by unfold zfu;rw[ygX zo];omega
     refine⟨[⟨r.s,k⟩],h.symm,?_,by show(0:Int)<=(k:Int)+0;omega⟩;show zdp (r::l) ((k:Int)+0)=_;unfold zdp;rw[ygX zo,e,show(k:Int)+0-k=0 by omega,zmn]
    ·rw[yfX h0] at h;refine⟨[],h.symm,?_,yEZ _⟩;exact zmn _
theorem ztu {l:List Run} {t t':List Bool} {l':List Run} (hl:∀r∈l,1<=r.l) (h:cut l t=(t',some l')):zdp l (zdO l')=l':=by
 obtain⟨m,h1,h2,_⟩:=ziT l t [] l' hl (by unfold cut at h;rw[h]);rw[yAY] at h1;rw[h1];exact h2
theorem zqg {c:Int} {r:Run} {t:List Bool} (h:0<=r.s/\0<=r.l/\r.s+r.l<=c):runT c r t=fill t r.s r.l.toNat:=by
 have key:∀n,n<=r.l.toNat->it (λt k=>if r.s≠-1/\r.s+k<c then t.set (r.s+k).toNat true else t) t n=fill t r.s n:=λn=>by
  induction n with
  |zero=>intro _;rfl
  |succ n ih=>
   intro hn;show(if r.s≠-1/\r.s+(n:Int)<c then _ else _)=(fill t r.s n).set _ _;rw[ygX ⟨zo,zo⟩,ih zo]
 exact key _ (yhX _)
theorem zme {v:Pt} (h:zwm v):zdM v.c v.al (List.replicate v.c.toNat false)=taken v:=by
 have key:∀n,n<=v.al.length->it (λt i=>runT v.c (at_ Run.o v.al i) t) (List.replicate v.c.toNat false) n=it (λt i=>fill t (at_ Run.o v.al i).s (at_ Run.o v.al i).l.toNat) (List.replicate v.c.toNat false) n:=λn=>by
  induction n with
  |zero=>intro _;rfl
  |succ n ih=>
   intro hn;show runT v.c _ _=fill _ _ _;rw[ih zo,zqg (h _ (at_mem Run.o _ _ zo))]
 exact key _ (yhX _)
end Ck
namespace Go.Proofs.YtgcjejajljhnaaaGreatDoor
open Go.Ex Ck
set_option maxRecDepth 100000
set_option maxHeartbeats 8000000
theorem zwZ (y:Sm) (n:Int) (hl:y.r.length<=100000) (hr:∀r∈y.r,zm3 r) (hn:0<=n/\n<=1000000000000):PureC Tryz.prog 124 [.agg (aSm y),ib n] (.agg (aSm ⟨zdp y.r n,zfu y.z (n*256)⟩)):=by
 have hmul:Small (n*256):=⟨zo,zo⟩
 obtain⟨z,hz⟩:∃z,zfu y.z (n*256)=z:=⟨_,rfl⟩
 rw[hz];refine ytX zal rfl ?_
 (conv=>whnf);repeat(first|refine Ex.g ?_|rw[hz]);conv=>whnf
 refine yFX zal (D:=List Run×Int) (λd=>y.r.length-d.1.length) (λd=>d.1.length<=y.r.length/\0<=d.2/\d.2<=1000000000000/\zdp y.r n=d.1++zdp (y.r.drop d.1.length) d.2) (λd=>zag [(1,ib d.2),(2, .ptr 0 0),(4, .ptr 1 0),(5, .ptr 2 0),(6,ib d.1.length)] 46)
  (λd=>zan (match d.1 with
   |[]=>[.row (aSm y) 80 0, .row [.sc (.slice none 0 0),ib 0] 80 0, .row [.sc (.slice none 0 0),ib z] 80 0]
   |a::l=>[.row (aSm y) 80 0, .row [.sc (.slice none 0 0),ib 0] 80 0, .row [.so 3 0 (a::l).length 0,ib z] 80 0, .row ((a::l).flatMap zaP) 78 2])) ([],n) ⟨ymX _,hn.1,hn.2,rfl⟩ ?_ ?_
 ·exact Ex.wO [0,1,2] []
 rintro⟨acc,m⟩ ⟨h1,h2,h3,h4⟩;dsimp only at h1 h2 h3 h4;by_cases hlt:acc.length<y.r.length
 ·by_cases hm:0<m
  ·obtain⟨e1,e2⟩:=zku y.r acc.length hlt;have hrk:=hr _ (at_mem Run.o _ _ hlt)
   have hwb:0<=zfu (at_ Run.o y.r acc.length).l m/\zfu (at_ Run.o y.r acc.length).l m<=m:=by unfold zfu;obtain⟨_,_,_,_⟩:=hrk;split<;>omega
   have hI:(acc++[(⟨(at_ Run.o y.r acc.length).s,zfu (at_ Run.o y.r acc.length).l m⟩:Run)]).length<=y.r.length/\0<=m-zfu (at_ Run.o y.r acc.length).l m/\m-zfu (at_ Run.o y.r acc.length).l m<=1000000000000/\zdp y.r n=(acc++[⟨(at_ Run.o y.r acc.length).s,zfu (at_ Run.o y.r acc.length).l m⟩])++zdp (y.r.drop (acc++[(⟨(at_ Run.o y.r acc.length).s,zfu (at_ Run.o y.r acc.length).l m⟩:Run)]).length) (m-zfu (at_ Run.o y.r acc.length).l m):=by
    refine⟨by simp;omega,zo,zo,?_⟩;rw[h4,e2]
    conv=>lhs;unfold zdp
    rw[ygX hm];simp
   have hi0:(0:Int)<=(acc.length:Nat)/\((acc.length:Nat):Int)<(y.r.length:Nat):=⟨zo,zo⟩
   have hsm:Small (m-zfu (at_ Run.o y.r acc.length).l m):=⟨zo,zo⟩
   cases acc with
   |nil=>
    dsimp only
    (conv=>whnf);repeat(first|refine Ex.g ?_|refine Ex.om ?_);conv=>whnf
    refine⟨([⟨(at_ Run.o y.r 0).s,zfu (at_ Run.o y.r 0).l m⟩],m-zfu (at_ Run.o y.r 0).l m),hI,by dsimp only;simp;omega,?_⟩;dsimp only;exact Ex.wO [0,1,2,5] []
   |cons a l=>
    have hlen:((a::l).flatMap zaP).length=0+(a::l).length*2:=by rw[Ex.zmJ (enc:=zaP) (sz:=2) (λ_=>rfl),ylX]
    have hsl:Small (((a::l).length:Nat)+1):=⟨zo,zo⟩
    dsimp only
    (conv=>whnf);repeat(first|refine Ex.g ?_|refine Ex.om ?_);conv=>whnf
    refine⟨(a::l++[⟨(at_ Run.o y.r (a::l).length).s,zfu (at_ Run.o y.r (a::l).length).l m⟩],m-zfu (at_ Run.o y.r (a::l).length).l m),hI,(by dsimp only;rw[yvX,yJZ];omega),?_⟩;dsimp only[List.cons_append];refine yLY [0,1,2,6] [] rfl rfl ?_ ?_
    ·(repeat' first|exact zT|refine zA ?_ ?_)<;>(first|exact rfl|(exact WRow.snoc (l:=(a::l).flatMap zaP) (x:=zaP _) (by show(a::l++[_]).flatMap zaP=_;rw[yJX,List.flatMap_singleton]) (zbL (λ_=>rfl) _) rfl (zbj rfl))|(first|exact Or.inr ⟨rfl,rfl⟩|(refine Or.inl ⟨rfl,?_⟩;(conv=>whnf);(repeat' first|exact zT|exact rfl|refine zA ?_ ?_)<;>(try(conv=>whnf))<;>((show(a::l).length+1=(a::l++[_]).length;rw[yvX];rfl)))))
    ·(repeat' first|exact zT|exact rfl|refine zA ?_ ?_)<;>(try(conv=>whnf))<;>(show(((a::l++[_]).length:Nat):Int)=_;rw[yvX];rfl)
  ·have hm0:m=0:=zo
   have hR:zdp y.r n=acc:=by rw[h4,hm0,zmn,yKX]
   rw[hR]
   cases acc with
   |nil=>
    dsimp only
    (conv=>whnf);repeat(first|refine Ex.g ?_|refine Ex.om ?_);conv=>whnf
    refine .z [] ?_;show Wz _ _ (.agg _) (.agg _);unfold Wz;exact Wzc (Wz.nil rfl) (Wzc (ydX rfl) Wzn)
   |cons a l=>
    dsimp only
    (conv=>whnf);repeat(first|refine Ex.g ?_|refine Ex.om ?_);conv=>whnf
    refine .z [3] ?_;show Wz _ _ (.agg _) (.agg _);unfold Wz;exact Wzc (Wz.list (λ_=>rfl) (λ_=>rfl) rfl (by simp) rfl rfl) (Wzc (ydX rfl) Wzn)
 ·have hR:zdp y.r n=acc:=by
   rw[h4,List.drop_eq_nil_of_le zo];simp[zdp]
  rw[hR]
  cases acc with
  |nil=>
   dsimp only
   (conv=>whnf);repeat(first|refine Ex.g ?_|refine Ex.om ?_);conv=>whnf
   refine .z [] ?_;show Wz _ _ (.agg _) (.agg _);unfold Wz;exact Wzc (Wz.nil rfl) (Wzc (ydX rfl) Wzn)
  |cons a l=>
   dsimp only
   (conv=>whnf);repeat(first|refine Ex.g ?_|refine Ex.om ?_);conv=>whnf
   refine .z [3] ?_;show Wz _ _ (.agg _) (.agg _);unfold Wz;exact Wzc (Wz.list (λ_=>rfl) (λ_=>rfl) rfl (by simp) rfl rfl) (Wzc (ydX rfl) Wzn)
end Go.Proofs.YtgcjejajljhnaaaGreatDoor
namespace Ck
open Go Go.Ex
theorem zo9 {i k:Nat} {t:Rp×List Bool} (ht:Rv t.1) (hut:(at_ Rc.o t.1.v.rs i).u=true):Rv (zaq i t k).1/\(at_ Rc.o (zaq i t k).1.v.rs i).u=true:=by
 unfold zaq;dsimp only;have hx:=zae t.1 i;split
 ·exact⟨ht,hut⟩
 ·rename_i t' l hcut;refine⟨(ht.of_v (q:=t.1.note 1 i k) rfl).setR i _ λhi=> ?_,?_⟩
  ·rw[hx] at hcut⊢;refine(ht.at hi).strs hut _ (by rw[yoX];exact(ht.at hi).ss8) λs hs=> ?_
   rcases yoZ hs with hs|rfl
   ·exact(ht.at hi).sn s hs
   ·by_cases hk:k<(at_ Rc.o t.1.v.rs i).ss.length
    ·have h0:=zei ((ht.at hi).sn _ (at_mem Sm.o _ k hk));have h1:=zh0 _ t.2 [] h0.2.1 (λ_ h=>(by cases h)) l (by unfold cut at hcut;rw[hcut])
     have hl24:l.length<=24:=by have:=h1.1;simp only[ySX,ylX] at this;omega
     have hcl:=zh2 l h1.2;exact zni ⟨hl24,h1.2,by show 0<=min _ _;omega,by show min _ _<=(2147483647:Int);omega⟩
    ·rw[y8Y zo] at hs;exact(ht.at hi).sn _ hs
  ·show(at_ Rc.o (t.1.v.rs.set i _) i).u=true;rw[zb0];split
   ·show(t.1.rc i).u=true;rw[hx];exact hut
   ·exact hut
theorem zl5 {c:Int}:∀{l:List Run},(∀r∈l,r.l<=c)->zdO l<=l.length*c
 |[],_=>by show(0:Int)<=((0:Nat):Int)*c;omega
 |x::l,h=>by
  have h1:=h x (yxY ..);have h2:=zl5 (l:=l) λr hr=>h r (ycY _ hr)
  have e:(((x::l).length:Nat):Int)*c=(l.length:Int)*c+c:=by rw[yGX,Int.natCast_add,Int.add_mul,Int.natCast_one,Int.one_mul]
  show x.l+zdO l<=_;rw[e];omega
theorem zrK {i k:Nat} {t:Rp×List Bool}:(zaq i t k).1.v.c=t.1.v.c:=by
 unfold zaq;dsimp only;split<;>rfl
structure Rw (n M:Nat) (c:Int) (s:Rp×List Bool):Prop where
 b:Rb n M s
 v:Rv s.1
 c:s.1.v.c=c
theorem zwx {p:Rp} (h:Rv p) {i:Nat} (hi:i<p.v.rs.length) (hu:(at_ Rc.o p.v.rs i).u=false):(at_ Rc.o p.v.rs i).ss=[]:=by
 have h1:=((h.at hi).un hu).2;have h2:=(h.at hi).k;have h3:=(h.at hi).ln;have h4:=(h.at hi).ds;unfold Rc.parts at h1;exact yeX zo
theorem zpP {n M:Nat} {c:Int} {s:Rp×List Bool} (h:Rw n M c s) {i:Nat} (hi:i<n):zac s i=it (zaq i) s (at_ Rc.o s.1.v.rs i).ss.length:=by
 unfold zac;simp only[zae];split
 ·rfl
 ·rename_i hu;rw[zwx h.v (by rw[h.b.rf.n];exact hi) (by simpa using hu)];rfl
theorem zrI {n M i:Nat} {c:Int} {s:Rp×List Bool} (h:Rw n M c s) (hi:i<n):∀k,k<=(at_ Rc.o s.1.v.rs i).ss.length->Rw n M c (it (zaq i) s k)
 |0,_=>h
 |k+1,hk=>by
  have hu:(at_ Rc.o s.1.v.rs i).u=true:=by
   by_cases hu:(at_ Rc.o s.1.v.rs i).u=true
   ·exact hu
   ·rw[zwx h.v (by rw[h.b.rf.n];exact hi) (by simpa using hu)] at hk;exact absurd hk (Nat.not_succ_le_zero _)
  have key:∀k,Rv (it (zaq i) s k).1/\(at_ Rc.o (it (zaq i) s k).1.v.rs i).u=true:=λk=>by
   induction k with
   |zero=>exact⟨h.v,hu⟩
   |succ k ih=>exact zo9 ih.1 ih.2
  exact⟨(zlB h.b hi (k+1)).1,(key (k+1)).1,by show(zaq i _ k).1.v.c=c;rw[zrK];exact(zrI h hi k zo).c⟩
theorem zqb {n M:Nat} {c:Int} {s:Rp×List Bool} (h:Rw n M c s):∀k,k<=n->Rw n M c (it zac s k)
 |0,_=>h
 |k+1,hk=>by
  have ih:=zqb h k zo;show Rw n M c (zac _ k);rw[zpP ih zo];exact zrI ih zo _ (yhX _)
end Ck
namespace Go.Proofs.YtgcjejajljhnaaaGreatDoor
open Go.Ex Ck
set_option maxRecDepth 100000
set_option maxHeartbeats 16000000
theorem zu9 (n M:Nat) (p:Ck.Rp) (hf:Rb n M (p,Ck.taken p.v)) (hrv:Rv p) (hM:M=p.v.c.toNat) (hn:n<=96) (hc:0<=p.v.c/\p.v.c<=100000) (hal:zwm p.v) (hall:p.v.al.length<=100000) (hb:p.fd.length<=100000):HG Tryz.prog 2 20 220 71 [.agg (rV n 20 0 1 p)] (gP false (nf p)) [.row (flatI (rcP false 20) 0 (p).v.rs) 66 10, .row ((cnL n (p)).map bb) 4 0] (.agg (rV n 20 0 1 (badRuns p)))
  (gP false (nf (badRuns p))) [.row (flatI (rcP false 20) 0 ((badRuns p)).v.rs) 66 10, .row ((cnL n ((badRuns p))).map bb) 4 0]:=by
 have hpn:p.v.rs.length=n:=hf.rf.n;have h96:p.v.rs.length<=96:=zo;have hah:=zlO p.v hc hall (λr hr=>⟨(hal r hr).1,(hal r hr).2.2⟩) M hM;rw[zme hal] at hah
 obtain⟨B,hB⟩:∃B,B=1000:=⟨_,rfl⟩
 refine HG.of zal zo ?_
 (conv=>whnf);repeat((refine KCall.lendC (zF 20 [0]) (.sl 222 0 M M) (hah) rfl ?_ ?_ ?_ ?_;exact zec _;exact Wzc (zeG (p:=nf p) (Lies.mk (λj hj=>za3 hj) (λj hj=>zah zo)) h96 rfl (zbt (by simp)) hpn.symm) Wzn;exact(by unfold Rn;rfl);conv=>whnf))
 obtain⟨s0,hs0⟩:∃s0:Ck.Rp×List Bool,s0=(p,Ck.taken p.v):=⟨_,rfl⟩
 have hend:badRuns p=(it zac s0 n).1:=by rw[hs0,←hpn];rfl
 rw[←hs0] at hf
 have hw0:Rw n M p.v.c s0:=⟨hf,by rw[hs0];exact hrv,by rw[hs0]⟩
 refine Ex.wl n (λd=>zag [(1, .ptr 2 0),(2, .ptr 3 0),(3, .sl 4 0 M M),(4,ib d)] 123) (λd=>zaw 20 220 (gP false (nf (it zac s0 d).1)) [.row (flatI (rcP false 20) 0 ((it zac s0 d).1).v.rs) 66 10, .row ((cnL n ((it zac s0 d).1)).map bb) 4 0, .row (rV n 20 0 1 (it zac s0 d).1) 53 0, .row zkw 53 0, .row ((it zac s0 d).2.map bb) 4 0]) ?_ ?_
 ·subst hs0;exact Ex.wG [0,1,220,221,222] [] [] ⟨rQ h96,bR,bV,aR,bR,zT⟩
 intro d hd;obtain⟨h1,h2⟩:=zgO hB hf d hd;have hwd:=zqb hw0 d hd;have hst:it zac s0 (d+1)=zac (it zac s0 d) d:=rfl
 have hfin:d=n->(it zac s0 d).1=badRuns p:=λe=>by rw[hend,e]
 have hmul:d*B<=96*B:=yEX _ zo
 have hb0:s0.1.fd.length<=100000:=by rw[hs0];exact hb
 generalize it zac s0 d=q0 at*
 have hqn:q0.1.v.rs.length=n:=h1.rf.n;have hq96:q0.1.v.rs.length<=96:=zo;by_cases h:d<n
 ·have hls:=zpP hwd h;have hin:=zlB h1 h;have hcw:=zrI hwd h;have hL:(at_ Rc.o q0.1.v.rs d).ss.length<=1000:=(h1.at h).1;have hd96:d<96:=zo;have hdi:((d:Nat):Int)<(n:Nat):=zo
  obtain⟨L,hL0⟩:∃L,(at_ Rc.o q0.1.v.rs d).ss.length=L:=⟨_,rfl⟩
  rw[hL0] at hls hin hcw hL
  (conv=>whnf);repeat((refine KIf.t (ybX hdi) ?_;conv=>whnf))
  refine Ex.wl L (λk=>zag [(1, .ptr 2 0),(2, .ptr 3 0),(3, .sl 4 0 M M),(4,ib d),(5,ib k)] 123) (λk=>zaw 20 220 (gP false (nf (it (zaq d) q0 k).1)) [.row (flatI (rcP false 20) 0 ((it (zaq d) q0 k).1).v.rs) 66 10, .row ((cnL n ((it (zaq d) q0 k).1)).map bb) 4 0, .row (rV n 20 0 1 (it (zaq d) q0 k).1) 53 0, .row zkw 53 0, .row ((it (zaq d) q0 k).2.map bb) 4 0]) ?_ ?_
  ·exact Ex.wG [0,1,2,3,4] [] [] ⟨rQ hq96,bR,bV,aR,bR,zT⟩
  intro k hk;obtain⟨h3,h4,h5⟩:=hin k;have hwk:=hcw k hk;have hst2:it (zaq d) q0 (k+1)=zaq d (it (zaq d) q0 k) k:=rfl
  have hfin2:k=L->it (zaq d) q0 k=zac q0 d:=λe=>by rw[hls,e]
  generalize it (zaq d) q0 k=q at*
  obtain⟨Q,T0⟩:=q;dsimp only at h3 h4 h5 hwk hst2 hfin2;have hqqn:Q.v.rs.length=n:=h3.rf.n;have hqq96:Q.v.rs.length<=96:=zo;have hqd:d<Q.v.rs.length:=zo
  have hd0:(0:Int)<=(d:Nat)/\((d:Nat):Int)<(n:Nat):=⟨zo,zo⟩
  have hoff7:0+((d:Nat):Int).toNat*10+8=d*10+8:=by simp
  by_cases hkl:k<L
  ·have hkx:k<(at_ Rc.o Q.v.rs d).ss.length:=zo
   have hne:(at_ Rc.o Q.v.rs d).ss≠[]:=λe=>by rw[e] at hkx;exact absurd hkx (ypX _)
   have e1:∀A,seS false A d (at_ Rc.o Q.v.rs d)= .so (fam A (2*d)) 0 (at_ Rc.o Q.v.rs d).ss.length 0:=λA=>ze9 hne;have hge:gP false (nf Q) (2*d)=some (.row ((at_ Rc.o Q.v.rs d).ss.flatMap aSm) 80 2):=zoZ (p:=nf Q) hqd hd96 hne;have h9:2*d<220-20:=zo
   have hoffk:0+((k:Nat):Int).toNat*2=k*2:=by simp
   have hki:((k:Nat):Int)<((at_ Rc.o Q.v.rs d).ss.length:Nat):=zo
   have hk0:(0:Int)<=(k:Nat)/\((k:Nat):Int)<((at_ Rc.o Q.v.rs d).ss.length:Nat):=⟨zo,zo⟩
   obtain⟨y,hy⟩:∃y,at_ Sm.o (at_ Rc.o Q.v.rs d).ss k=y:=⟨_,rfl⟩
   have hyr:=zei ((hwk.v.at hqd).sn y (by rw[←hy];exact at_mem Sm.o _ k hkx))
   (conv=>whnf);repeat(first|refine Need.mk ?_ ?_;(focus(first|exact hd0|exact hk0))|refine RK.of (zam (zab false 20) Rc.o (k:=8) hoff7 rfl rfl hqd (by decide) rfl) ?_|rw[e1]|refine KIf.t (ybX hki) ?_|refine RK.of (zcP (enc:=aSm) (sz:=2) (λ_=>rfl) Sm.o hoffk rfl ((zah h9).trans hge) hkx) ?_|rw[hy]);conv=>whnf
   obtain⟨C,hC⟩:∃C,cut y.r T0=C:=⟨_,rfl⟩
   have hT0:T0.length=M:=h3.tl;have hqc:Q.v.c=p.v.c:=hwk.c
   have hdec:∀{m:Nat},m<=y.r.length->0<=zdO (y.r.take m)/\zdO (y.r.take m)<=24*512:=λ{m} hm=>by
    have hb:=λr hr=>zbl (hyr.2.1 r (List.mem_of_mem_take (i:=m) hr));refine⟨zpI λr hr=>by have:=hb r hr;omega,?_⟩
    have:=zl5 (l:=y.r.take m) (c:=512) λr hr=>by have:=hb r hr;omega
    have:((y.r.take m).length:Int)<=24:=by rw[yYX];have:=hyr.1;omega
    omega
   refine yFX zal (D:=Nat×List Bool×Int×Bool) (λx=>y.r.length-x.1) (λx=>x.1<=y.r.length/\x.2.1.length=M/\(x.2.2.2=false->C=zcy x.2.1 (y.r.take x.1) (y.r.drop x.1)/\x.2.2.1=zdO (y.r.take x.1))/\(x.2.2.2=true->∃l',C=(x.2.1,some l')/\x.2.2.1=zdO l'))
    (λx=>zag [(1, .ptr 2 0),(2, .ptr 3 0),(3, .sl 4 0 M M),(4,ib d),(5,ib k),(6, .ptr 5 0),(7,ib x.2.2.1),(8,bb x.2.2.2),(9,ib x.1)] 123) (λx=>zaw 20 220 (gP false (nf (Q))) [.row (flatI (rcP false 20) 0 (Q).v.rs) 66 10, .row ((cnL n (Q)).map bb) 4 0, .row (rV n 20 0 1 (Q)) 53 0, .row zkw 53 0, .row ((x.2.1).map bb) 4 0, .row (aSm y) 80 0]) (0,T0,0,false) ⟨ymX _,hT0,λ_=>⟨hC.symm,rfl⟩,λe=>by cases e⟩ ?_ ?_
   ·exact Ex.wG [0,1,2,3,4,220] [] [] ⟨rQ hqq96,bR,bV,aR,bR,⟨rfl,rfl, .same rfl rfl⟩,zT⟩
   rintro⟨m,t,good,bad⟩ ⟨hm,ht,hI,hJ⟩;dsimp only at hm ht hI hJ;cases bad
   ·obtain⟨hCi,hG⟩:=hI rfl;clear hI hJ;subst hG;by_cases hml:m<y.r.length
    ·obtain⟨r,hr0⟩:∃r,at_ Run.o y.r m=r:=⟨_,rfl⟩
     obtain⟨g1,g2⟩:=zku y.r m hml;have hrb:=zbl (hyr.2.1 _ (at_mem Run.o _ _ hml));rw[hr0] at g1 g2 hrb
     have hr1:at_ Run.o y.r ((m:Nat):Int).toNat=r:=by rw[yrX];exact hr0
     have hm0:(0:Int)<=(m:Nat)/\((m:Nat):Int)<(y.r.length:Nat):=⟨zo,zo⟩
     obtain⟨hG1,hG2⟩:=hdec hm
     obtain⟨G,hG⟩:∃G,zdO (y.r.take m)=G:=⟨_,rfl⟩
     have hGs:zdO (y.r.take (m+1))=G+r.l:=by rw[g1,zeN,hG];show G+(r.l+0)=_;omega
     rw[hG] at hG1 hG2⊢
     obtain⟨N,hN⟩:∃N:Nat,r.l=N:=⟨r.l.toNat,zo⟩
     have hNt:r.l.toNat=N:=zo
     (conv=>whnf);repeat((first|(refine Ex.g ?_;conv=>whnf)|(refine Ex.om ?_;conv=>whnf)))
     refine yFX zal (D:=Nat×List Bool×Nat×Bool) (λx=>N-x.1) (λx=>x.1<=N/\x.2.1.length=M/\(x.2.2.2=false->x.2.2.1=x.1/\(r.s= -1->x.2.1=t)/\(r.s≠-1->zc9 t r.s 0 N=zc9 x.2.1 r.s x.1 (N-x.1)))/\(x.2.2.2=true->r.s≠-1/\zc9 t r.s 0 N=(x.2.1,some x.2.2.1)))
      (λx=>zag [(1, .ptr 2 0),(2, .ptr 3 0),(3, .sl 4 0 M M),(4,ib d),(5,ib k),(6, .ptr 5 0),(7,ib (G+x.2.2.1)),(8,bb x.2.2.2),(9,ib m),(10,ib x.1)] 123) (λx=>zaw 20 220 (gP false (nf (Q))) [.row (flatI (rcP false 20) 0 (Q).v.rs) 66 10, .row ((cnL n (Q)).map bb) 4 0, .row (rV n 20 0 1 (Q)) 53 0, .row zkw 53 0, .row ((x.2.1).map bb) 4 0, .row (aSm y) 80 0]) (0,t,0,false) ⟨ymX _,ht,λ_=>⟨rfl,λ_=>rfl,λ_=>rfl⟩,λe=>by cases e⟩ ?_ ?_
     ·have hz:G+((0:Nat):Int)=G:=zo;dsimp only;rw[hz];exact Ex.wG [0,1,2,3,4,5] [] [] ⟨rQ hqq96,bR,bV,aR,bR,⟨rfl,rfl, .same rfl rfl⟩,zT⟩
     rintro⟨i,t1,g,bd⟩ ⟨hi,ht1,hI,hJ⟩;dsimp only at hi ht1 hI hJ;cases bd
     ·obtain⟨he,hI1,hI2⟩:=hI rfl;clear hI hJ;subst he;by_cases hil:g<N
      ·have hil2:((g:Nat):Int)<r.l:=zo
       have hsg:Small (G+(g:Nat)+1):=⟨zo,zo⟩
       have hsi:Small (((g:Nat):Int)+1):=⟨zo,zo⟩
       by_cases hs:r.s= -1
       ·(conv=>whnf);repeat(first|refine Need.mk ?_ ?_;(focus(first|exact hm0|exact hsg|exact hsi))|rw[hr1]|refine KIf.t (ybX hil2) ?_|refine KIf.f (yqX Bool.not (ybX hs)) ?_|refine Ex.g ?_);conv=>whnf
        refine⟨(g+1,t1,g+1,false),⟨hil,ht1,λ_=>⟨rfl,hI1,λe=>absurd hs e⟩,λe=>by cases e⟩,by dsimp only;omega,?_⟩;dsimp only;rw[show G+((g+1:Nat):Int)=G+(g:Nat)+1 by omega];exact Ex.wG [0,1,2,3,4,5] [] [] ⟨rQ hqq96,bR,bV,aR,bR,⟨rfl,rfl, .same rfl rfl⟩,zT⟩
       ·have hs0:0<=r.s:=zo
        obtain⟨i',hn'⟩:∃i',N-g=i'+1:=⟨N-g-1,zo⟩
        have hTT:=hI2 hs;rw[hn'] at hTT
        have hsm:Small (r.s+(g:Nat)):=⟨zo,zo⟩
        by_cases hlt2:r.s+((g:Nat):Int)<Q.v.c
        ·have hix:(0:Int)<=r.s+(g:Nat)/\r.s+((g:Nat):Int)<(M:Nat):=⟨zo,zo⟩
         have hj:(r.s+((g:Nat):Int)).toNat<t1.length:=zo;have hoff:0+(r.s+((g:Nat):Int)).toNat*1=(r.s+((g:Nat):Int)).toNat:=zo
         obtain⟨bt,hbt⟩:∃b,at_ false t1 (r.s+((g:Nat):Int)).toNat=b:=⟨_,rfl⟩
         cases bt
         ·have hT2:=znb (t:=t1) (s:=r.s) (k:=g) (n:=i') ⟨zo,hbt⟩
          (conv=>whnf);repeat(first|refine Need.mk ?_ ?_;(focus(first|exact hm0|exact hsg|exact hsi|exact hsm|exact hix))|rw[hr1]|refine KIf.t (ybX hil2) ?_|refine KIf.t (yqX Bool.not (ycX hs)) ?_|refine RK.of (yjY bb false false hbt hoff rfl rfl hj) ?_|refine ytY bb true rfl hoff rfl rfl rfl rfl rfl hj ?_|refine Ex.g ?_|refine Ex.om ?_);conv=>whnf
          refine⟨(g+1,t1.set (r.s+((g:Nat):Int)).toNat true,g+1,false),⟨hil,by dsimp only;rw[yoX];exact ht1,λ_=>⟨rfl,λe=>absurd e hs,λ_=>by dsimp only;rw[hTT,hT2,show N-(g+1)=i' by omega]⟩,λe=>by cases e⟩,by dsimp only;omega,?_⟩;dsimp only;rw[show G+((g+1:Nat):Int)=G+(g:Nat)+1 by omega];exact Ex.wG [0,1,2,3,4,5] [] [] ⟨rQ hqq96,bR,bV,aR,bR,⟨rfl,rfl, .same rfl rfl⟩,zT⟩
         ·have hT2:=ze3 (t:=t1) (s:=r.s) (k:=g) (n:=i') (λe=>by rw[hbt] at e;exact absurd e.2 (by decide))
          (conv=>whnf);repeat(first|refine Need.mk ?_ ?_;(focus(first|exact hm0|exact hsi|exact hsm|exact hix))|rw[hr1]|refine KIf.t (ybX hil2) ?_|refine KIf.t (yqX Bool.not (ycX hs)) ?_|refine RK.of (yjY bb false true hbt hoff rfl rfl hj) ?_|refine Ex.g ?_|refine Ex.om ?_);conv=>whnf
          refine⟨(g+1,t1,g,true),⟨hil,ht1,(λe=>by cases e),λ_=>⟨hs,hTT.trans hT2⟩⟩,by dsimp only;omega,?_⟩;dsimp only;exact Ex.wG [0,1,2,3,4,5] [] [] ⟨rQ hqq96,bR,bV,aR,bR,⟨rfl,rfl, .same rfl rfl⟩,zT⟩
        ·have hT2:=ze3 (t:=t1) (s:=r.s) (k:=g) (n:=i') (λe=>zo)
         (conv=>whnf);repeat(first|refine Need.mk ?_ ?_;(focus(first|exact hm0|exact hsi|exact hsm))|rw[hr1]|refine KIf.t (ybX hil2) ?_|refine KIf.t (yqX Bool.not (ycX hs)) ?_|refine Ex.g ?_|refine Ex.om ?_);conv=>whnf
         refine⟨(g+1,t1,g,true),⟨hil,ht1,(λe=>by cases e),λ_=>⟨hs,hTT.trans hT2⟩⟩,by dsimp only;omega,?_⟩;dsimp only;exact Ex.wG [0,1,2,3,4,5] [] [] ⟨rQ hqq96,bR,bV,aR,bR,⟨rfl,rfl, .same rfl rfl⟩,zT⟩
      ·have hgN:g=N:=zo;subst hgN;have hil2:¬((g:Nat):Int)<r.l:=zo
       have hC2:C=zcy t1 (y.r.take (m+1)) (y.r.drop (m+1)):=by
        rw[hCi,g1,g2];by_cases hs:r.s= -1
        ·rw[zga hs,hI1 hs]
        ·rw[zko hs (t':=t1)];rw[hNt,hI2 hs,yQY];rfl
       have hsi:Small (((m:Nat):Int)+1):=⟨zo,zo⟩
       (conv=>whnf);repeat(first|refine Need.mk ?_ ?_;(focus(first|exact hm0|exact hsi))|rw[hr1]|refine KIf.f (ycX hil2) ?_|refine Ex.g ?_);conv=>whnf
       refine⟨(m+1,t1,G+(g:Nat),false),⟨hml,ht1,λ_=>⟨hC2,by dsimp only;rw[hGs,hN]⟩,λe=>by cases e⟩,by dsimp only;omega,?_⟩;dsimp only;exact Ex.wG [0,1,2,3,4,5] [] [] ⟨rQ hqq96,bR,bV,aR,bR,⟨rfl,rfl, .same rfl rfl⟩,zT⟩
     ·obtain⟨hs,hT⟩:=hJ rfl
      have hC2:C=(t1,some (y.r.take m++if 0<g then [⟨r.s,g⟩] else [])):=by rw[hCi,g2,zfD hs (by rw[hNt];exact hT)]
      have hS2:G+(g:Nat)=zdO (y.r.take m++if 0<g then [⟨r.s,g⟩] else []):=by
       rw[zeN,hG];split
       ·show _=G+((g:Int)+0);omega
       ·show _=G+0;omega
      have hsi:Small (((m:Nat):Int)+1):=⟨zo,zo⟩
      by_cases hil:((i:Nat):Int)<r.l
      ·(conv=>whnf);repeat(first|refine Need.mk ?_ ?_;(focus(first|exact hm0|exact hsi))|rw[hr1]|refine KIf.t (ybX hil) ?_|refine Ex.g ?_);conv=>whnf
       refine⟨(m+1,t1,G+(g:Nat),true),⟨hml,ht1,(λe=>by cases e),λ_=>⟨_,hC2,hS2⟩⟩,by dsimp only;omega,?_⟩;dsimp only;exact Ex.wG [0,1,2,3,4,5] [] [] ⟨rQ hqq96,bR,bV,aR,bR,⟨rfl,rfl, .same rfl rfl⟩,zT⟩
      ·(conv=>whnf);repeat(first|refine Need.mk ?_ ?_;(focus(first|exact hm0|exact hsi))|rw[hr1]|refine KIf.f (ycX hil) ?_|refine Ex.g ?_);conv=>whnf
       refine⟨(m+1,t1,G+(g:Nat),true),⟨hml,ht1,(λe=>by cases e),λ_=>⟨_,hC2,hS2⟩⟩,by dsimp only;omega,?_⟩;dsimp only;exact Ex.wG [0,1,2,3,4,5] [] [] ⟨rQ hqq96,bR,bV,aR,bR,⟨rfl,rfl, .same rfl rfl⟩,zT⟩
    ·have hCe:C=(t,none):=by rw[hCi,List.drop_eq_nil_of_le zo];rfl
     have hcs:zaq d (Q,T0) k=(Q,t):=by
      unfold zaq;simp only[zae];rw[hy,hC,hCe]
     have hml2:¬((m:Nat):Int)<(y.r.length:Nat):=zo
     (conv=>whnf);repeat(first|refine KIf.f (ycX hml2) ?_|refine Ex.g ?_);conv=>whnf
     refine⟨k+1,zo,by dsimp only;omega,?_⟩;dsimp only;rw[hst2,hcs];exact Ex.wG [0,1,2,3,4] [] [] ⟨rQ hqq96,bR,bV,aR,bR,zT⟩
   ·obtain⟨l,hCe,hS⟩:=hJ rfl;clear hI hJ;subst hS;have hcut:cut y.r T0=(t,some l):=hC.trans hCe
    have hcs:zaq d (Q,T0) k=((Q.note 1 d k).setR d {at_ Rc.o Q.v.rs d with ss:=(at_ Rc.o Q.v.rs d).ss.set k ⟨l,min y.z (za0 l*256)⟩},t):=by
     unfold zaq;simp only[zae];rw[hy,hcut]
    have hrl:=ztu (λr hr=>(zbl (hyr.2.1 r hr)).2.1) hcut
    have hlo:=zrJ y.r T0 λr hr=>by have:=zbl (hyr.2.1 r hr);exact⟨zo,zo,zo,zo⟩
    have hlv:=zh0 y.r T0 [] hyr.2.1 (λ_ h=>(by cases h)) l (by unfold Ck.cut at hcut;rw[hcut])
    have hl24:(l.length:Int)<=24:=by have:=hlv.1;have:=hyr.1;simp only[ySX,ylX] at*;omega
    have hsl:0<=zdO l/\zdO l<=24*512:=by
     have hb:=λr hr=>zbl (hlv.2 r hr);refine⟨zpI λr hr=>by have:=hb r hr;omega,?_⟩
     have:=zl5 (l:=l) (c:=512) λr hr=>by have:=hb r hr;omega
     omega
    have hrc:=zwZ y (zdO l) (by have:=hyr.1;omega) (λr hr=>by have:=zbl (hyr.2.1 r hr);exact⟨zo,zo,zo,zo⟩) ⟨zo,zo⟩;rw[hrl,zqR,←zgw] at hrc;rw[←zgw];have hno:=zcM n Q 1 d k hqqn hn h3.rf.fl zo zo;have e1n:∀A,seS false A d (at_ Rc.o (Q.note 1 d k).v.rs d)= .so (fam A (2*d)) 0 (at_ Rc.o Q.v.rs d).ss.length 0:=λA=>ze9 hne;have hgn:gP false (nf (Q.note 1 d k)) (2*d)=some (.row ((at_ Rc.o Q.v.rs d).ss.flatMap aSm) 80 2):=zoZ (p:=nf (Q.note 1 d k)) hqd hd96 hne;have h92:2*d<Nat.add 220 (Nat.sub 220 20)-220:=h9
    have hoffk2:0+((k:Nat):Int).toNat*2=k*2+0:=by simp
    by_cases hml:((m:Nat):Int)<(y.r.length:Nat)
    ·(conv=>whnf);repeat(first|refine KIf.t (ybX hml) ?_|refine Need.mk ?_ ?_;(focus(first|exact hd0|exact hk0))|refine Ck.cV (p':=(Q.note 1 d k)) (hno) hqq96 hqq96 (WL.sc rfl (WL.sc rfl (WL.sc rfl yMX))) ?_|refine ygY (rV n 220 0 1 (Q.note 1 d k)) ?_|refine RK.of (zam (zab false 220) Rc.o (k:=8) hoff7 rfl rfl hqd (by decide) rfl) ?_|rw[e1n]|refine yxX (hrc) ?_|refine ze4 (enc:=aSm) (sz:=2) (λ_=>rfl) Sm.o (k:=0) ⟨l,min y.z (za0 l*256)⟩ hoffk2 rfl rfl rfl (λy hy=>by rcases yAX.1 hy with rfl|hy;rfl;rcases yiX.1 hy with rfl;rfl) ((zah h92).trans hgn) hkx (by decide) (by rw[hy];rfl) ?_;(conv=>whnf);rw[zbT (j:=2*d) h92]|refine Ex.g ?_);conv=>whnf
     obtain⟨ss',hss⟩:∃ss',(at_ Rc.o Q.v.rs d).ss.set k ⟨l,min y.z (za0 l*256)⟩=ss':=⟨_,rfl⟩
     have hssl:ss'.length=(at_ Rc.o Q.v.rs d).ss.length:=by rw[←hss];exact yoX
     have hssn:ss'≠[]:=λe=>by rw[e] at hssl;exact hne (yeX hssl.symm)
     rw[hss] at hcs⊢;have hgs:=zmH (q:=nf (Q.note 1 d k)) (d:=d) (ss:=ss') hqd hd96 hssn;refine⟨k+1,zo,by dsimp only;omega,?_⟩;dsimp only;rw[hst2,hcs];refine yCX [0,1,2,3,4] [] [] rfl rfl rfl rfl ?_ ?_ ?_ ?_
     ·refine⟨⟨rfl,rfl,?_⟩,bR,bV,aR,bR,zT⟩;show WRowG _ _ _ (flatI (rcP false 20) 0 (Q.v.rs.set d _)) _;rw[zcD (rcP false 20) Rc.o Q.v.rs 0 d _ (by rw[ylX];exact zqp hssl)];exact yzX (zb3 (hqq96) zN)
     ·exact λj o1 h _=>⟨(ywZ hgs j).symm.trans h,yQX _ _ j o1 h⟩
     ·exact zN
     ·(repeat' first|exact zT|exact rfl|refine zA ?_ ?_)
    ·(conv=>whnf);repeat(first|refine KIf.f (ycX hml) ?_|refine Need.mk ?_ ?_;(focus(first|exact hd0|exact hk0))|refine Ck.cV (p':=(Q.note 1 d k)) (hno) hqq96 hqq96 (WL.sc rfl (WL.sc rfl (WL.sc rfl yMX))) ?_|refine ygY (rV n 220 0 1 (Q.note 1 d k)) ?_|refine RK.of (zam (zab false 220) Rc.o (k:=8) hoff7 rfl rfl hqd (by decide) rfl) ?_|rw[e1n]|refine yxX (hrc) ?_|refine ze4 (enc:=aSm) (sz:=2) (λ_=>rfl) Sm.o (k:=0) ⟨l,min y.z (za0 l*256)⟩ hoffk2 rfl rfl rfl (λy hy=>by rcases yAX.1 hy with rfl|hy;rfl;rcases yiX.1 hy with rfl;rfl) ((zah h92).trans hgn) hkx (by decide) (by rw[hy];rfl) ?_;(conv=>whnf);rw[zbT (j:=2*d) h92]|refine Ex.g ?_);conv=>whnf
     obtain⟨ss',hss⟩:∃ss',(at_ Rc.o Q.v.rs d).ss.set k ⟨l,min y.z (za0 l*256)⟩=ss':=⟨_,rfl⟩
     have hssl:ss'.length=(at_ Rc.o Q.v.rs d).ss.length:=by rw[←hss];exact yoX
     have hssn:ss'≠[]:=λe=>by rw[e] at hssl;exact hne (yeX hssl.symm)
     rw[hss] at hcs⊢;have hgs:=zmH (q:=nf (Q.note 1 d k)) (d:=d) (ss:=ss') hqd hd96 hssn;refine⟨k+1,zo,by dsimp only;omega,?_⟩;dsimp only;rw[hst2,hcs];refine yCX [0,1,2,3,4] [] [] rfl rfl rfl rfl ?_ ?_ ?_ ?_
     ·refine⟨⟨rfl,rfl,?_⟩,bR,bV,aR,bR,zT⟩;show WRowG _ _ _ (flatI (rcP false 20) 0 (Q.v.rs.set d _)) _;rw[zcD (rcP false 20) Rc.o Q.v.rs 0 d _ (by rw[ylX];exact zqp hssl)];exact yzX (zb3 (hqq96) zN)
     ·exact λj o1 h _=>⟨(ywZ hgs j).symm.trans h,yQX _ _ j o1 h⟩
     ·exact zN
     ·(repeat' first|exact zT|exact rfl|refine zA ?_ ?_)
  ·have e2:=hfin2 zo;have hki:¬((k:Nat):Int)<((at_ Rc.o Q.v.rs d).ss.length:Nat):=zo
   by_cases he0:(at_ Rc.o Q.v.rs d).ss=[]
   ·have e1:seS false 20 d (at_ Rc.o Q.v.rs d)=LS 2 aSm Sm.o []:=by rw[zir (.inr he0),he0]
    rw[he0] at hki
    (conv=>whnf);repeat(first|refine Need.mk ?_ ?_;exact hd0|refine RK.of (zam (zab false 20) Rc.o (k:=8) hoff7 rfl rfl hqd (by decide) rfl) ?_|rw[e1]|refine KIf.f (ycX hki) ?_|refine Ex.g ?_);conv=>whnf
    refine⟨d+1,zo,by dsimp only;omega,?_⟩;dsimp only;rw[hst,←e2];exact Ex.wG [0,1,2,3,4] [] [] ⟨rQ hqq96,bR,bV,aR,bR,zT⟩
   ·have e1:∀A,seS false A d (at_ Rc.o Q.v.rs d)= .so (fam A (2*d)) 0 (at_ Rc.o Q.v.rs d).ss.length 0:=λA=>ze9 he0
    (conv=>whnf);repeat(first|refine Need.mk ?_ ?_;exact hd0|refine RK.of (zam (zab false 20) Rc.o (k:=8) hoff7 rfl rfl hqd (by decide) rfl) ?_|rw[e1]|refine KIf.f (ycX hki) ?_|refine Ex.g ?_);conv=>whnf
    refine⟨d+1,zo,by dsimp only;omega,?_⟩;dsimp only;rw[hst,←e2];exact Ex.wG [0,1,2,3,4] [] [] ⟨rQ hqq96,bR,bV,aR,bR,zT⟩
 ·have hdi:¬((d:Nat):Int)<(n:Nat):=zo
  (conv=>whnf);repeat(first|refine KIf.f (ycX hdi) ?_|refine ygY (rV n 20 0 1 q0.1) ?_);conv=>whnf
  rw[←hfin zo];exact⟨Ex.wG [0,1] [] [] ⟨rQ hq96,bR,zT⟩ (hsl:=by exact⟨za2 (zgB ⟨rfl,rfl⟩ ⟨rfl,rfl⟩ zN),zT⟩)⟩
end Go.Proofs.YtgcjejajljhnaaaGreatDoor
