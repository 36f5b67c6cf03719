/- Own text, part Rprt 14: walks of the package acl and of its reference, and the plain laws that they lean on; no statement of the seat is here. -/
import Derived.Test.YtgcjejajljhnaaaGreatDoorRprt1
import Derived.Test.YtgcjejajljhnaaaGreatDoorRprt13
import Derived.Test.YtgcjejajljhnaaaGreatDoorRprt11
import Derived.Test.YtgcjejajljhnaaaGreatDoorRprt9
import Derived.Test.YtgcjejajljhnaaaGreatDoorRprt8
import Derived.Test.YtgcjejajljhnaaaGreatDoorRprt6
import Derived.Shelf.Small.Strs
import Derived.Shelf.Strconv.Atoi
import Derived.Shelf.Strconv.Itoa0
import Derived.Shelf.Strconv.Itoa1
import Derived.Shelf.LaysM
import Derived.Shelf.Strconv.Itoa2
import Derived.Shelf.Strconv.Itoa3
import Derived.Shelf.Strconv.AtoiErrFast
import Derived.Shelf.Strconv.ParseIntEmpty
import Derived.Shelf.Strconv.AtoiFail
import Derived.Shelf.Strconv.Clone
import Derived.Shelf.Strconv.SyntaxError
import Derived.Shelf.LaysC
import Derived.Shelf.Strconv.ToError
import Derived.Shelf.Strconv.Lower
import Derived.Shelf.Strconv.ParseUint10
import Derived.Shelf.Strconv.ParseUint10Empty
import Derived.Shelf.Strconv.ParseUint10Any
import Derived.Shelf.Strconv.ParseInt10
import Derived.Shelf.Strconv.AtoiLong
import Derived.Shelf.Strconv.AtoiInnerAll
import Derived.Shelf.Strconv.RangeError
import Derived.Shelf.Strconv.ToErrorRange
import Derived.Shelf.Strconv.AtoiAll
import Derived.Shelf.Strings.Search1
import Derived.Shelf.Strings.Search2
import Derived.Shelf.Strings.Search3
import Derived.Shelf.Strings.Count
import Derived.Shelf.Strings.Shaped
import Derived.Shelf.Strings.Prefix
import Derived.Shelf.Strings.Split
import Derived.Shelf.Strings.SplitShaped
import Derived.Shelf.Unicode.DecodeSlow
import Derived.Shelf.Unicode.DecodeAny
import Derived.Test.YtgcjejajljhnaaaGreatDoorProg
import Derived.Test.YtgcjejajljhnaaaGreatDoorRprt12
import Derived.Lib.LaidTab
import Derived.Lib.AppendIntMem
import Derived.Test.YtgcjejajljhnaaaGreatDoorRprt10
import Derived.ProofKit
import Derived.LaidMore
import Derived.OpenShut
import Derived.Deep.Slices
import Derived.Below
import Derived.WalkKit
import Derived.Laws.AppendOwn
import Derived.Laws.CopyRow
import Derived.Laws.Rows
import Derived.Orders
import Derived.Deep.Draws
import Derived.StillTail
import Derived.Maps.AppendAt
import Derived.Lib.AppendZeros
import Derived.Test.YtgcjejajljhnaaaGreatDoorRprt5
import Derived.Deep.AppendSrc
import Derived.HandedShaped
import Derived.Handed
import Derived.Stop.LaidErr
import Derived.MakeChecks
import Derived.Stop.Joined
import Derived.Test.YtgcjejajljhnaaaGreatDoorRows
set_option linter.all false
namespace Ck
open Go Go.Ex
theorem znj {h:T AO} {z:List Nat} {sz n:Nat} {f:Nat->List AV} (hn:n=0):Wz h z (.lst sz n f) (.sc (.slice none 0 0)):=by
 subst hn;unfold Wz;rfl
theorem zp4 {h:T AO} {z:List Nat} {A:Nat} {ph:Bool} {p:Rp} (H:Lies h z A ph p):Wz h z (LS 3 aFd Fd.o p.fd) (slF A p.fd):=by
 unfold slF
 by_cases hs:p.fd=[]
 ·rw[ygX hs,hs];exact znj rfl
 ·rw[yfX hs];exact zl8 (λ_=>rfl) (λ_=>rfl) ((H.g _ zo).trans (zj8 hs)) (H.z _ zo) rfl
theorem Ready.lens {v:Pt} (h:Ready v):(zao v).v.rs.length<=96:=by
 have hp:=(zdG h).f9.1.n;have hfl:=(zdG h).f9.1.fl;have h96:=h.n.2;unfold zao
 generalize sizes (links (cyclesR (orphans (badNames (badEntries (descriptors (badRuns (zax ⟨v,[],[]⟩))))))))=p9 at*
 show(it (zaB (Ck.used p9.v)) p9 p9.v.c.toNat).v.rs.length<=96;rw[(zcA (Ck.used p9.v) p9 hfl _).1,hp];exact h96
theorem ztL {p:Rp} (hl:p.fl.length=p.fd.length) (hc:p.v.c.toNat<=100000) (hb:p.fd.length<=384480):(Ck.bits p).fl.length=(Ck.bits p).fd.length/\(Ck.bits p).fd.length<=500000:=by
 obtain⟨_,b2,b3⟩:=zcA (Ck.used p.v) p hl p.v.c.toNat;exact⟨b3,yBX b2 (yBX (Nat.add_le_add hb hc) (by decide))⟩
theorem Ready.fds {v:Pt} (h:Ready v):(zao v).fl.length=(zao v).fd.length/\(zao v).fd.length<=500000:=by
 have hp:=(zdG h).f9;have hw:=(zdG h).w9.1;have hvc:=h.c;unfold zao
 generalize sizes (links (cyclesR (orphans (badNames (badEntries (descriptors (badRuns (zax ⟨v,[],[]⟩))))))))=p9 at*
 exact ztL hp.1.fl (by rw[hw];clear hp hw;omega) hp.2
theorem Ready.flen {v:Pt} (h:Ready v):(zao v).fl.length=(zao v).fd.length:=h.fds.1
theorem Ready.fdlen {v:Pt} (h:Ready v):(zao v).fd.length<=1000000:=yBX h.fds.2 zo
end Ck
namespace Go.Proofs.YtgcjejajljhnaaaGreatDoor
open Go.Ex Ck
set_option maxRecDepth 100000
set_option maxHeartbeats 16000000
theorem zkE (hIt:zil) (v:Pt) (hf:FitP v) (he:Ck.zbH v=0) (h:Ready v):PureC Tryz.prog 20 [zbF v] (.tup [LS 3 aFd Fd.o (zao v).fd,ib 0]):=by
 have hrep:=zem hIt v h
 obtain⟨p,hp⟩:∃p,zao v=p:=⟨_,rfl⟩
 have hp96:p.v.rs.length<=96:=by rw[←hp];exact h.lens
 rw[hp] at hrep⊢;refine PureC.ofF zal rfl ?_
 (conv=>whnf);repeat(first|refine yaX (zbN v hf) ?_|refine KIf.f (yqX Bool.not (ybX he)) ?_);conv=>whnf
 refine ySZ [] (.ptr 421 0) [.row (zaC 221 422 p) 106 0, .row (flatI (rcP false 221) 0 p.v.rs) 66 10] hrep rfl (λ_ _ h=>by cases h) (yQX _ _) ?_ ?_ ?_ ?_
 ·exact trivial
 ·exact⟨zcb _ rfl,zbj rfl⟩
 ·exact⟨by unfold Rn;rfl,rfl,⟨rfl,rfl, .inl (zbg rfl)⟩,⟨rfl,rfl, .inl (zaE hp96)⟩,zT⟩
 by_cases h0:p.fd=[]
 ·have e1:slF 221 p.fd= .sc (.slice none 0 0):=by rw[h0];rfl
  (conv=>whnf);repeat((rw[e1];conv=>whnf))
  refine .z [] ?_;unfold Wz;rw[h0];exact Wzc (znj rfl) (Wzc (ydX rfl) Wzn)
 ·have e1:slF 221 p.fd= .so (fam 221 192) 0 p.fd.length 0:=zgm h0
  (conv=>whnf);repeat((rw[e1];conv=>whnf))
  rw[←e1];refine .z (zF 221 []) ?_;unfold Wz;exact Wzc (zp4 (Lies.mk (λj hj=>za3 hj) (λj hj=>zah zo))) (Wzc (ydX rfl) Wzn)
theorem zm4 (hIt:zil) (v:Pt) (hf:FitP v) (he:Ck.zbH v=0) (h:Ready v):PureC Tryz.prog 21 [zbF v] (.tup [zbF (zao v).v,LS 3 aFd Fd.o (zao v).fd,ib 0]):=by
 have hrep:=zem hIt v h
 obtain⟨p,hp⟩:∃p,zao v=p:=⟨_,rfl⟩
 have hp96:p.v.rs.length<=96:=by rw[←hp];exact h.lens
 rw[hp] at hrep⊢;refine PureC.ofF zal rfl ?_
 (conv=>whnf);repeat(first|refine yaX (zbN v hf) ?_|refine KIf.f (yqX Bool.not (ybX he)) ?_);conv=>whnf
 refine ySZ [] (.ptr 422 0) [.row (zaC 222 423 p) 106 0, .row (flatI (rcP false 222) 0 p.v.rs) 66 10] hrep rfl (λ_ _ h=>by cases h) (yQX _ _) ?_ ?_ ?_ ?_
 ·exact trivial
 ·exact⟨zcb _ rfl,zbj rfl⟩
 ·exact⟨by unfold Rn;rfl,rfl,⟨rfl,rfl, .inl (zbg rfl)⟩,⟨rfl,rfl, .inl (zaE hp96)⟩,zT⟩
 by_cases h0:p.fd=[]
 ·have e1:slF 222 p.fd= .sc (.slice none 0 0):=by rw[h0];rfl
  (conv=>whnf);repeat(first|rw[e1]|refine Ex.g ?_);conv=>whnf
  refine .z (zF 222 [423]) ?_;unfold Wz;rw[h0];exact Wzc (zeG (Lies.mk (λj hj=>za3 hj) (λj hj=>zah zo)) hp96 rfl (zbt (yiX.2 rfl)) rfl) (Wzc (znj rfl) (Wzc (ydX rfl) Wzn))
 ·have e1:slF 222 p.fd= .so (fam 222 192) 0 p.fd.length 0:=zgm h0
  (conv=>whnf);repeat(first|rw[e1]|refine Ex.g ?_);conv=>whnf
  rw[←e1];refine .z (zF 222 [423]) ?_;unfold Wz;exact Wzc (zeG (Lies.mk (λj hj=>za3 hj) (λj hj=>zah zo)) hp96 rfl (zbt (yiX.2 rfl)) rfl) (Wzc (zp4 (Lies.mk (λj hj=>za3 hj) (λj hj=>zah zo))) (Wzc (ydX rfl) Wzn))
theorem zin (hIt:zil) (v:Pt) (i:Int) (hf:FitP v) (he:Ck.zbH v=0) (h:Ready v) (hi:Ck.wi i 0 ((v.rs.length:Int)-1)=true):PureC Tryz.prog 22 [zbF v,ib i] (.tup [bb (zoj (zao v) i),ib 0]):=by
 have hrep:=zem hIt v h;have hfl:=h.flen;have hfd:=h.fdlen
 obtain⟨p,hp⟩:∃p,zao v=p:=⟨_,rfl⟩
 have hp96:p.v.rs.length<=96:=by rw[←hp];exact h.lens
 rw[hp] at hrep hfl hfd⊢;have hco:=zgb p i hp96 hfl hfd;have h96:=h.n.2
 have hsm:Small ((v.rs.length:Int)-1):=⟨zo,zo⟩
 refine PureC.ofF zal rfl ?_
 (conv=>whnf);repeat(first|refine yxX (zbN v hf) ?_|refine yxX (za6 i 0 ((v.rs.length:Int)-1)) ?_|refine yxX (zbi _ 6) ?_|refine Need.mk ?_ ?_;exact hsm|rw[hi]|refine Ex.g ?_);conv=>whnf
 have hf0:Ck.first [Ck.zbH v,if true=true then 0 else 6]=0:=by rw[he];rfl
 have hfk:=zf6 [Ck.zbH v,if true=true then 0 else 6] (by decide:(2:Nat)<=1000000);rw[hf0] at hfk
 (conv=>whnf);repeat(first|refine yRY ([221]) (hfk) (Wzc (yzZ rfl (by simp) rfl (yhX 2) (λ_ _=>rfl) rfl (λ_ _=>rfl)) Wzn) ?_|refine Ex.g ?_);conv=>whnf
 refine ySZ [] (.ptr 422 0) [.row (zaC 222 423 p) 106 0, .row (flatI (rcP false 222) 0 p.v.rs) 66 10] hrep rfl (λ_ _ h=>by cases h) (yQX _ _) ?_ ?_ ?_ ?_
 ·exact trivial
 ·exact⟨zcb _ rfl,zbj rfl⟩
 ·exact⟨by unfold Rn;rfl,rfl,⟨rfl,rfl, .inl (zbg rfl)⟩,⟨rfl,rfl, .inl (zaE hp96)⟩,zT⟩
 (conv=>whnf);repeat((refine ypY [422,423] (bb (zoj p i)) [.row (zaC 442 423 p) 106 0, .row (flatI (rcP false 442) 0 p.v.rs) 66 10] (hco) (⟨pF FR.G ⟨rfl,rfl⟩,rF FR.G hp96,zT⟩) (⟨⟨rfl,rfl, .inl (zbg rfl)⟩,⟨rfl,rfl, .inl (zaE hp96)⟩,zT⟩) ?_ (hargs:=by((repeat' first|exact zT|exact rfl|refine zA ?_ ?_))) (h1:=(by unfold Rn;rfl));conv=>whnf))
 refine .z [] ?_;unfold Wz;exact Wzc (ydX rfl) (Wzc (ydX rfl) Wzn)
end Go.Proofs.YtgcjejajljhnaaaGreatDoor
namespace Ck
open Go Go.Ex
theorem zyC (v:Pt):∀n,(cnL n ⟨v,[],[]⟩).map bb=List.replicate n (bb false):=λn=>by
 unfold cnL;rw[List.map_map];apply yMY
 ·simp
 ·intro i h1 h2;simp[zcc]
noncomputable def aRp (n:Nat) (p:Rp):List AV:=[ib p.v.c,LS 2 zaP Run.o p.v.al,LS 10 aRc Rc.o p.v.rs,LS 1 aI 0 p.v.ds,tb p.v.mp,LS 3 aFd Fd.o p.fd,LS 1 aB false (cnL n p)]
theorem zpo {h:T AO} {z:List Nat} {a b:List AV} (hw:Wz h z (.agg a) (.agg b)):Wzl h z a b:=by unfold Wz at hw;exact hw
theorem zse {h:T AO} {z:List Nat}:∀{a b c d:List AV},Wzl h z a b->Wzl h z c d->Wzl h z (a++c) (b++d)
 |[],[],_,_,_,h2=>h2
 |[],_::_,_,_,h1,_=>by unfold Wzl at h1;exact h1.elim
 |_::_,[],_,_,h1,_=>by unfold Wzl at h1;exact h1.elim
 |x::a,y::b,c,d,h1,h2=>by
  unfold Wzl at h1;exact Wzc h1.1 (zse h1.2 h2)
end Ck
namespace Go.Proofs.YtgcjejajljhnaaaGreatDoor
open Go.Ex Ck
set_option maxRecDepth 100000
set_option maxHeartbeats 16000000
theorem zxR (n:Nat) (v:Pt) (hf:FitP v) (he:Ck.zbH v=0) (hn:v.rs.length=n):PureC Tryz.prog 25 [zbF v] (.agg (aRp n (zao v))):=by
 have h:=Ready.of hf he;have hps:=zdG h;have hds:=zoe he;have h5:=h.n.1;have h96:=h.n.2;have hc:=zvf v h96 zo h.al.2 h.ds.2 (λx hx=>⟨by have:=(h.ns x hx).1;omega,by have:=(h.ss x hx).1;omega,by have:=(h.es x hx).1;omega,λy hy=>((h.ss x hx).2 y hy).1⟩);have v0:=Rv.of he;unfold zao;rw[hn] at hps h5 h96
 obtain⟨p0,e0⟩:∃p:Ck.Rp,p=⟨v,[],[]⟩:=⟨_,rfl⟩
 rw[←e0] at hps hc v0⊢
 obtain⟨p1,e1⟩:∃p,p=zax p0:=⟨_,rfl⟩
 rw[←e1] at hps⊢
 obtain⟨p2,e2⟩:∃p,p=badRuns p1:=⟨_,rfl⟩
 rw[←e2] at hps⊢
 obtain⟨p3,e3⟩:∃p,p=descriptors p2:=⟨_,rfl⟩
 rw[←e3] at hps⊢
 obtain⟨p4,e4⟩:∃p,p=badEntries p3:=⟨_,rfl⟩
 rw[←e4] at hps⊢
 obtain⟨p5,e5⟩:∃p,p=badNames p4:=⟨_,rfl⟩
 rw[←e5] at hps⊢
 obtain⟨p6,e6⟩:∃p,p=orphans p5:=⟨_,rfl⟩
 rw[←e6] at hps⊢
 obtain⟨p7,e7⟩:∃p,p=cyclesR p6:=⟨_,rfl⟩
 rw[←e7] at hps⊢
 obtain⟨p8,e8⟩:∃p,p=links p7:=⟨_,rfl⟩
 rw[←e8] at hps⊢
 obtain⟨p9,e9⟩:∃p,p=sizes p8:=⟨_,rfl⟩
 rw[←e9] at hps⊢;obtain⟨f0,⟨f1,g1⟩,⟨c1,al1⟩,⟨f2,g2⟩,ds2,⟨f3,g3⟩,⟨f4,g4⟩,⟨f5,g5,L5⟩,⟨f6,g6,L6,r6⟩,⟨f7,g7⟩,⟨f8,g8⟩,⟨f9,g9⟩,⟨c9,al9,mp9,ds9⟩,s9⟩:=hps
 have q0:p0.v.rs.length<=96:=(by rw[e0];show v.rs.length<=96;omega)
 have q1:p1.v.rs.length<=96:=(by have:p1.v.rs.length=n:=f1.rf.n;omega)
 have q2:p2.v.rs.length<=96:=(by have:=f2.n;omega)
 have q3:p3.v.rs.length<=96:=(by have:=f3.rf.n;omega)
 have q4:p4.v.rs.length<=96:=(by have:=f4.rf.n;omega)
 have q5:p5.v.rs.length<=96:=(by have:=f5.rf.n;omega)
 have q6:p6.v.rs.length<=96:=(by have:=f6.rf.n;omega)
 have q7:p7.v.rs.length<=96:=(by have:=f7.rf.n;omega)
 have q8:p8.v.rs.length<=96:=(by have:=f8.rf.n;omega)
 have q9:p9.v.rs.length<=96:=(by have:=f9.n;omega)
 have hv0:p0.v=v:=by rw[e0]
 have v1:Rv p1:=by rw[e1];exact v0.lost
 have v2:Rv p2:=by rw[e2];exact v1.badRuns
 have v3:Rv p3:=by rw[e3];exact v2.descriptors (by rw[ds2];exact hds)
 have v4:Rv p4:=by rw[e4];exact v3.badEntries
 obtain⟨en4,pw4,_⟩:=zfI v3;rw[←e4] at en4 pw4
 have v5:Rv p5:=by rw[e5];exact v4.badNames q4
 have t5:Fit5 p5:=by rw[e5];exact zk9 v4 en4 pw4 v4.e0
 have kp:=Kp.orphans p5;rw[←e6] at kp
 have r5:dir (at_ Rc.o p5.v.rs 5)=true:=by rw[←kp.2.1.dir];exact r6
 have v6:Rv p6:=by rw[e6];exact zix v5 t5 q5 r5
 have t6:Fit5 p6:=by rw[e6];exact zhy t5 q5 L5 zo r5
 have nf6:Nf p6:=by rw[e6];exact zoN p5
 have v7:Rv p7:=by rw[e7];exact ziS t6 v6 q6 L6 zo r6
 have t7:Fit5 p7:=by rw[e7];exact zhY t6 q6 L6 zo r6
 have t8:Fit5 p8:=by rw[e8];exact t7.ks (Ks.links p7)
 have k1:HG _ _ _ _ _ _ _ _ _ _ _:=zmI n p0 (by rw[e0];exact f0) h96 (by rw[e0];exact ymX _);rw[←e1] at k1;have k2:HG _ _ _ _ _ _ _ _ _ _ _:=zu9 n v.c.toNat p1 f1 v1 (by rw[c1]) h96 (by rw[c1];exact h.c) (by unfold zwm;rw[al1,c1];exact h.al.1) (by rw[al1];exact h.al.2) zo;rw[←e2] at k2;have k3:HG _ _ _ _ _ _ _ _ _ _ _:=zo8 n p2 f2 h96 zo (by rw[ds2];exact h.ds);rw[←e3] at k3;have k4:=zoG n p3 f3 v3 h96 zo;rw[←e4] at k4;have k5:=zsD n p4 f4 v4 en4 pw4 v4.e0 h96 zo;rw[←e5] at k5;have k6:=zoE n 700 p5 f5 v5 t5 h96 zo L5 zo r5;rw[←e6] at k6;have k7:=zqo n 780 p6 f6 v6 t6 nf6 h96 h5 zo L6 zo r6;rw[←e7] at k7;have k8:=zsE n p7 f7.rf h96 zo (λx hx=>yBX (f7.na.ns x hx).1 zo);rw[←e8] at k8;have k9:=zsC n p8 f8 t8 h96 zo;rw[←e9] at k9
 have ho9:Okv p9.v:=⟨by rw[c9];exact h.c,by have:=f9.n;omega,λx hx=>yBX (s9 x hx).1 zo,by rw[al9];exact h.al.2,λr hr=>by
  rw[al9] at hr;have:=h.al.1 r hr;have:=h.c
  exact⟨zo,zo,zo⟩,λx hx y hy=>⟨((s9 x hx).2 y hy).1,λr hr=>by
  have:=((s9 x hx).2 y hy).2.2.2 r hr
  exact⟨this.1,this.2.1,this.2.2.2⟩⟩⟩
 have k10:=zvi n ((v.c+7)/8).toNat p9 f9 h96 {toOkv:=ho9,ab:=λr hr=>by rw[al9] at hr;rw[c9];exact⟨(h.al.1 r hr).1,(h.al.1 r hr).2.2⟩} (by rw[mp9];exact h.mp) (by rw[c9]) zo
 obtain⟨p10,e10⟩:∃p,p=Ck.bits p9:=⟨_,rfl⟩
 rw[←e10] at k10⊢
 have q10:p10.v.rs.length<=96:=by rw[e10];show(it (zaB (Ck.used p9.v)) p9 p9.v.c.toNat).v.rs.length<=96;rw[(zcA (Ck.used p9.v) p9 f9.fl _).1];exact q9
 have n10:n=p10.v.rs.length:=by rw[e10];show n=(it (zaB (Ck.used p9.v)) p9 p9.v.c.toNat).v.rs.length;rw[(zcA (Ck.used p9.v) p9 f9.fl _).1];exact f9.n.symm
 subst e0;subst hn
 have hmk:(0:Int)<=(v.rs.length:Nat)/\((v.rs.length:Nat):Int)<=(v.rs.length:Nat)/\((v.rs.length:Nat):Int).toNat*1<=2^47/\((v.rs.length:Nat):Int)<=2^60:=by refine⟨?_,?_,?_,?_⟩<;>omega
 have hzr:(cnL v.rs.length ⟨v,[],[]⟩).map bb=zc8 v.rs.length (.bool false):=by
  rw[zyC,zcE (x:=bb false) _ _ rfl]
 have hzc:cont.contL (zc8 v.rs.length (.bool false))=true:=by rw[←hzr];exact zaF _
 refine PureC.ofF zal rfl ?_
 (conv=>whnf);repeat(((refine Ex.g ?_;conv=>whnf)))
 refine DCall.liftG [] (.agg [ib v.c,LS 2 zaP Run.o v.al, .so 422 0 v.rs.length 0,LS 1 aI 0 v.ds,tb v.mp]) [.row (flatI (rcP false 222) 0 v.rs) 66 10] (hc) rfl (λ_ _ h=>by cases h) (yQX _ _) ?_ ?_ ?_ ?_
 ·exact trivial
 ·exact⟨zcb _ rfl,zbj rfl⟩
 ·exact⟨by(unfold Rn;exact yOX Rn.sc (yOX Rn.lst (yOX (by unfold Rn;rfl) (yOX Rn.lst (yOX Rn.sc Rnl.nil))))),rfl,⟨rfl,rfl, .inl (zaE h.n.2)⟩,zT⟩
 (conv=>whnf);repeat(first|refine Need.mk ?_ ?_;exact hmk|refine Ex.g ?_);conv=>whnf
 (refine ypY [422,442] (.agg (rV v.rs.length 444 422 442 p1)) [.row (flatI (rcP false 444) 0 p1.v.rs) 66 10, .row ((cnL v.rs.length p1).map bb) 4 0] (k1) (⟨rF FR.G q0,⟨rfl,rfl, .same hzr hzc⟩,zT⟩) (⟨⟨rfl,rfl, .inl (zaE q1)⟩,⟨rfl,rfl, .inr ⟨rfl,zaF _⟩⟩,zT⟩) ?_ (hargs:=by((exact ywX (za2 (WL.sc rfl (WL.sc rfl (ywX (zdn ⟨rfl,rfl⟩) (WL.sc rfl (WL.sc rfl (ywX (by unfold slF;rw[ygX rfl];exact zdh rfl) (ywX (zxZ ⟨rfl,rfl⟩) yMX)))))))) yMX))) (h1:=(zdC (zdq FN.G rfl rfl)));conv=>whnf)
 (conv=>whnf);repeat(first|refine ypY [422,442] (.agg (rV v.rs.length 662 422 442 p2)) [.row (flatI (rcP false 662) 0 p2.v.rs) 66 10, .row ((cnL v.rs.length p2).map bb) 4 0] (k2) (⟨rF FR.G q1,⟨rfl,rfl, .same rfl (zaF _)⟩,zT⟩) (⟨⟨rfl,rfl, .inl (zaE q2)⟩,⟨rfl,rfl, .inr ⟨rfl,zaF _⟩⟩,zT⟩) ?_ (hargs:=by((exact ywX (za2 (zdN FR.G ⟨rfl,rfl⟩ ⟨rfl,rfl⟩)) yMX))) (h1:=(zdC (zdq FN.G rfl rfl)))|refine ypY [422,442] (.agg (rV v.rs.length 880 422 442 p3)) [.row (flatI (rcP false 880) 0 p3.v.rs) 66 10, .row ((cnL v.rs.length p3).map bb) 4 0] (k3) (⟨rF FR.G q2,⟨rfl,rfl, .same rfl (zaF _)⟩,zT⟩) (⟨⟨rfl,rfl, .inl (zaE q3)⟩,⟨rfl,rfl, .inr ⟨rfl,zaF _⟩⟩,zT⟩) ?_ (hargs:=by((exact ywX (za2 (zdN FR.G ⟨rfl,rfl⟩ ⟨rfl,rfl⟩)) yMX))) (h1:=(zdC (zdq FN.G rfl rfl)))|refine ypY [422,442] (.agg (rV v.rs.length 1098 422 442 p4)) [.row (flatI (rcP false 1098) 0 p4.v.rs) 66 10, .row ((cnL v.rs.length p4).map bb) 4 0] (k4) (⟨rF FR.G q3,⟨rfl,rfl, .same rfl (zaF _)⟩,zT⟩) (⟨⟨rfl,rfl, .inl (zaE q4)⟩,⟨rfl,rfl, .inr ⟨rfl,zaF _⟩⟩,zT⟩) ?_ (hargs:=by((exact ywX (za2 (zdN FR.G ⟨rfl,rfl⟩ ⟨rfl,rfl⟩)) yMX))) (h1:=(zdC (zdq FN.G rfl rfl)))|refine ypY [422,442] (.agg (rV v.rs.length 1316 422 442 p5)) [.row (flatI (rcP false 1316) 0 p5.v.rs) 66 10, .row ((cnL v.rs.length p5).map bb) 4 0] (k5) (⟨rF FR.G q4,⟨rfl,rfl, .same rfl (zaF _)⟩,zT⟩) (⟨⟨rfl,rfl, .inl (zaE q5)⟩,⟨rfl,rfl, .inr ⟨rfl,zaF _⟩⟩,zT⟩) ?_ (hargs:=by((exact ywX (za2 (zdN FR.G ⟨rfl,rfl⟩ ⟨rfl,rfl⟩)) yMX))) (h1:=(zdC (zdq FN.G rfl rfl)))|refine ypY [422,442] (.agg (rV v.rs.length 1534 422 442 p6)) [.row (flatI (rcP false 1534) 0 p6.v.rs) 66 10, .row ((cnL v.rs.length p6).map bb) 4 0] (k6) (⟨rF FR.G q5,⟨rfl,rfl, .same rfl (zaF _)⟩,zT⟩) (⟨⟨rfl,rfl, .inl (zaE q6)⟩,⟨rfl,rfl, .inr ⟨rfl,zaF _⟩⟩,zT⟩) ?_ (hargs:=by((exact ywX (za2 (zdN FR.G ⟨rfl,rfl⟩ ⟨rfl,rfl⟩)) yMX))) (h1:=(zdC (zdq FN.G rfl rfl)))|refine ypY [422,442] (.agg (rV v.rs.length 1752 422 442 p7)) [.row (flatI (rcP false 1752) 0 p7.v.rs) 66 10, .row ((cnL v.rs.length p7).map bb) 4 0] (k7) (⟨rF FR.G q6,⟨rfl,rfl, .same rfl (zaF _)⟩,zT⟩) (⟨⟨rfl,rfl, .inl (zaE q7)⟩,⟨rfl,rfl, .inr ⟨rfl,zaF _⟩⟩,zT⟩) ?_ (hargs:=by((exact ywX (za2 (zdN FR.G ⟨rfl,rfl⟩ ⟨rfl,rfl⟩)) yMX))) (h1:=(zdC (zdq FN.G rfl rfl)))|refine ypY [422,442] (.agg (rV v.rs.length 1970 422 442 p8)) [.row (flatI (rcP false 1970) 0 p8.v.rs) 66 10, .row ((cnL v.rs.length p8).map bb) 4 0] (k8) (⟨rF FR.G q7,⟨rfl,rfl, .same rfl (zaF _)⟩,zT⟩) (⟨⟨rfl,rfl, .inl (zaE q8)⟩,⟨rfl,rfl, .inr ⟨rfl,zaF _⟩⟩,zT⟩) ?_ (hargs:=by((exact ywX (za2 (zdN FR.G ⟨rfl,rfl⟩ ⟨rfl,rfl⟩)) yMX))) (h1:=(zdC (zdq FN.G rfl rfl)))|refine ypY [422,442] (.agg (rV v.rs.length 2188 422 442 p9)) [.row (flatI (rcP false 2188) 0 p9.v.rs) 66 10, .row ((cnL v.rs.length p9).map bb) 4 0] (k9) (⟨rF FR.G q8,⟨rfl,rfl, .same rfl (zaF _)⟩,zT⟩) (⟨⟨rfl,rfl, .inl (zaE q9)⟩,⟨rfl,rfl, .inr ⟨rfl,zaF _⟩⟩,zT⟩) ?_ (hargs:=by((exact ywX (za2 (zdN FR.G ⟨rfl,rfl⟩ ⟨rfl,rfl⟩)) yMX))) (h1:=(zdC (zdq FN.G rfl rfl)))|refine ypY [422,442] (.agg (rV v.rs.length 2406 422 442 p10)) [.row (flatI (rcP false 2406) 0 p10.v.rs) 66 10, .row ((cnL v.rs.length p10).map bb) 4 0] (k10) (⟨rF FR.G q9,⟨rfl,rfl, .same rfl (zaF _)⟩,zT⟩) (⟨⟨rfl,rfl, .inl (zaE q10)⟩,⟨rfl,rfl, .inr ⟨rfl,zaF _⟩⟩,zT⟩) ?_ (hargs:=by((exact ywX (za2 (zdN FR.G ⟨rfl,rfl⟩ ⟨rfl,rfl⟩)) yMX))) (h1:=(zdC (zdq FN.G rfl rfl))));conv=>whnf
 (conv=>whnf);repeat((refine ygY (rV v.rs.length 2406 422 442 p10) ?_;conv=>whnf))
 refine .z (zF 2406 [422,442]) ?_;unfold Wz;refine zse (a:=[ib p10.v.c,LS 2 zaP Run.o p10.v.al,LS 10 aRc Rc.o p10.v.rs,LS 1 aI 0 p10.v.ds,tb p10.v.mp]) (b:=[ib p10.v.c,LS 2 zaP Run.o p10.v.al, .so 422 0 v.rs.length 0,LS 1 aI 0 p10.v.ds,tb p10.v.mp]) ?_ ?_
 ·exact zpo (zeG (p:=nf p10) (Lies.mk (λj hj=>za3 hj) (λj hj=>zah zo)) q10 rfl (zbt (by simp)) n10)
 ·exact Wzc (zp4 (p:=nf p10) (Lies.mk (λj hj=>za3 hj) (λj hj=>zah zo))) (Wzc (yzZ rfl (zbt (by simp)) (ze0 _ _).symm (Nat.le_of_eq (ze0 _ _)) (λ_ _=>rfl) (zgZ bb false _) (λ_ _=>rfl)) Wzn)
end Go.Proofs.YtgcjejajljhnaaaGreatDoor
namespace Ck
def zsp (v:Pt) (p:Rp) (i:Nat):Bool:=decide (16<=i)&&(own (at_ Rc.o v.rs i)&&(!decide ((at_ Rc.o v.rs i).k=0)&& !zoj p i))
noncomputable def snd (v:Pt) (p:Rp) (d:Nat):List Int:=((List.range d).filter (zsp v p)).map λ(i:Nat)=>(i:Int)
theorem zuU (v:Pt) (p:Rp) (d:Nat) (h:zsp v p d=true):snd v p (d+1)=snd v p d++[(d:Int)]:=by
 unfold snd;rw[yUY,y5Z,yJY];simp[h]
theorem zgz (v:Pt) (p:Rp) (d:Nat) (h:zsp v p d=false):snd v p (d+1)=snd v p d:=by
 unfold snd;rw[yUY,y5Z,yJY];simp[h]
theorem zl9 (v:Pt) (p:Rp) (d:Nat):(snd v p d).length<=d:=by
 unfold snd;rw[List.length_map];exact yBX (y2Y _ _) (by simp)
end Ck
namespace Go.Proofs.YtgcjejajljhnaaaGreatDoor
open Go.Ex Ck
set_option maxRecDepth 100000
set_option maxHeartbeats 16000000
theorem zpp (hIt:zil) (v:Pt) (hf:FitP v) (he:Ck.zbH v=0) (h:Ready v):PureC Tryz.prog 23 [zbF v] (.tup [LS 1 aI 0 (snd v (zao v) v.rs.length),ib 0]):=by
 have hrep:=zem hIt v h;have hfl:=h.flen;have hfd:=h.fdlen
 obtain⟨p,hp⟩:∃p,zao v=p:=⟨_,rfl⟩
 have hp96:p.v.rs.length<=96:=by rw[←hp];exact h.lens
 rw[hp] at hrep hfl hfd⊢;have h96:=h.n.2;refine PureC.ofF zal rfl ?_
 (conv=>whnf);repeat(first|refine yaX (zbN v hf) ?_|refine KIf.f (yqX Bool.not (ybX he)) ?_);conv=>whnf
 refine ySZ [] (.ptr 421 0) [.row (zaC 221 422 p) 106 0, .row (flatI (rcP false 221) 0 p.v.rs) 66 10] hrep rfl (λ_ _ h=>by cases h) (yQX _ _) ?_ ?_ ?_ ?_
 ·exact trivial
 ·exact⟨zcb _ rfl,zbj rfl⟩
 ·exact⟨by unfold Rn;rfl,rfl,⟨rfl,rfl, .inl (zbg rfl)⟩,⟨rfl,rfl, .inl (zaE hp96)⟩,zT⟩
 conv=>whnf
 refine yFX zal (D:=Nat×List Int) (λd=>v.rs.length-d.1) (λd=>d.1<=v.rs.length/\d.2=snd v p d.1)
  (λd=>zag [(5, .ptr 0 0),(6,lv 2 d.2),(17,LS 10 aRc Rc.o v.rs),(18,ib v.rs.length),(19,ib d.1)] 47)
  (λd=>zaw 20 220 (gP false p) (.row (zaC 20 1 p) 106 0:: .row (flatI (rcP false 20) 0 p.v.rs) 66 10::lr d.2)) (0,[]) ⟨ymX _,rfl⟩ ?_ ?_
 ·(exact Ex.wG [421,422] [] [] (⟨pQ rfl rfl,rQ hp96,zT⟩))
 ·rintro⟨d,l⟩ ⟨hd,hl⟩;dsimp only at hd hl⊢;have hll:=zl9 v p d;rw[←hl] at hll
  cases l with
  |nil=>
   refine Ex.go ?_;refine yPX (λh2=> ?_) (λh2=> ?_)
   ·have hlt:d<v.rs.length:=by have h3:(d:Int)<v.rs.length:=h2;omega
    have hd0:(0:Int)<=(d:Nat)/\((d:Nat):Int)<(v.rs.length:Nat):=⟨zo,zo⟩
    obtain⟨x,hx⟩:∃x,at_ Rc.o v.rs d=x:=⟨_,rfl⟩
    have hx2:at_ Rc.o v.rs ((d:Nat):Int).toNat=x:=by rw[yrX];exact hx
    obtain⟨ob,hob⟩:∃b,own x=b:=⟨_,rfl⟩
    obtain⟨conb,hcb⟩:∃b,zoj p (d:Nat)=b:=⟨_,rfl⟩
    have hown:=zjW x;rw[hob] at hown;have hco:=zgb p (d:Nat) hp96 hfl hfd;rw[hcb] at hco
    have hsn:zsp v p d=(decide (16<=d)&&(ob&&(!decide (x.k=0)&& !conb))):=by unfold zsp;rw[hx,hob,hcb]
    (conv=>whnf);repeat(first|refine Need.mk ?_ ?_;exact hd0|rw[hx2]);conv=>whnf
    refine yPX (λh16=> ?_) (λh16=> ?_)
    ·have h16n:16<=d:=zo;cases ob
     ·(conv=>whnf);repeat(first|refine yaX (hown) ?_|refine Ex.g ?_);conv=>whnf
      refine⟨(d+1,[]),⟨hlt,by rw[zgz v p d (by rw[hsn];simp[])];exact hl⟩,by dsimp only;omega,?_⟩
      (exact Ex.wG [0,1] [] [] (⟨pQ rfl rfl,rQ hp96,zT⟩))
     ·by_cases hk:x.k=0
      ·(conv=>whnf);repeat(first|refine yaX (hown) ?_|refine KIf.f (yqX Bool.not (ybX hk)) ?_|refine Ex.g ?_);conv=>whnf
       refine⟨(d+1,[]),⟨hlt,by rw[zgz v p d (by rw[hsn];simp[hk])];exact hl⟩,by dsimp only;omega,?_⟩
       (exact Ex.wG [0,1] [] [] (⟨pQ rfl rfl,rQ hp96,zT⟩))
      ·cases conb
       ·(conv=>whnf);repeat(first|refine yaX (hown) ?_|refine KIf.t (yqX Bool.not (ycX hk)) ?_|refine ypY [0,1] (bb false) [.row (zaC 221 1 p) 106 0, .row (flatI (rcP false 221) 0 p.v.rs) 66 10] (hco) (⟨pF FR.G ⟨rfl,rfl⟩,rF FR.G hp96,zT⟩) (⟨⟨rfl,rfl, .inl (zbg rfl)⟩,⟨rfl,rfl, .inl (zaE hp96)⟩,zT⟩) ?_ (hargs:=by((repeat' first|exact zT|exact rfl|refine zA ?_ ?_))) (h1:=(by unfold Rn;rfl))|refine Ex.g ?_);conv=>whnf
        refine⟨(d+1,[(d:Int)]),⟨hlt,by rw[zuU v p d (by rw[hsn];simp[h16n,hk]),←hl];rfl⟩,by dsimp only;omega,?_⟩
        (exact Ex.wG [0,1,440] [] [] (⟨pQ rfl rfl,rQ hp96,⟨rfl,rfl, .same rfl rfl⟩,zT⟩))
       ·(conv=>whnf);repeat(first|refine yaX (hown) ?_|refine KIf.t (yqX Bool.not (ycX hk)) ?_|refine ypY [0,1] (bb true) [.row (zaC 221 1 p) 106 0, .row (flatI (rcP false 221) 0 p.v.rs) 66 10] (hco) (⟨pF FR.G ⟨rfl,rfl⟩,rF FR.G hp96,zT⟩) (⟨⟨rfl,rfl, .inl (zbg rfl)⟩,⟨rfl,rfl, .inl (zaE hp96)⟩,zT⟩) ?_ (hargs:=by((repeat' first|exact zT|exact rfl|refine zA ?_ ?_))) (h1:=(by unfold Rn;rfl))|refine Ex.g ?_);conv=>whnf
        refine⟨(d+1,[]),⟨hlt,by rw[zgz v p d (by rw[hsn];simp[])];exact hl⟩,by dsimp only;omega,?_⟩
        (exact Ex.wG [0,1] [] [] (⟨pQ rfl rfl,rQ hp96,zT⟩))
    ·have h16n:¬16<=d:=zo
     (conv=>whnf);repeat(((refine Ex.g ?_;conv=>whnf)))
     refine⟨(d+1,[]),⟨hlt,by rw[zgz v p d (by rw[hsn];simp[h16n])];exact hl⟩,by dsimp only;omega,?_⟩
     (exact Ex.wG [0,1] [] [] (⟨pQ rfl rfl,rQ hp96,zT⟩))
   ·have hde:d=v.rs.length:=by have h3:¬(d:Int)<v.rs.length:=h2;omega
    have hfe:snd v p v.rs.length=[]:=by rw[←hde];exact hl.symm
    rw[hfe]
    conv=>whnf
    refine .z [] ?_;unfold Wz;exact Wzc (znj rfl) (Wzc (ydX rfl) Wzn)
  |cons y l=>
   refine Ex.go ?_;refine yPX (λh2=> ?_) (λh2=> ?_)
   ·have hlt:d<v.rs.length:=by have h3:(d:Int)<v.rs.length:=h2;omega
    have hd0:(0:Int)<=(d:Nat)/\((d:Nat):Int)<(v.rs.length:Nat):=⟨zo,zo⟩
    have hsz:((y::l).length+1)*8<=2^47/\(y::l).length+1<=2^60:=by constructor<;>omega
    have hcr:cont.contL ((y::l).map ib++[ib (d:Nat)])=true:=by rw[show(y::l).map ib++[ib (d:Nat)]=(y::l++[(d:Int)]).map ib by simp];exact y4X (λ_=>rfl) _
    have hln:((y::l).map ib).length=(y::l).length*1:=by simp
    obtain⟨x,hx⟩:∃x,at_ Rc.o v.rs d=x:=⟨_,rfl⟩
    have hx2:at_ Rc.o v.rs ((d:Nat):Int).toNat=x:=by rw[yrX];exact hx
    obtain⟨ob,hob⟩:∃b,own x=b:=⟨_,rfl⟩
    obtain⟨conb,hcb⟩:∃b,zoj p (d:Nat)=b:=⟨_,rfl⟩
    have hown:=zjW x;rw[hob] at hown;have hco:=zgb p (d:Nat) hp96 hfl hfd;rw[hcb] at hco
    have hsn:zsp v p d=(decide (16<=d)&&(ob&&(!decide (x.k=0)&& !conb))):=by unfold zsp;rw[hx,hob,hcb]
    (conv=>whnf);repeat(first|refine Need.mk ?_ ?_;exact hd0|rw[hx2]);conv=>whnf
    refine yPX (λh16=> ?_) (λh16=> ?_)
    ·have h16n:16<=d:=zo;cases ob
     ·(conv=>whnf);repeat(first|refine yaX (hown) ?_|refine Ex.g ?_);conv=>whnf
      refine⟨(d+1,y::l),⟨hlt,by rw[zgz v p d (by rw[hsn];simp[])];exact hl⟩,by dsimp only;omega,?_⟩
      (exact Ex.wG [0,1,2] [] [] (⟨pQ rfl rfl,rQ hp96,⟨rfl,rfl, .same rfl (y4X (enc:=ib) (λ_=>rfl) (y::l))⟩,zT⟩))
     ·by_cases hk:x.k=0
      ·(conv=>whnf);repeat(first|refine yaX (hown) ?_|refine KIf.f (yqX Bool.not (ybX hk)) ?_|refine Ex.g ?_);conv=>whnf
       refine⟨(d+1,y::l),⟨hlt,by rw[zgz v p d (by rw[hsn];simp[hk])];exact hl⟩,by dsimp only;omega,?_⟩
       (exact Ex.wG [0,1,2] [] [] (⟨pQ rfl rfl,rQ hp96,⟨rfl,rfl, .same rfl (y4X (enc:=ib) (λ_=>rfl) (y::l))⟩,zT⟩))
      ·cases conb
       ·(conv=>whnf);repeat(first|refine Need.mk ?_ ?_;exact hsz|refine yaX (hown) ?_|refine KIf.t (yqX Bool.not (ycX hk)) ?_|refine ypY [0,1] (bb false) [.row (zaC 221 1 p) 106 0, .row (flatI (rcP false 221) 0 p.v.rs) 66 10] (hco) (⟨pF FR.G ⟨rfl,rfl⟩,rF FR.G hp96,zT⟩) (⟨⟨rfl,rfl, .inl (zbg rfl)⟩,⟨rfl,rfl, .inl (zaE hp96)⟩,zT⟩) ?_ (hargs:=by((repeat' first|exact zT|exact rfl|refine zA ?_ ?_))) (h1:=(by unfold Rn;rfl))|refine Ex.g ?_);conv=>whnf
        refine⟨(d+1,y::l++[(d:Int)]),⟨hlt,by rw[zuU v p d (by rw[hsn];simp[h16n,hk]),←hl]⟩,by dsimp only;omega,?_⟩
        (exact Ex.wG [0,1,440] [] [] (⟨pQ rfl rfl,rQ hp96,⟨rfl,rfl, .same (by simp) hcr⟩,zT⟩) (hsl:=by((repeat' first|exact zT|exact rfl|(intro _ _;exact rfl)|refine zA ?_ ?_);(simp;done))))
       ·(conv=>whnf);repeat(first|refine yaX (hown) ?_|refine KIf.t (yqX Bool.not (ycX hk)) ?_|refine ypY [0,1] (bb true) [.row (zaC 221 1 p) 106 0, .row (flatI (rcP false 221) 0 p.v.rs) 66 10] (hco) (⟨pF FR.G ⟨rfl,rfl⟩,rF FR.G hp96,zT⟩) (⟨⟨rfl,rfl, .inl (zbg rfl)⟩,⟨rfl,rfl, .inl (zaE hp96)⟩,zT⟩) ?_ (hargs:=by((repeat' first|exact zT|exact rfl|refine zA ?_ ?_))) (h1:=(by unfold Rn;rfl))|refine Ex.g ?_);conv=>whnf
        refine⟨(d+1,y::l),⟨hlt,by rw[zgz v p d (by rw[hsn];simp[])];exact hl⟩,by dsimp only;omega,?_⟩
        (exact Ex.wG [0,1,2] [] [] (⟨pQ rfl rfl,rQ hp96,⟨rfl,rfl, .same rfl (y4X (enc:=ib) (λ_=>rfl) (y::l))⟩,zT⟩))
    ·have h16n:¬16<=d:=zo
     (conv=>whnf);repeat(((refine Ex.g ?_;conv=>whnf)))
     refine⟨(d+1,y::l),⟨hlt,by rw[zgz v p d (by rw[hsn];simp[h16n])];exact hl⟩,by dsimp only;omega,?_⟩
     (exact Ex.wG [0,1,2] [] [] (⟨pQ rfl rfl,rQ hp96,⟨rfl,rfl, .same rfl (y4X (enc:=ib) (λ_=>rfl) (y::l))⟩,zT⟩))
   ·have hde:d=v.rs.length:=by have h3:¬(d:Int)<v.rs.length:=h2;omega
    have hfe:snd v p v.rs.length=y::l:=by rw[←hde];exact hl.symm
    rw[hfe]
    conv=>whnf
    refine .z [2] ?_;unfold Wz;exact Wzc (Wz.own rfl (by simp) rfl (λ_ _=>rfl) (zgZ ib 0 (y::l)) (λ_ _=>rfl)) (Wzc (ydX rfl) Wzn)
end Go.Proofs.YtgcjejajljhnaaaGreatDoor
namespace Ck
open Go Go.Ex
def ptO :Pt:=⟨0,[],[],[],[]⟩
theorem zng (v:Pt) (p:Rp):∀d,d<=16->snd v p d=[]
 |0,_=>rfl
 |d+1,h=>by
  rw[zgz v p d (by unfold zsp;rw[ycX zo];rfl)];exact zng v p d zo
theorem zux {n:Nat} {p:Rp} {i:Nat} (h:i<n):at_ false (cnL n p) i=zoj p (i:Nat):=by
 unfold cnL at_;rw[yuY,yXZ h];rfl
end Ck
namespace Go.Proofs.YtgcjejajljhnaaaGreatDoor
open Go.Ex Ck
set_option maxRecDepth 100000
set_option maxHeartbeats 8000000
theorem g86 :(Tryz.prog.eqGuardType Tryz.prog.depth 86)=false:=by decide+kernel
theorem h86 :(Tryz.prog.stoodInHeld 86)=false:=by decide+kernel
theorem zxw (a:Ck.Fd):eqO Tryz.prog 86 (.agg (aFd a)) (.agg (aFd a))= .ok true:=by
 refine zoa (e:= "comparison") (by conv=>lhs;whnf) g86 ?_
 have e:eqT Tryz.prog 20 86 (.agg (aFd a)) (.agg (aFd a))= .ok (decide (a.k=a.k)&&(decide (a.r=a.r)&&(decide (a.i=a.i)&&true))):=by
  rw[eqT];rw[h86];rfl
 rw[e];simp
theorem zcS (l:List Ck.Fd) (hl:l.length<=1000000):PureC Tryz.prog 26 [LS 3 aFd Fd.o l,LS 3 aFd Fd.o l] (bb true):=by
 refine ytX zal rfl ?_
 (conv=>whnf);repeat((refine KIf.f (yqX Bool.not (ybX rfl)) ?_;conv=>whnf))
 refine Ex.wl l.length (λd=>zag [(0,LS 3 aFd Fd.o l),(1,LS 3 aFd Fd.o l),(4,bb false),(5,ib d)] 26) (λd=>zan []) ?_ ?_
 ·exact Ex.wO [] []
 ·intro d hd;by_cases hlt:d<l.length
  ·have hd0:(0:Int)<=(d:Nat)/\((d:Nat):Int)<(l.length:Nat):=⟨zo,zo⟩
   obtain⟨f,hf⟩:∃f,at_ Fd.o l ((d:Nat):Int).toNat=f:=⟨_,rfl⟩
   (conv=>whnf);repeat(first|refine Ex.g ?_|refine Ex.om ?_|rw[hf]|refine yKY (zxw f) ?_);conv=>whnf
   refine⟨d+1,hlt,by dsimp only;omega,?_⟩;exact Ex.wO [] []
  ·(conv=>whnf);repeat((refine Ex.om ?_;conv=>whnf))
   refine .z [] ?_;exact ydX rfl
theorem zim (v:Pt) (h:FitP v) (he:Ck.zbH v≠0):PureC Tryz.prog 20 [zbF v] (.tup [LS 3 aFd Fd.o [],ib (Ck.zbH v)]):=by
 refine ytX zal rfl ?_
 (conv=>whnf);repeat(first|refine yaX (zbN v h) ?_|refine KIf.t (yqX Bool.not (ycX he)) ?_);conv=>whnf
 (refine .z [] ?_;conv=>whnf);(repeat' first|exact zT|exact rfl|refine zA ?_ ?_)<;>(try(conv=>whnf))
theorem zlS (v:Pt) (h:FitP v) (he:Ck.zbH v≠0):PureC Tryz.prog 21 [zbF v] (.tup [zbF ptO,LS 3 aFd Fd.o [],ib (Ck.zbH v)]):=by
 refine ytX zal rfl ?_
 (conv=>whnf);repeat(first|refine yaX (zbN v h) ?_|refine KIf.t (yqX Bool.not (ycX he)) ?_);conv=>whnf
 (refine .z [] ?_;conv=>whnf);(repeat' first|exact zT|exact rfl|refine zA ?_ ?_)<;>(try(conv=>whnf))
theorem zm2 (v:Pt) (h:FitP v) (he:Ck.zbH v≠0):PureC Tryz.prog 23 [zbF v] (.tup [LS 1 aI 0 [],ib (Ck.zbH v)]):=by
 refine ytX zal rfl ?_
 (conv=>whnf);repeat(first|refine yaX (zbN v h) ?_|refine KIf.t (yqX Bool.not (ycX he)) ?_);conv=>whnf
 (refine .z [] ?_;conv=>whnf);(repeat' first|exact zT|exact rfl|refine zA ?_ ?_)<;>(try(conv=>whnf))
theorem zeJ (v:Pt) (i e:Int) (h:FitP v) (hn:v.rs.length<=100000) (he:Ck.first [Ck.zbH v,if Ck.wi i 0 ((v.rs.length:Int)-1)=true then 0 else 6]=e) (h0:e≠0):PureC Tryz.prog 22 [zbF v,ib i] (.tup [bb false,ib e]):=by
 have hsm:Small ((v.rs.length:Int)-1):=⟨zo,zo⟩
 have hfk:=zf6 [Ck.zbH v,if Ck.wi i 0 ((v.rs.length:Int)-1)=true then 0 else 6] (by decide:(2:Nat)<=1000000);rw[he] at hfk;refine ytX zal rfl ?_
 (conv=>whnf);repeat(first|refine yxX (zbN v h) ?_|refine yxX (za6 i 0 ((v.rs.length:Int)-1)) ?_|refine yxX (zbi _ 6) ?_|refine Need.mk ?_ ?_;exact hsm|refine Ex.g ?_);conv=>whnf
 (conv=>whnf);repeat(first|refine yRY ([1]) (hfk) (Wzc (yzZ rfl (by simp) rfl (yhX 2) (λ_ _=>rfl) rfl (λ_ _=>rfl)) Wzn) ?_|refine KIf.t (yqX Bool.not (ycX h0)) ?_);conv=>whnf
 (refine .z [] ?_;conv=>whnf);(repeat' first|exact zT|exact rfl|refine zA ?_ ?_)<;>(try(conv=>whnf))
theorem zwi (v:Pt) (hf:FitP v) (he:Ck.zbH v=0):PureC Tryz.prog 28 [zbF v] (LS 1 aI 0 (snd v (zao v) v.rs.length)):=by
 have hr:=Ready.of hf he;have hrun:=zxR v.rs.length v hf he rfl
 obtain⟨n,hn⟩:∃n,v.rs.length=n:=⟨_,rfl⟩
 have h96:=hr.n.2
 obtain⟨p,hp⟩:∃p,zao v=p:=⟨_,rfl⟩
 rw[hp] at hrun⊢;rw[hn] at hrun h96⊢;refine ytX zal rfl ?_
 (conv=>whnf);repeat((refine yaX (hrun) ?_;conv=>whnf))
 refine yFX zal (D:=Nat×List Int) (λd=>n-d.1) (λd=>16<=d.1/\(d.1<=16∨d.1<=n)/\d.2=snd v p d.1)
  (λd=>zag [(1, .ptr 0 0),(3, .ptr 1 0),(4,lv 2 d.2),(5,ib d.1)] 40)
  (λd=>zan (.row (aPt v) 26 0:: .row (aRp n p) 53 0::lr d.2)) (16,[]) ⟨yhX _, .inl (yhX _),(zng v p 16 (yhX _)).symm⟩ ?_ ?_
 ·exact Ex.wO [0,1] []
 rintro⟨d,l⟩ ⟨h16,hd,hl⟩;dsimp only at h16 hd hl;have hll:=zl9 v p d;rw[←hl] at hll;by_cases hlt:d<n
 ·have hltv:d<v.rs.length:=zo;have hd2:((d:Nat):Int)<(v.rs.length:Nat):=zo
  have hd0:(0:Int)<=(d:Nat)/\((d:Nat):Int)<(v.rs.length:Nat):=⟨zo,zo⟩
  have hd1:(0:Int)<=(d:Nat)/\((d:Nat):Int)<((cnL n p).length:Nat):=⟨zo,by have:=ze0 n p;omega⟩
  have hda:0<=((d:Nat):Int)/\((d:Nat):Int)<(((cnL n p).length:Nat):Int):=hd1
  obtain⟨x,hx⟩:∃x,at_ Rc.o v.rs d=x:=⟨_,rfl⟩
  have hx2:at_ Rc.o v.rs ((d:Nat):Int).toNat=x:=by rw[yrX];exact hx
  obtain⟨ob,hob⟩:∃b,own x=b:=⟨_,rfl⟩
  obtain⟨conb,hcb⟩:∃b,zoj p (d:Nat)=b:=⟨_,rfl⟩
  have hca:at_ false (cnL n p) ((d:Nat):Int).toNat=conb:=by rw[yrX,zux hlt,hcb]
  have hown:=zt6 (b:=ob) v d hltv zo (by rw[hx];exact hob)
  have hsn:zsp v p d=(ob&&(!decide (x.k=0)&& !conb)):=by unfold zsp;rw[hx,hob,hcb,ybX h16,y3X]
  cases ob
  ·have hs:snd v p (d+1)=snd v p d:=zgz v p d (by rw[hsn];rfl)
   cases l with
   |nil=>
    (conv=>whnf);repeat(first|refine KIf.t (ybX hd2) ?_|refine yaX (hown) ?_|refine Ex.g ?_);conv=>whnf
    refine⟨(d+1,[]),⟨by dsimp only;omega, .inr hlt,by rw[hs];exact hl⟩,by dsimp only;omega,?_⟩;exact Ex.wO [0,1] []
   |cons y l=>
    (conv=>whnf);repeat(first|refine KIf.t (ybX hd2) ?_|refine yaX (hown) ?_|refine Ex.g ?_);conv=>whnf
    refine⟨(d+1,y::l),⟨by dsimp only;omega, .inr hlt,by rw[hs];exact hl⟩,by dsimp only;omega,?_⟩;exact Ex.wO [0,1,2] []
  ·by_cases hk:x.k=0
   ·have hs:snd v p (d+1)=snd v p d:=zgz v p d (by rw[hsn];simp[hk])
    cases l with
    |nil=>
     (conv=>whnf);repeat(first|refine KIf.t (ybX hd2) ?_|refine yaX (hown) ?_|refine Need.mk ?_ ?_;exact hd0|rw[hx2]|refine KIf.f (yqX Bool.not (ybX hk)) ?_|refine Ex.g ?_);conv=>whnf
     refine⟨(d+1,[]),⟨by dsimp only;omega, .inr hlt,by rw[hs];exact hl⟩,by dsimp only;omega,?_⟩;exact Ex.wO [0,1] []
    |cons y l=>
     (conv=>whnf);repeat(first|refine KIf.t (ybX hd2) ?_|refine yaX (hown) ?_|refine Need.mk ?_ ?_;exact hd0|rw[hx2]|refine KIf.f (yqX Bool.not (ybX hk)) ?_|refine Ex.g ?_);conv=>whnf
     refine⟨(d+1,y::l),⟨by dsimp only;omega, .inr hlt,by rw[hs];exact hl⟩,by dsimp only;omega,?_⟩;exact Ex.wO [0,1,2] []
   ·cases conb
    ·have hs:snd v p (d+1)=snd v p d++[(d:Int)]:=zuU v p d (by rw[hsn];simp[hk])
     cases l with
     |nil=>
      (conv=>whnf);repeat(first|refine KIf.t (ybX hd2) ?_|refine yaX (hown) ?_|refine Need.mk ?_ ?_;(focus(first|exact hd0|exact hd1))|rw[hx2]|rw[hca]|refine KIf.t (yqX Bool.not (ycX hk)) ?_|refine Ex.g ?_);conv=>whnf
      refine⟨(d+1,[(d:Int)]),⟨by dsimp only;omega, .inr hlt,by rw[hs,←hl];rfl⟩,by dsimp only;omega,?_⟩;exact Ex.wO [0,1,3] []
     |cons y l=>
      have hln:((y::l).map ib).length=0+(y::l).length*1:=by simp
      have hsz:((y::l).length+1)*8<=2^47/\(y::l).length+1<=2^60:=by constructor<;>omega
      (conv=>whnf);repeat(first|refine KIf.t (ybX hd2) ?_|refine yaX (hown) ?_|refine Need.mk ?_ ?_;(focus(first|exact hd0|exact hd1|exact hsz|exact hln))|rw[hx2]|rw[hca]|refine KIf.t (yqX Bool.not (ycX hk)) ?_|refine Ex.g ?_);conv=>whnf
      refine⟨(d+1,y::l++[(d:Int)]),⟨by dsimp only;omega, .inr hlt,by rw[hs,←hl]⟩,by dsimp only;omega,?_⟩
      (refine yLY [0,1,4] [] rfl rfl ?_ ?_<;>(repeat' first|exact zT|refine zA ?_ ?_)<;>(conv=>whnf)<;>(repeat'(exact rfl))<;>((first|exact zfR (by simp) (y4X (enc:=ib) (λ_=>rfl) (y::(l++[(d:Int)])))|(exact Or.inr ⟨rfl,rfl⟩)|(simp;done))))
    ·have hs:snd v p (d+1)=snd v p d:=zgz v p d (by rw[hsn];simp)
     cases l with
     |nil=>
      (conv=>whnf);repeat(first|refine KIf.t (ybX hd2) ?_|refine yaX (hown) ?_|refine Need.mk ?_ ?_;(focus(first|exact hd0|exact hd1))|rw[hx2]|rw[hca]|refine KIf.t (yqX Bool.not (ycX hk)) ?_|refine Ex.g ?_);conv=>whnf
      refine⟨(d+1,[]),⟨by dsimp only;omega, .inr hlt,by rw[hs];exact hl⟩,by dsimp only;omega,?_⟩;exact Ex.wO [0,1] []
     |cons y l=>
      (conv=>whnf);repeat(first|refine KIf.t (ybX hd2) ?_|refine yaX (hown) ?_|refine Need.mk ?_ ?_;(focus(first|exact hd0|exact hd1))|rw[hx2]|rw[hca]|refine KIf.t (yqX Bool.not (ycX hk)) ?_|refine Ex.g ?_);conv=>whnf
      refine⟨(d+1,y::l),⟨by dsimp only;omega, .inr hlt,by rw[hs];exact hl⟩,by dsimp only;omega,?_⟩;exact Ex.wO [0,1,2] []
 ·have hd2:¬((d:Nat):Int)<(v.rs.length:Nat):=zo
  have hfe:snd v p n=l:=by
   by_cases h17:n<16
   ·rw[hl,zng v p n zo,zng v p d zo]
   ·rw[hl,show d=n by omega]
  rw[hfe]
  cases l with
  |nil=>
   (conv=>whnf);repeat((refine KIf.f (ycX hd2) ?_;conv=>whnf))
   refine .z [] ?_;exact Wz.nil (enc:=aI) (o:=(0:Int)) (l:=[]) rfl
  |cons y l=>
   (conv=>whnf);repeat((refine KIf.f (ycX hd2) ?_;conv=>whnf))
   refine .z [2] ?_;exact Wz.own rfl (by simp) rfl (λ_ _=>rfl) (zgZ ib 0 (y::l)) (λ_ _=>rfl)
end Go.Proofs.YtgcjejajljhnaaaGreatDoor
namespace Go.Proofs
open Go.Shelf
def Tryz.laysM171_ren :Go.Shelf.Ren:=⟨fun|171=>82|243=>127|246=>160|283=>186|284=>187|285=>188|286=>189|129=>206|317=>205|318=>207|319=>208|320=>209|337=>223|338=>224|n=>n,fun|3=>3|9=>9|2=>2|4=>4|171=>195|0=>0|53=>196|37=>117|5=>5|173=>199|212=>214|51=>215|20=>20|213=>216|46=>217|232=>240|233=>241|n=>n,fun|17=>0|18=>6|19=>7|n=>n⟩
theorem Tryz.laysM171 :Go.Proofs.LaysM.n171 Tryz.prog Tryz.laysM171_ren:={
 mixed:=by kernel_rfl
 f129:=Tryz.func206.trans (yqX some (by kernel_rfl))
 f171:=Tryz.func82.trans (yqX some (by kernel_rfl))
 f243:=Tryz.func127.trans (yqX some (by kernel_rfl))
 f246:=Tryz.func160.trans (yqX some (by kernel_rfl))
 f283:=Tryz.func186.trans (yqX some (by kernel_rfl))
 f284:=Tryz.func187.trans (yqX some (by kernel_rfl))
 f285:=Tryz.func188.trans (yqX some (by kernel_rfl))
 f286:=Tryz.func189.trans (yqX some (by kernel_rfl))
 f317:=Tryz.func205.trans (yqX some (by kernel_rfl))
 f318:=Tryz.func207.trans (yqX some (by kernel_rfl))
 f319:=Tryz.func208.trans (yqX some (by kernel_rfl))
 f320:=Tryz.func209.trans (yqX some (by kernel_rfl))
 f337:=Tryz.func223.trans (yqX some (by kernel_rfl))
 f338:=Tryz.func224.trans (yqX some (by kernel_rfl))
 t0:=Tryz.underlying0
 a0:=Tryz.isAgg0
 z0:=Tryz.sizeOf0
 v0:=Tryz.zeroValue0
 t2:=Tryz.underlying2
 a2:=Tryz.isAgg2
 z2:=Tryz.sizeOf2
 v2:=Tryz.zeroValue2
 t3:=Tryz.underlying3
 a3:=Tryz.isAgg3
 z3:=Tryz.sizeOf3
 v3:=Tryz.zeroValue3
 t4:=Tryz.underlying4
 a4:=Tryz.isAgg4
 z4:=Tryz.sizeOf4
 v4:=Tryz.zeroValue4
 t5:=Tryz.underlying5
 a5:=Tryz.isAgg5
 z5:=Tryz.sizeOf5
 v5:=Tryz.zeroValue5
 t9:=Tryz.underlying9
 a9:=Tryz.isAgg9
 z9:=Tryz.sizeOf9
 v9:=Tryz.zeroValue9
 t20:=Tryz.underlying20
 a20:=Tryz.isAgg20
 z20:=Tryz.sizeOf20
 v20:=Tryz.zeroValue20
 t37:=Tryz.underlying117
 a37:=Tryz.isAgg117
 z37:=Tryz.sizeOf117
 v37:=Tryz.zeroValue117
 t46:=Tryz.underlying217
 a46:=Tryz.isAgg217
 z46:=Tryz.sizeOf217
 v46:=Tryz.zeroValue217
 t51:=Tryz.underlying215
 a51:=Tryz.isAgg215
 z51:=Tryz.sizeOf215
 v51:=Tryz.zeroValue215
 t53:=Tryz.underlying196
 a53:=Tryz.isAgg196
 z53:=Tryz.sizeOf196
 v53:=Tryz.zeroValue196
 t171:=Tryz.underlying195
 a171:=Tryz.isAgg195
 z171:=Tryz.sizeOf195
 v171:=Tryz.zeroValue195
 t173:=Tryz.underlying199
 a173:=Tryz.isAgg199
 z173:=Tryz.sizeOf199
 v173:=Tryz.zeroValue199
 t212:=Tryz.underlying214
 a212:=Tryz.isAgg214
 z212:=Tryz.sizeOf214
 v212:=Tryz.zeroValue214
 t213:=Tryz.underlying216
 a213:=Tryz.isAgg216
 z213:=Tryz.sizeOf216
 t232:=Tryz.underlying240
 a232:=Tryz.isAgg240
 z232:=Tryz.sizeOf240
 v232:=Tryz.zeroValue240
 t233:=Tryz.underlying241
 a233:=Tryz.isAgg241
 z233:=Tryz.sizeOf241
 v233:=Tryz.zeroValue241
 g17:=by kernel_rfl
 g18:=by kernel_rfl
 g19:=by kernel_rfl
 i0:=by kernel_rfl
 i2:=by kernel_rfl
 i3:=by kernel_rfl
 i4:=by kernel_rfl
 i5:=by kernel_rfl
 i9:=by kernel_rfl
 i20:=by kernel_rfl
 i37:=by kernel_rfl
 i46:=by kernel_rfl
 i51:=by kernel_rfl
 i53:=by kernel_rfl
 i171:=by kernel_rfl
 i173:=by kernel_rfl
 i212:=by kernel_rfl
 i232:=by kernel_rfl
 i233:=by kernel_rfl
 m17:=by kernel_rfl
 m18:=by kernel_rfl
 m19:=by kernel_rfl}
open Go.RowKit Go.Sort Go.Lib in
theorem Tryz.strconv_Itoa (n:Int) (h0: -9223372036854775808<=n) (h1:n<=9223372036854775807) (w:World) (htab:Lib.TabIs Tryz.prog w "internal/strconv.uint64pow10" .u64 Lib.pow10Tab):
  Calls Tryz.prog 82 #[.int .i64 n] w λe w'=>e= .returned (.string ⟨(Lib.itoa n).toArray⟩)/\∃k os,w'=grow (w.drewN k) os:=Any.strconv_Itoa Tryz.laysM171 n h0 h1 w htab
end Go.Proofs
namespace Ck
theorem zuu :∀m n,n<=m->Go.Lib.decDigits n=dec n
 |0,n,h=>by
  rw[Go.Lib.decDigits,dif_pos zo,dec_lt zo];unfold digit;rw[ydZ zo]
 |m+1,n,h=>by
  by_cases h1:n<10
  ·rw[Go.Lib.decDigits,dif_pos h1,dec_lt h1];unfold digit;rw[ydZ h1]
  ·rw[Go.Lib.decDigits,dif_neg h1,ziR h1,zuu m (n/10) zo];rfl
theorem zti (n:Nat):Go.Lib.itoa (n:Int)=dec n:=by unfold Go.Lib.itoa;rw[yfX zo,yrX];exact zuu n n (yhX _)
end Ck
namespace Go.Proofs.YtgcjejajljhnaaaGreatDoor
open Go.Ex Ck Go.RowKit
set_option maxRecDepth 100000
theorem zyb {w:World} (ht:ztO w):Lib.TabIs Tryz.prog w "internal/strconv.uint64pow10" .u64 Lib.pow10Tab:=by
 have e0:Tryz.prog.globalNamed "internal/strconv.uint64pow10" =some 0:=by kernel_rfl
 obtain⟨e,fr,h⟩:=ht 0 _ (by unfold zwn;rw[ygX rfl]);unfold Lib.TabIs World.var?;rw[e0];simp only[Option.bind_some];rw[h]
theorem zuO {w:World} (h:Lib.TabIs Tryz.prog w "internal/strconv.uint64pow10" .u64 Lib.pow10Tab):ztO w:=λk x hk=>by
 have e0:Tryz.prog.globalNamed "internal/strconv.uint64pow10" =some 0:=by kernel_rfl
 unfold zwn at hk;split at hk
 ·rename_i e;subst e;unfold Lib.TabIs World.var? at h;rw[e0] at h;simp only[Option.bind_some] at h;split at h
  ·rename_i cs e fr hw;have e1:cs=x:=yfZ (h.trans hk);subst e1;exact⟨e,fr,hw⟩
  ·cases h
 ·cases hk
theorem ztj :zil:=λn hn _=>yvY (args:=[.int .i64 (n:Nat)]) λw ht=>
 (Tryz.strconv_Itoa (n:Nat) zo zo w (zyb ht)).mono λe w' ⟨he,k,os,hw⟩=>⟨by rw[he,zti],hw▸Lib.below_grow w.heap.size w (yhX _) k os⟩
end Go.Proofs.YtgcjejajljhnaaaGreatDoor
namespace Ck
open Go Go.Ex
theorem zxM {h:T AO} {z:List Nat} {a b:List AV} (hw:Wzl h z a b):Wz h z (.agg a) (.agg b):=by unfold Wz;exact hw
end Ck
namespace Go.Proofs.YtgcjejajljhnaaaGreatDoor
open Go.Ex Ck
set_option maxRecDepth 100000
set_option maxHeartbeats 16000000
theorem zpA (v:Pt):(Ck.used v).length=((v.c+7)/8).toNat:=by
 unfold Ck.used;have h:∀t:List UInt8,(it (λt i=>Ck.zd2 v.c (at_ Rc.o v.rs i) t) t v.rs.length).length=t.length:=λt=>zcq (λt i=>zcq (λt k=>zfx v.c _ t _) t _) t _;rw[h];have h2:=zfx v.c v.al (List.replicate ((v.c+7)/8).toNat (0:UInt8)) v.al.length;unfold Ck.mark;rw[h2,yKZ]
theorem zqM {s:List UInt8} (h:Ck.zau s=0):s.length<=100000:=nm_len h
theorem zkX {v:Pt} (hf:FitP v) (he:Ck.zbH v=0):FitP (zao v).v:=by
 have hr:=Ready.of hf he;have hps:=zdG hr
 obtain⟨hn,h1,h2,h4,hfl⟩:(zlZ v).v.rs.length=v.rs.length/\(zlZ v).v.c=v.c/\(zlZ v).v.al=v.al/\(zlZ v).v.ds=v.ds/\(zlZ v).fl.length=(zlZ v).fd.length:=by
  unfold zlZ;exact⟨hps.f9.1.n,hps.w9.1,hps.w9.2.1,hps.w9.2.2.2,hps.f9.1.fl⟩
 clear hps;have hg:=(zsG hf he).1
 have e:(zao v).v={(zlZ v).v with mp:=Ck.used (zlZ v).v}:=by
  rw[zmk];unfold Ck.bits;dsimp only;rw[(zcA (Ck.used (zlZ v).v) (zlZ v) hfl _).1]
 rw[e]
 generalize zlZ v=p at*
 have hx:∀x∈p.v.rs,∃i:Int,RecOk i x:=λx hx=>by
  obtain⟨i,hi,rfl⟩:=yTX hx;have:=hg i hi;rw[zaS _ _ _ hi] at this;exact⟨_,this⟩
 have hal:=hf.f.al;have hds:=hf.f.ds;have hrs:=hf.f.rs;have hc:=hr.c;refine⟨⟨by show p.v.al.length<=_;rw[h2];exact hal,by show p.v.rs.length<=_;omega,by show p.v.ds.length<=_;rw[h4];exact hds,λx hm=> ?_,λx hm=> ?_,λx hm=> ?_,λx hm y hy=> ?_⟩,λx hm n hn=> ?_,λx hm n hn=> ?_,?_⟩
 ·obtain⟨i,h⟩:=hx x hm;have:=h.ns8;omega
 ·obtain⟨i,h⟩:=hx x hm;have:=h.ss8;omega
 ·obtain⟨i,h⟩:=hx x hm;have:=h.esm;have:=znM i;omega
 ·obtain⟨i,h⟩:=hx x hm;have:=(zei (h.sn y hy)).1;omega
 ·obtain⟨i,h⟩:=hx x hm;exact zqM (zcN (h.nn n hn)).2
 ·obtain⟨i,h⟩:=hx x hm;exact zqM (zbv (h.en n hn)).1
 ·show(Ck.used p.v).length<=_;rw[zpA,h1];omega
theorem zfP (v:Pt) (i:Int) (h:zii v=false):PureC Tryz.prog 5 [zbF v,ib i] (bb true):=by
 refine ytX zal rfl ?_
 (conv=>whnf);repeat(first|refine Ex.g ?_|refine yaX (zh8) ?_|refine yaX (zrr v h) ?_);conv=>whnf
 refine .z [] ?_;exact ydX rfl
theorem zfQ (v:Pt) (i:Int) (hfew:zii v=true) (he:Ck.zbH v≠0):PureC Tryz.prog 5 [zbF v,ib i] (bb true):=by
 have h:=zn5 hfew;have hcF:=zim v h he;have hcR:=zlS v h he;have hcS:=zm2 v h he;have hcC:=zeJ v i (Ck.zbH v) h h.f.rs (by unfold Ck.first;rw[yfX he]) he
 have hO:FitP ptO:={f:=⟨by decide,by decide,by decide,(λ_ h=>by cases h),(λ_ h=>by cases h),(λ_ h=>by cases h),(λ_ h=>by cases h)⟩,nl:=(λ_ h=>by cases h),el:=(λ_ h=>by cases h),mp:=by decide}
 have hSm:=zsh ptO hO
 obtain⟨e,hE⟩:∃e,Ck.zbH v=e:=⟨_,rfl⟩
 have hrE:=zt8 v h;rw[hE] at hcF hcR hcS hcC hrE he;refine ytX zal rfl ?_
 (conv=>whnf);repeat(first|refine Ex.g ?_|refine yaX (zh8) ?_|refine yaX (zrr v hfew) ?_|refine yaX (zos v h.f) ?_|refine yaX (hcF) ?_|refine yaX (hcR) ?_|refine yaX (hcC) ?_|refine yaX (hcS) ?_|refine yaX (hrE) ?_|refine KIf.t (yqX Bool.not (ycX he)) ?_|refine KIf.t (ybX rfl) ?_|refine KCall.frz [] (hSm) ⟨ydX rfl,zxM (Wzc (ydX rfl) (Wzc (Wz.nil (enc:=zaP) (o:=Run.o) (l:=[]) rfl) (Wzc (Wz.nil (enc:=aRc) (o:=Rc.o) (l:=[]) rfl) (Wzc (Wz.nil (enc:=aI) (o:=(0:Int)) (l:=[]) rfl) (Wzc (ydX rfl) Wzn))))),zT⟩ ?_);conv=>whnf
 refine .z [] ?_;exact(ydX rfl:Wz _ _ (bb true) (bb true))
theorem zgj (v:Pt) (i:Int) (hfew:zii v=true) (he:Ck.zbH v=0):PureC Tryz.prog 5 [zbF v,ib i] (bb true):=by
 have h:=zn5 hfew;have hr:=Ready.of h he;have hn96:=hr.n.2;have hw:=zkX h he;have hcF:=zkE ztj v h he hr;have hcR:=zm4 ztj v h he hr;have hcS:=zpp ztj v h he hr;have hrun:=zxR v.rs.length v h he rfl;have hSn:=zwi v h he;have hfd:=hr.fds.2;have hSm:=zsh (zao v).v hw;have hrE:=zt8 v h;rw[he] at hrE;have hsl:=zl9 v (zao v) v.rs.length;have hIn:=zuF (snd v (zao v) v.rs.length) (snd v (zao v) v.rs.length) zo zo;rw[ybX rfl] at hIn;have hwi:=zqa i 0 ((v.rs.length:Int)-1)
 have hsm:Small ((v.rs.length:Int)-1):=⟨zo,zo⟩
 by_cases hi:Ck.wi i 0 ((v.rs.length:Int)-1)=true
 ·have hcC:=zin ztj v i h he hr hi;rw[hi] at hwi
  have hi2:0<=i/\i<v.rs.length:=by simp[wi] at hi;omega
  have hix:0<=i/\i<((cnL v.rs.length (zao v)).length:Nat):=by rw[ze0];exact hi2
  have hca:at_ false (cnL v.rs.length (zao v)) i.toNat=zoj (zao v) i:=by rw[zux zo,show((i.toNat:Nat):Int)=i by omega]
  obtain⟨cb,hcb⟩:∃b,zoj (zao v) i=b:=⟨_,rfl⟩
  rw[hcb] at hcC hca;clear hr he
  generalize zao v=p at*
  cases cb
  ·refine ytX zal rfl ?_
   (conv=>whnf);repeat(first|refine Ex.g ?_|refine yaX (zh8) ?_|refine yaX (zrr v hfew) ?_|refine yaX (zos v h.f) ?_|refine yaX (hcF) ?_|refine yaX (hcR) ?_|refine yaX (hcC) ?_|refine yaX (hcS) ?_|refine yaX (hrE) ?_|refine yaX (hrun) ?_|refine yaX (zcS p.fd zo) ?_|refine yaX (hSm) ?_|refine yaX (hSn) ?_|refine yaX (hIn) ?_|refine yaX (hwi) ?_|rw[hca]);conv=>whnf
   refine .z [] ?_;exact(ydX rfl:Wz _ _ (bb true) (bb true))
  ·refine ytX zal rfl ?_
   (conv=>whnf);repeat(first|refine Ex.g ?_|refine yaX (zh8) ?_|refine yaX (zrr v hfew) ?_|refine yaX (zos v h.f) ?_|refine yaX (hcF) ?_|refine yaX (hcR) ?_|refine yaX (hcC) ?_|refine yaX (hcS) ?_|refine yaX (hrE) ?_|refine yaX (hrun) ?_|refine yaX (zcS p.fd zo) ?_|refine yaX (hSm) ?_|refine yaX (hSn) ?_|refine yaX (hIn) ?_|refine yaX (hwi) ?_|rw[hca]);conv=>whnf
   refine .z [] ?_;exact(ydX rfl:Wz _ _ (bb true) (bb true))
 ·have hi:Ck.wi i 0 ((v.rs.length:Int)-1)=false:=by simpa using hi
  have hcC:=zeJ v i 6 h h.f.rs (by rw[he,hi];rfl) (by decide);rw[hi] at hwi;clear hr he
  generalize zao v=p at*
  refine ytX zal rfl ?_
  (conv=>whnf);repeat(first|refine Ex.g ?_|refine yaX (zh8) ?_|refine yaX (zrr v hfew) ?_|refine yaX (zos v h.f) ?_|refine yaX (hcF) ?_|refine yaX (hcR) ?_|refine yaX (hcC) ?_|refine yaX (hcS) ?_|refine yaX (hrE) ?_|refine yaX (hrun) ?_|refine yaX (zcS p.fd zo) ?_|refine yaX (hSm) ?_|refine yaX (hSn) ?_|refine yaX (hIn) ?_|refine yaX (hwi) ?_);conv=>whnf
  refine .z [] ?_;exact ydX rfl
theorem zgJ (v:Pt) (i:Int):PureC Tryz.prog 5 [zbF v,ib i] (bb true):=by
 by_cases hfew:zii v=true
 ·by_cases he:Ck.zbH v=0
  ·exact zgj v i hfew he
  ·exact zfQ v i hfew he
 ·exact zfP v i (by simpa using hfew)
end Go.Proofs.YtgcjejajljhnaaaGreatDoor
namespace Go.Proofs.YtgcjejajljhnaaaGreatDoor
open Go.ChangeShapes Go.WideShapes Go.ChangeAt Go.RowKit Go.Deep
theorem Tryz.own :ownKnob Tryz.prog.godebug=none:=by kernel_rfl
theorem Tryz.laidOut :laidOutB Tryz.prog=true:=by kernel_rfl
section
variable {H : Type} {enc : TypeId × Value -> H} {P : Program} {W W' : World}
theorem zhn (hl:laidOutB P=true) (hb:Below W.heap.size W W'):∀(ts:List TypeId) (vs:List Value) (ds:List (DataW H)) (ps:List MemPlace),
  (∀t∈ts,P.readableRec t=true/\t<P.types.size)->DataW.TrodAll enc P W 0 (λ_=>true) true ts vs ds ps->(∀x∈ps,x.block<W.heap.size)->
  DataW.TrodAll enc P W' 0 (λb=>decide (b<W.heap.size)) true ts vs ds ps
 |[],[],[],_,_,h,_=>h
 |t::ts,v::vs,d::ds,ps,ht,h,hlt=>by
  obtain⟨p,q,h1,h2,rfl⟩:=h;have hp:=ht t (yxY ..);exact⟨p,q,Below.trod hl hp.1 hp.2 h1 hb (λx hx=>hlt x (yUX _ hx)),zhn hl hb ts vs ds q (λu hu=>ht u (ycY _ hu)) h2 (λx hx=>hlt x (y6X _ hx)),rfl⟩
theorem zte {f:Func} {s:ChangeSpec} {args:Array Value} {ds gs:List (DataW H)} {before:List MemPlace} {tb:TypeId} (hl:laidOutB P=true) (htb:P.underlying tb=some .bool) (hs:s.vars=[])
  (hf:f.resultTypes= #[tb]) (hr:s.fn H (ds++gs)={results:=[.lit (.bool true)],args:=ds}) (hW:DataW.Whole enc P f.params.toList s.vars false W args.toList ds gs before)
  (hts:∀t∈f.params.toList,P.readableRec t=true/\t<P.types.size) (hb:Below W.heap.size W W'):s.post enc P f false true false false W args (.bool true) W':=by
 have hlt:∀p∈before,p.block<W.heap.size:=λp hp=>hW.lt p hp;have hW':=hW;obtain⟨p,q,hA,hV,rfl,_,_⟩:=hW';rw[hs] at hV;obtain⟨rfl,rfl⟩:=trodVars_none hV;refine⟨ds,[],_,[],p,[],hW,?_,?_,?_,World.keptBut_mono (λx hx=>⟨hx,?_⟩) (hb.frame (·∈p++[])),λh=>by cases h⟩
 ·rw[hr,hf];exact trodAll_mk1 (shut_bool htb true)
 ·rw[hr];exact zhn hl hb _ _ _ _ hts hA (λx hx=>hlt x (yUX _ hx))
 ·rw[hr,hs];exact rfl
 ·rw[yKX] at hx;exact Or.inr (Or.inl hx)
end
set_option maxRecDepth 100000
end Go.Proofs.YtgcjejajljhnaaaGreatDoor











namespace Go.Hp
open Go.RowKit
class El (α:Type) (n:outParam Nat) where
 cells:α->List Value
 o:α
 len:∀a,(cells a).length=n
 one:∀a,∀u∈cells a,u.oneCell'=true
 pos:0<n
end Go.Hp
namespace Ck
open Go Go.RowKit Go.Hp
instance elInt :El Int 1:=⟨λx=>[.int .i64 x],0,λ_=>rfl,λ_ u hu=>by simp at hu;subst hu;rfl,by decide⟩
instance elRun :El Run 2:=⟨λx=>[.int .i64 x.s, .int .i64 x.l],Run.o,λ_=>rfl,λ_ u hu=>by simp at hu;rcases hu with rfl|rfl<;>rfl,by decide⟩
instance elNm :El Nm 3:=⟨λx=>[.int .i64 x.d.r, .int .i64 x.d.q, .string ⟨x.n.toArray⟩],Nm.o,λ_=>rfl,λ_ u hu=>by simp at hu;rcases hu with rfl|rfl|rfl<;>rfl,by decide⟩
instance elEn :El En 4:=⟨λx=>[.string ⟨x.n.toArray⟩, .int .i64 x.f.r, .int .i64 x.f.q, .int .i64 x.z],En.o,λ_=>rfl,λ_ u hu=>by simp at hu;rcases hu with rfl|rfl|rfl|rfl<;>rfl,by decide⟩
end Ck
namespace Go.Proofs.YtgcjejajljhnaaaGreatDoor
open Go.ChangeShapes Go.WideShapes Go.ChangeAt Go.RowKit Go.Deep Go.Hp
set_option maxRecDepth 100000
theorem zq0 {α:Type} (d:α) {p:Nat->α->Prop}:∀n:Nat,(∀i,i<n->∃a,p i a)->∃l:List α,l.length=n/\∀i,i<n->p i (Ck.at_ d l i)
 |0,_=>⟨[],rfl,λ_ h=>absurd h zo⟩
 |n+1,h=>by
  obtain⟨l,hl,hp⟩:=zq0 d n λi hi=>h i zo;obtain⟨a,ha⟩:=h n zo;refine⟨l++[a],by simp[hl],λi hi=> ?_⟩;unfold Ck.at_ at hp⊢;by_cases e:i=n
  ·subst e;rw[yuX zo];simpa[hl] using ha
  ·have:=hp i zo
   rwa [yIX zo]
section
variable {H : Type} {enc : TypeId × Value -> H} {W : World} {held : Bool}
theorem zxO (b o i:Nat):(⟨b,o,none⟩:Addr).add i=⟨b,o+i,none⟩:=by
 unfold Addr.add;split
 ·subst_vars;rfl
 ·rfl
theorem zqC {fuel:Nat} {cs:List Value} {x:DataW H×List MemPlace} (h:DataW.trod enc Tryz.prog W 0 (λ_=>true) held fuel 3 cs=some x) (_:cs.length=1) (_:∀p∈x.2,p.block<W.heap.size):∃a:Int,cs=El.cells a/\True:=by
 obtain⟨n,e,_,_⟩:=DataW.trod_int Tryz.underlying3 h;exact⟨n,e,zT⟩
theorem zsV {fuel:Nat} {cs:List Value} {x:DataW H×List MemPlace} (h:DataW.trod enc Tryz.prog W 0 (λ_=>true) held fuel 78 cs=some x) (hsz:cs.length=2) (hlt:∀p∈x.2,p.block<W.heap.size):∃a:Ck.Run,cs=El.cells a/\(λ_=>True) a:=by
 obtain⟨xs,n,_,hx,_,hxl,hg⟩:=DataW.trod_struct Tryz.underlying78 h
 have hC0:Tryz.prog.cellsOf 3=1:=by kernel_rfl
 match cs,hsz,xs,hxl with
 |[c0,c1],_,[y0,y1],_=>
  have hp:x.2=([y0,y1]:List (DataW H×List MemPlace)).flatMap Prod.snd:=by rw[hx]
  have h0:DataW.trod enc Tryz.prog W 0 (λ_=>true) held n 3 (List.take (Tryz.prog.cellsOf 3) (List.drop 0 [c0,c1]))=some y0:=hg 0 _ rfl;have h1:DataW.trod enc Tryz.prog W 0 (λ_=>true) held n 3 (List.take (Tryz.prog.cellsOf 3) (List.drop 1 [c0,c1]))=some y1:=hg 1 _ rfl;rw[hC0] at h0;obtain⟨f0,e0,_,_⟩:=DataW.trod_int Tryz.underlying3 (x:=y0) h0;rw[hC0] at h1;obtain⟨f1,e1,_,_⟩:=DataW.trod_int Tryz.underlying3 (x:=y1) h1;simp at e0;subst e0;simp at e1;subst e1;exact⟨⟨f0,f1⟩,rfl,zT⟩
theorem zjD {fuel:Nat} {cs:List Value} {x:DataW H×List MemPlace} (h:DataW.trod enc Tryz.prog W 0 (λ_=>true) held fuel 61 cs=some x) (hsz:cs.length=2) (hlt:∀p∈x.2,p.block<W.heap.size):∃a:Ck.Ref,cs=[.int .i64 a.r, .int .i64 a.q]:=by
 obtain⟨xs,n,_,hx,_,hxl,hg⟩:=DataW.trod_struct Tryz.underlying61 h
 have hC0:Tryz.prog.cellsOf 3=1:=by kernel_rfl
 match cs,hsz,xs,hxl with
 |[c0,c1],_,[y0,y1],_=>
  have hp:x.2=([y0,y1]:List (DataW H×List MemPlace)).flatMap Prod.snd:=by rw[hx]
  have h0:DataW.trod enc Tryz.prog W 0 (λ_=>true) held n 3 (List.take (Tryz.prog.cellsOf 3) (List.drop 0 [c0,c1]))=some y0:=hg 0 _ rfl;have h1:DataW.trod enc Tryz.prog W 0 (λ_=>true) held n 3 (List.take (Tryz.prog.cellsOf 3) (List.drop 1 [c0,c1]))=some y1:=hg 1 _ rfl;rw[hC0] at h0;obtain⟨f0,e0,_,_⟩:=DataW.trod_int Tryz.underlying3 (x:=y0) h0;rw[hC0] at h1;obtain⟨f1,e1,_,_⟩:=DataW.trod_int Tryz.underlying3 (x:=y1) h1;simp at e0;subst e0;simp at e1;subst e1;exact⟨⟨f0,f1⟩,rfl⟩
theorem zvo {fuel:Nat} {cs:List Value} {x:DataW H×List MemPlace} (h:DataW.trod enc Tryz.prog W 0 (λ_=>true) held fuel 71 cs=some x) (hsz:cs.length=3) (hlt:∀p∈x.2,p.block<W.heap.size):∃a:Ck.Nm,cs=El.cells a/\(λ_=>True) a:=by
 obtain⟨xs,n,_,hx,_,hxl,hg⟩:=DataW.trod_struct Tryz.underlying71 h
 have hC0:Tryz.prog.cellsOf 61=2:=by kernel_rfl
 have hC1:Tryz.prog.cellsOf 9=1:=by kernel_rfl
 match cs,hsz,xs,hxl with
 |[c0,c1,c2],_,[y0,y1],_=>
  have hp:x.2=([y0,y1]:List (DataW H×List MemPlace)).flatMap Prod.snd:=by rw[hx]
  have h0:DataW.trod enc Tryz.prog W 0 (λ_=>true) held n 61 (List.take (Tryz.prog.cellsOf 61) (List.drop 0 [c0,c1,c2]))=some y0:=hg 0 _ rfl;have h1:DataW.trod enc Tryz.prog W 0 (λ_=>true) held n 9 (List.take (Tryz.prog.cellsOf 9) (List.drop 2 [c0,c1,c2]))=some y1:=hg 1 _ rfl;rw[hC0] at h0;obtain⟨f0,e0⟩:=zjD (x:=y0) h0 rfl (λp hp2=>hlt p (by rw[hp];simp[hp2]))
  replace e0:[c0,c1]=[.int .i64 f0.r, .int .i64 f0.q]:=e0
  rw[hC1] at h1;obtain⟨f1,e1,_,_⟩:=DataW.trod_string Tryz.underlying9 (x:=y1) h1
  obtain⟨rfl,rfl⟩:c0= .int .i64 f0.r/\c1= .int .i64 f0.q:=by simpa using e0
  simp at e1;subst e1;exact⟨⟨f0,f1.data.toList⟩,rfl,zT⟩
theorem zvp {fuel:Nat} {cs:List Value} {x:DataW H×List MemPlace} (h:DataW.trod enc Tryz.prog W 0 (λ_=>true) held fuel 73 cs=some x) (hsz:cs.length=4) (hlt:∀p∈x.2,p.block<W.heap.size):∃a:Ck.En,cs=El.cells a/\(λ_=>True) a:=by
 obtain⟨xs,n,_,hx,_,hxl,hg⟩:=DataW.trod_struct Tryz.underlying73 h
 have hC0:Tryz.prog.cellsOf 9=1:=by kernel_rfl
 have hC1:Tryz.prog.cellsOf 61=2:=by kernel_rfl
 have hC2:Tryz.prog.cellsOf 3=1:=by kernel_rfl
 match cs,hsz,xs,hxl with
 |[c0,c1,c2,c3],_,[y0,y1,y2],_=>
  have hp:x.2=([y0,y1,y2]:List (DataW H×List MemPlace)).flatMap Prod.snd:=by rw[hx]
  have h0:DataW.trod enc Tryz.prog W 0 (λ_=>true) held n 9 (List.take (Tryz.prog.cellsOf 9) (List.drop 0 [c0,c1,c2,c3]))=some y0:=hg 0 _ rfl;have h1:DataW.trod enc Tryz.prog W 0 (λ_=>true) held n 61 (List.take (Tryz.prog.cellsOf 61) (List.drop 1 [c0,c1,c2,c3]))=some y1:=hg 1 _ rfl;have h2:DataW.trod enc Tryz.prog W 0 (λ_=>true) held n 3 (List.take (Tryz.prog.cellsOf 3) (List.drop 3 [c0,c1,c2,c3]))=some y2:=hg 2 _ rfl;rw[hC0] at h0;obtain⟨f0,e0,_,_⟩:=DataW.trod_string Tryz.underlying9 (x:=y0) h0;rw[hC1] at h1;obtain⟨f1,e1⟩:=zjD (x:=y1) h1 rfl (λp hp2=>hlt p (by rw[hp];simp[hp2]))
  replace e1:[c1,c2]=[.int .i64 f1.r, .int .i64 f1.q]:=e1
  rw[hC2] at h2;obtain⟨f2,e2,_,_⟩:=DataW.trod_int Tryz.underlying3 (x:=y2) h2;simp at e0;subst e0
  obtain⟨rfl,rfl⟩:c1= .int .i64 f1.r/\c2= .int .i64 f1.q:=by simpa using e1
  simp at e2;subst e2;exact⟨⟨f0.data.toList,f1,f2⟩,rfl,zT⟩
end
end Go.Proofs.YtgcjejajljhnaaaGreatDoor
namespace Go.Ex
open Go
def zOf (w:World) (k i:Nat):Option Value:=match w.heap[k]? with|some (.cells cur _ _)=>cur[i]? |_=>none
theorem zst {w:World} {k i:Nat} {v:Value} (h:w.cell? ⟨k,i,none⟩=some v):zOf w k i=some v:=by
 unfold World.cell? at h;unfold zOf;simp only at h;split at h
 ·rename_i cur e fr h1;rw[h1];exact h
 ·cases h
theorem Rzl.cons {z:Nat->Nat->Option Value} {x:AV} {l:List AV} {y:Value} {ys:List Value} (h:Rz z x y) (hl:Rzl z l ys):Rzl z (x::l) (y::ys):=⟨_,_,rfl,h,hl⟩
theorem Rzl.head {z:Nat->Nat->Option Value} {x:AV} {y:Value} (h:Rzl z [x] [y]):Rz z x y:=by
 obtain⟨y',ys,e,h1,_⟩:=h;cases e;exact h1
theorem calls_known {P:Program} {f:FuncId} {args:List AV} {v:Value} {W:World} {args':List Value} (h:PureC P f args (.sc v)) (hR:Rzl (zOf W) args args') (hT:ztO W):Calls P f args'.toArray W λe w'=>e= .returned v/\RowKit.Below W.heap.size W w':=by
 have hz:∀k i v,zOf W k i=some v->∃cur e fr,W.heap[k]? =some (.cells cur e fr)/\cur[i]? =some v:=λk i v hv=>by
  unfold zOf at hv;split at hv
  ·rename_i cur e fr h1;exact⟨cur,e,fr,h1,hv⟩
  ·cases hv
 have hok:Ok ⟨λ_=>none,zOf W⟩ (⟨.e,0⟩:St).h.get W:=⟨λ_ _ h=>(by cases h),λ_ _ _ _ h=>(by cases h),λk i v hv=>⟨hz k i v hv,λ_ _ h=>(by cases h)⟩,λk x hk=>⟨hT k x hk,λ_ _ h=>(by cases h)⟩⟩
 refine Calls.mono (h ⟨.e,0⟩ ⟨λ_=>none,zOf W⟩ W args' (Rzl.rl hR) hok (λ_ _ _=>rfl)) ?_;rintro e w' ⟨y,m',rfl,hg,hy⟩;refine⟨yqX Ending.returned hy,?_⟩;exact⟨hg.fr.os,hg.fr.tape,hg.fr.output,hg.fr.size,λk hk=>hg.fr.block k hk λb o hb=>by cases hb⟩
end Go.Ex
namespace Go.Proofs.YtgcjejajljhnaaaGreatDoor
open Go.ChangeShapes Go.WideShapes Go.ChangeAt Go.RowKit Go.Deep Go.Hp Go.Ex Ck
set_option maxRecDepth 100000
section
variable {H : Type} {enc : TypeId × Value -> H} {W : World} {held : Bool}
theorem zb7 {α:Type} {k:Nat} (f:α->List AV) (o:α) (hfl:∀x,(f x).length=k+1) {t e:TypeId} (hu:Tryz.prog.underlying t=some (.slice e)) (hC:Tryz.prog.cellsOf e=k+1)
  (one:∀(fuel:Nat) (cs:List Value) (y:DataW H×List MemPlace),DataW.trod enc Tryz.prog W 0 (λ_=>true) held fuel e cs=some y->cs.length=k+1->(∀p∈y.2,p.block<W.heap.size)->∃a:α,Rzl (zOf W) (f a) cs)
  {fuel:Nat} {cs:List Value} {x:DataW H×List MemPlace} (h:DataW.trod enc Tryz.prog W 0 (λ_=>true) held fuel t cs=some x) (hlt:∀p∈x.2,p.block<W.heap.size):∃l:List α,Rzl (zOf W) [LS (k+1) f o l] cs:=by
 rcases open_slice hu h with⟨hc,_⟩|⟨a,len,cap,m,fu,D,Pl,hc,_,hle,hcap,hm,hx,hat⟩
 ·exact⟨[],_,_,hc,⟨none,0,rfl,yhX _,λ_=>⟨rfl,rfl⟩,λi hi=>absurd hi (ypX _)⟩,rfl⟩
 ·have hm':m=cap:=by simpa using hm
  subst hm'
  have hcell:∀i,i<len->∃q:α,∃vs,Rzl (zOf W) (f q) vs/\vs.length=k+1/\∀j v,vs[j]? =some v->W.cell? ((a.add (i*(k+1))).add j)=some v:=by
   intro i hi;obtain⟨cs',hcs,ht⟩:=hat i zo;rw[hC] at hcs;obtain⟨_,hl,hcl⟩:=World.cells?_some hcs
   obtain⟨q,hq⟩:=one fu cs' _ ht (by simpa using hl) (λp hp=>hlt p (by
    rw[hx]
    exact y6X _ (List.mem_flatMap.2 ⟨i,yBY.2 zo,hp⟩)))
   refine⟨q,cs',hq,by simpa using hl,λj v hj=> ?_⟩
   have hlk:cs'.length=k+1:=by simpa using hl
   have hjk:j<k+1:=by have:=(y7X.1 hj).1;omega
   have:=hcl j zo;rw[this];rw[ysX zo] at hj;simpa[List.getD,ysX (show j<cs'.length by omega)] using hj
  obtain⟨l,hl,hp⟩:=zq0 o len hcell;subst hl;refine⟨l,_,_,hc,⟨some a,m,rfl,hle,λh=>(by rcases h with h|h;cases h;omega),λi hi=> ?_⟩,rfl⟩;obtain⟨vs,h1,h2,h3⟩:=hp i hi;obtain⟨vs0,h10,h20,h30⟩:=hp 0 zo;have h0:vs0[0]? =some (vs0[0]' zo):=ysX _
  have hs:a.spot=none:=by
   have:=World.cell?_spot (h30 0 _ h0);simpa[Addr.add] using this
  clear h10 h20 h30 h0 vs0;obtain⟨b,p,sp⟩:=a;simp only at hs;subst hs;refine⟨b,p,vs,rfl,h1,h2,λj v hj=>zst ?_⟩;have:=h3 j v hj;simpa only[zxO] using this
theorem ztf :∀(fuel:Nat) (cs:List Value) (y:DataW H×List MemPlace),DataW.trod enc Tryz.prog W 0 (λ_=>true) held fuel 3 cs=some y->cs.length=1->(∀p∈y.2,p.block<W.heap.size)->∃a:Int,Rzl (zOf W) (aI a) cs:=λfuel cs y h hs hl=>by
 obtain⟨a,rfl,_⟩:=zqC h hs hl;exact⟨a,Rzl.cons rfl rfl⟩
theorem znP :∀(fuel:Nat) (cs:List Value) (y:DataW H×List MemPlace),DataW.trod enc Tryz.prog W 0 (λ_=>true) held fuel 78 cs=some y->cs.length=2->(∀p∈y.2,p.block<W.heap.size)->∃a:Run,Rzl (zOf W) (zaP a) cs:=λfuel cs y h hs hl=>by
 obtain⟨a,rfl,_⟩:=zsV h hs hl;exact⟨a,Rzl.cons rfl (Rzl.cons rfl rfl)⟩
theorem zvI :∀(fuel:Nat) (cs:List Value) (y:DataW H×List MemPlace),DataW.trod enc Tryz.prog W 0 (λ_=>true) held fuel 71 cs=some y->cs.length=3->(∀p∈y.2,p.block<W.heap.size)->∃a:Nm,Rzl (zOf W) (aNm a) cs:=λfuel cs y h hs hl=>by
 obtain⟨a,rfl,_⟩:=zvo h hs hl;exact⟨a,Rzl.cons rfl (Rzl.cons rfl (Rzl.cons rfl rfl))⟩
theorem zvJ :∀(fuel:Nat) (cs:List Value) (y:DataW H×List MemPlace),DataW.trod enc Tryz.prog W 0 (λ_=>true) held fuel 73 cs=some y->cs.length=4->(∀p∈y.2,p.block<W.heap.size)->∃a:En,Rzl (zOf W) (aEn a) cs:=λfuel cs y h hs hl=>by
 obtain⟨a,rfl,_⟩:=zvp h hs hl;exact⟨a,Rzl.cons rfl (Rzl.cons rfl (Rzl.cons rfl (Rzl.cons rfl rfl)))⟩
theorem zsW {fuel:Nat} {cs:List Value} {x:DataW H×List MemPlace} (h:DataW.trod enc Tryz.prog W 0 (λ_=>true) held fuel 80 cs=some x) (hsz:cs.length=2) (hlt:∀p∈x.2,p.block<W.heap.size):∃a:Sm,Rzl (zOf W) (aSm a) cs:=by
 obtain⟨xs,n,_,hx,_,hxl,hg⟩:=DataW.trod_struct Tryz.underlying80 h
 have hC0:Tryz.prog.cellsOf 22=1:=by kernel_rfl
 have hC1:Tryz.prog.cellsOf 3=1:=by kernel_rfl
 match cs,hsz,xs,hxl with
 |[c0,c1],_,[y0,y1],_=>
  have hp:x.2=([y0,y1]:List (DataW H×List MemPlace)).flatMap Prod.snd:=by rw[hx]
  have h0:DataW.trod enc Tryz.prog W 0 (λ_=>true) held n 22 (List.take (Tryz.prog.cellsOf 22) (List.drop 0 [c0,c1]))=some y0:=hg 0 _ rfl;have h1:DataW.trod enc Tryz.prog W 0 (λ_=>true) held n 3 (List.take (Tryz.prog.cellsOf 3) (List.drop 1 [c0,c1]))=some y1:=hg 1 _ rfl;rw[hC0] at h0;obtain⟨f0,e0⟩:=zb7 zaP Run.o (λ_=>rfl) Tryz.underlying22 (by kernel_rfl) znP (x:=y0) h0 (λp hp2=>hlt p (by rw[hp];simp[hp2]));rw[hC1] at h1;obtain⟨f1,e1,_,_⟩:=DataW.trod_int Tryz.underlying3 (x:=y1) h1;simp at e1;subst e1;exact⟨⟨f0,f1⟩,Rzl.cons (Rzl.head e0) (Rzl.cons rfl rfl)⟩
theorem zsX {fuel:Nat} {cs:List Value} {x:DataW H×List MemPlace} (h:DataW.trod enc Tryz.prog W 0 (λ_=>true) held fuel 66 cs=some x) (hsz:cs.length=10) (hlt:∀p∈x.2,p.block<W.heap.size):∃a:Rc,Rzl (zOf W) (aRc a) cs:=by
 obtain⟨xs,n,_,hx,_,hxl,hg⟩:=DataW.trod_struct Tryz.underlying66 h
 have hC0:Tryz.prog.cellsOf 4=1:=by kernel_rfl
 have hC1:Tryz.prog.cellsOf 3=1:=by kernel_rfl
 have hC2:Tryz.prog.cellsOf 61=2:=by kernel_rfl
 have hC3:Tryz.prog.cellsOf 62=1:=by kernel_rfl
 have hC4:Tryz.prog.cellsOf 63=1:=by kernel_rfl
 have hC5:Tryz.prog.cellsOf 64=1:=by kernel_rfl
 match cs,hsz,xs,hxl with
 |[c0,c1,c2,c3,c4,c5,c6,c7,c8,c9],_,[y0,y1,y2,y3,y4,y5,y6,y7,y8],_=>
  have hp:x.2=([y0,y1,y2,y3,y4,y5,y6,y7,y8]:List (DataW H×List MemPlace)).flatMap Prod.snd:=by rw[hx]
  have h0:DataW.trod enc Tryz.prog W 0 (λ_=>true) held n 4 (List.take (Tryz.prog.cellsOf 4) (List.drop 0 [c0,c1,c2,c3,c4,c5,c6,c7,c8,c9]))=some y0:=hg 0 _ rfl;have h1:DataW.trod enc Tryz.prog W 0 (λ_=>true) held n 3 (List.take (Tryz.prog.cellsOf 3) (List.drop 1 [c0,c1,c2,c3,c4,c5,c6,c7,c8,c9]))=some y1:=hg 1 _ rfl;have h2:DataW.trod enc Tryz.prog W 0 (λ_=>true) held n 3 (List.take (Tryz.prog.cellsOf 3) (List.drop 2 [c0,c1,c2,c3,c4,c5,c6,c7,c8,c9]))=some y2:=hg 2 _ rfl;have h3:DataW.trod enc Tryz.prog W 0 (λ_=>true) held n 61 (List.take (Tryz.prog.cellsOf 61) (List.drop 3 [c0,c1,c2,c3,c4,c5,c6,c7,c8,c9]))=some y3:=hg 3 _ rfl;have h4:DataW.trod enc Tryz.prog W 0 (λ_=>true) held n 3 (List.take (Tryz.prog.cellsOf 3) (List.drop 5 [c0,c1,c2,c3,c4,c5,c6,c7,c8,c9]))=some y4:=hg 4 _ rfl;have h5:DataW.trod enc Tryz.prog W 0 (λ_=>true) held n 3 (List.take (Tryz.prog.cellsOf 3) (List.drop 6 [c0,c1,c2,c3,c4,c5,c6,c7,c8,c9]))=some y5:=hg 5 _ rfl;have h6:DataW.trod enc Tryz.prog W 0 (λ_=>true) held n 62 (List.take (Tryz.prog.cellsOf 62) (List.drop 7 [c0,c1,c2,c3,c4,c5,c6,c7,c8,c9]))=some y6:=hg 6 _ rfl;have h7:DataW.trod enc Tryz.prog W 0 (λ_=>true) held n 63 (List.take (Tryz.prog.cellsOf 63) (List.drop 8 [c0,c1,c2,c3,c4,c5,c6,c7,c8,c9]))=some y7:=hg 7 _ rfl;have h8:DataW.trod enc Tryz.prog W 0 (λ_=>true) held n 64 (List.take (Tryz.prog.cellsOf 64) (List.drop 9 [c0,c1,c2,c3,c4,c5,c6,c7,c8,c9]))=some y8:=hg 8 _ rfl;rw[hC0] at h0;obtain⟨f0,e0,_⟩:=DataW.trod_bool Tryz.underlying4 (x:=y0) h0;rw[hC1] at h1;obtain⟨f1,e1,_,_⟩:=DataW.trod_int Tryz.underlying3 (x:=y1) h1;rw[hC1] at h2;obtain⟨f2,e2,_,_⟩:=DataW.trod_int Tryz.underlying3 (x:=y2) h2;rw[hC2] at h3;obtain⟨f3,e3⟩:=zjD (x:=y3) h3 rfl (λp hp2=>hlt p (by rw[hp];simp[hp2]))
  replace e3:[c3,c4]=[.int .i64 f3.r, .int .i64 f3.q]:=e3
  rw[hC1] at h4;obtain⟨f4,e4,_,_⟩:=DataW.trod_int Tryz.underlying3 (x:=y4) h4;rw[hC1] at h5;obtain⟨f5,e5,_,_⟩:=DataW.trod_int Tryz.underlying3 (x:=y5) h5;rw[hC3] at h6;obtain⟨f6,e6⟩:=zb7 aNm Nm.o (λ_=>rfl) Tryz.underlying62 (by kernel_rfl) zvI (x:=y6) h6 (λp hp2=>hlt p (by rw[hp];simp[hp2]));rw[hC4] at h7;obtain⟨f7,e7⟩:=zb7 aSm Sm.o (λ_=>rfl) Tryz.underlying63 (by kernel_rfl) (λ_ _ _=>zsW) (x:=y7) h7 (λp hp2=>hlt p (by rw[hp];simp[hp2]));rw[hC5] at h8;obtain⟨f8,e8⟩:=zb7 aEn En.o (λ_=>rfl) Tryz.underlying64 (by kernel_rfl) zvJ (x:=y8) h8 (λp hp2=>hlt p (by rw[hp];simp[hp2]));simp at e0;subst e0;simp at e1;subst e1;simp at e2;subst e2
  obtain⟨rfl,rfl⟩:c3= .int .i64 f3.r/\c4= .int .i64 f3.q:=by simpa using e3
  simp at e4;subst e4;simp at e5;subst e5;exact⟨⟨f0,f1,f2,f3,f4,f5,f6,f7,f8⟩,Rzl.cons rfl (Rzl.cons rfl (Rzl.cons rfl (Rzl.cons rfl (Rzl.cons rfl (Rzl.cons rfl (Rzl.cons rfl (Rzl.cons (Rzl.head e6) (Rzl.cons (Rzl.head e7) (Rzl.cons (Rzl.head e8) rfl)))))))))⟩
theorem zsY {fuel:Nat} {cs:List Value} {x:DataW H×List MemPlace} (h:DataW.trod enc Tryz.prog W 0 (λ_=>true) held fuel 26 cs=some x) (hsz:cs.length=5) (hlt:∀p∈x.2,p.block<W.heap.size):∃a:Pt,Rzl (zOf W) (aPt a) cs:=by
 obtain⟨xs,n,_,hx,_,hxl,hg⟩:=DataW.trod_struct Tryz.underlying26 h
 have hC0:Tryz.prog.cellsOf 3=1:=by kernel_rfl
 have hC1:Tryz.prog.cellsOf 22=1:=by kernel_rfl
 have hC2:Tryz.prog.cellsOf 23=1:=by kernel_rfl
 have hC3:Tryz.prog.cellsOf 24=1:=by kernel_rfl
 have hC4:Tryz.prog.cellsOf 9=1:=by kernel_rfl
 match cs,hsz,xs,hxl with
 |[c0,c1,c2,c3,c4],_,[y0,y1,y2,y3,y4],_=>
  have hp:x.2=([y0,y1,y2,y3,y4]:List (DataW H×List MemPlace)).flatMap Prod.snd:=by rw[hx]
  have h0:DataW.trod enc Tryz.prog W 0 (λ_=>true) held n 3 (List.take (Tryz.prog.cellsOf 3) (List.drop 0 [c0,c1,c2,c3,c4]))=some y0:=hg 0 _ rfl;have h1:DataW.trod enc Tryz.prog W 0 (λ_=>true) held n 22 (List.take (Tryz.prog.cellsOf 22) (List.drop 1 [c0,c1,c2,c3,c4]))=some y1:=hg 1 _ rfl;have h2:DataW.trod enc Tryz.prog W 0 (λ_=>true) held n 23 (List.take (Tryz.prog.cellsOf 23) (List.drop 2 [c0,c1,c2,c3,c4]))=some y2:=hg 2 _ rfl;have h3:DataW.trod enc Tryz.prog W 0 (λ_=>true) held n 24 (List.take (Tryz.prog.cellsOf 24) (List.drop 3 [c0,c1,c2,c3,c4]))=some y3:=hg 3 _ rfl;have h4:DataW.trod enc Tryz.prog W 0 (λ_=>true) held n 9 (List.take (Tryz.prog.cellsOf 9) (List.drop 4 [c0,c1,c2,c3,c4]))=some y4:=hg 4 _ rfl;rw[hC0] at h0;obtain⟨f0,e0,_,_⟩:=DataW.trod_int Tryz.underlying3 (x:=y0) h0;rw[hC1] at h1;obtain⟨f1,e1⟩:=zb7 zaP Run.o (λ_=>rfl) Tryz.underlying22 (by kernel_rfl) znP (x:=y1) h1 (λp hp2=>hlt p (by rw[hp];simp[hp2]));rw[hC2] at h2;obtain⟨f2,e2⟩:=zb7 aRc Rc.o (λ_=>rfl) Tryz.underlying23 (by kernel_rfl) (λ_ _ _=>zsX) (x:=y2) h2 (λp hp2=>hlt p (by rw[hp];simp[hp2]));rw[hC3] at h3;obtain⟨f3,e3⟩:=zb7 aI 0 (λ_=>rfl) Tryz.underlying24 (by kernel_rfl) ztf (x:=y3) h3 (λp hp2=>hlt p (by rw[hp];simp[hp2]));rw[hC4] at h4;obtain⟨f4,e4,_,_⟩:=DataW.trod_string Tryz.underlying9 (x:=y4) h4;simp at e0;subst e0;simp at e4;subst e4;exact⟨⟨f0,f1,f2,f3,f4.data.toList⟩,Rzl.cons rfl (Rzl.cons (Rzl.head e1) (Rzl.cons (Rzl.head e2) (Rzl.cons (Rzl.head e3) (Rzl.cons rfl rfl))))⟩
theorem zmt {v:Value} {d:DataW H} {p:List MemPlace} {r:Reach} {b0:Nat} (hv:Value.okWide Tryz.prog W r b0 26 v) (h:DataW.Trod enc Tryz.prog W 0 (λ_=>true) held 26 v d p) (hlt:∀x∈p,x.block<W.heap.size):
  ∃a:Pt,Rz (zOf W) (zbF a) v:=by
 obtain⟨cs,rfl,hsz⟩:=okWide_struct Tryz.underlying26 hv;obtain⟨fuel,hf⟩:=h
 have hC:Tryz.prog.cellsOf 26=5:=by kernel_rfl
 rw[hC] at hsz;obtain⟨a,ha⟩:=zsY hf (by simpa[Value.cells] using hsz) hlt;exact⟨a,cs.toList,ha,by simp⟩
end
end Go.Proofs.YtgcjejajljhnaaaGreatDoor
abbrev yEY:=@Go.Ex.Rzl.cons
namespace Go
variable {H : Type} {enc : TypeId × Value -> H}
theorem returnsInHanded_of_change_both {a:Assume} {C:Checked} {os:Os} {f:FuncId} {fn:Func} {s:ChangeSpec} {conds:List PathCond} {apart fresh handsOn again:Bool} {X:World->Array Value->Prop}
  (hX:∀(w w':World) (args:Array Value),w.heap=w'.heap->X w args->X w' args)
  (own:ownKnob C.prog.godebug=none) (started:os.Started) (noInit:C.prog.inits.idxOf? f=none) (hfn:C.prog.funcs[f]? =some fn)
  (witness:∃(w:World) (tape:Tape) (i:Input),w.os=os/\(w.forCall tape i).Shaped C.prog/\i.vars=[]/\Input.okWide C.prog (w.forCall tape i) .any w.heap.size f i/\
   ((s.pre enc C.prog fn conds apart (w.forCall tape i).memory i.args/\X (w.forCall tape i).memory i.args)/\sizedMet enc C.prog fn (OpenSpec.ofChange s) apart (w.forCall tape i).memory i.args)/\a.holds C.prog (lone (Frame.enter C.prog f i.args .normal) [] (w.forCall tape i)))
  (contract:∀(W:World) (base:Nat) (args:Array Value) (ds gs:List (DataW H)) (before:List MemPlace),
   (∀(j:Nat) t v,fn.params[j]? =some t->args[j]? =some v->Value.okWide C.prog W .any base t v)->
   DataW.Whole enc C.prog fn.params.toList s.vars apart W args.toList ds gs before->
   conds.all (PathCond.test C.prog ⟨fn.params.toList,ds,s.plain.varTypes C.prog,gs⟩)=true->
   (DataW.weightsEach C.prog (fn.params.toList++s.plain.varTypes C.prog) (ds++gs)).all (·<=reachBytes)=true->X W args->W.ShapedOpen C.prog->
   a.holds C.prog (lone (Frame.enter C.prog f args .normal) [] W)->
   Calls C.prog f args W λe W'=>∃v,e= .returned v/\s.post enc C.prog fn apart fresh handsOn again W args v W'):
  ReturnsInHanded a C os f .any (λw args=>(s.pre enc C.prog fn conds apart w args/\X w args)/\sizedMet enc C.prog fn (OpenSpec.ofChange s) apart w args) (s.post enc C.prog fn apart fresh handsOn again):=by
 refine returnsInHanded_of_calls own started noInit witness ?_;intro w tape i _ hsh _ hok hpre hholds;obtain⟨_,_,_,fn',hfn',_,_,_,_,hval⟩:=hok;have e:fn'=fn:=yfZ (hfn'.symm.trans hfn);subst e;obtain⟨⟨⟨ds,gs,before,hw,hc⟩,hx⟩,hz⟩:=hpre;have hw':=DataW.Whole.of_heap (w':=w.forCall tape i) (by rfl) hw;refine(contract (w.forCall tape i) w.heap.size i.args ds gs before hval hw' hc (hz.weights hw) (hX _ _ _ (by rfl) hx) hsh hholds).mono λe W' ⟨v,he,hp⟩=> ?_;subst he;exact ChangeSpec.post_blind hp
end Go
namespace Go.Proofs.YtgcjejajljhnaaaGreatDoor
open Go.Ex
theorem zpH {W:World} (h2:laidMet Tryz.prog [("internal/strconv.uint64pow10",Rows.laid_internal_strconv_uint64pow10)] W):ztO W:=by
 have e0:Tryz.prog.globalNamed "internal/strconv.uint64pow10" =some 0:=by kernel_rfl
 have t0:(Tryz.prog.globals[0]?).map (·.type)=some 214:=by kernel_rfl
 have d0:(Rows.laid_internal_strconv_uint64pow10:DataW Unit)=Lib.tabData .u64 Lib.pow10Tab:=by kernel_rfl
 have h3:laidMet Tryz.prog [("internal/strconv.uint64pow10",Lib.tabData .u64 Lib.pow10Tab)] W:=by
  rw[←d0];exact h2
 exact zuO (Lib.tabIs_of_head (n:=20) (e:=196) e0 t0 (by kernel_rfl) (by kernel_rfl) (by kernel_rfl) (by kernel_rfl) h3)
end Go.Proofs.YtgcjejajljhnaaaGreatDoor
