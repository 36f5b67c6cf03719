/- Own text, part Rprt 11: walks of the package acl and of its reference, and the plain laws that they lean on; no statement of the seat is here. -/
import Derived.Test.YtgcjejajljhnaaaGreatDoorRprt1
import Derived.Test.YtgcjejajljhnaaaGreatDoorRprt10
import Derived.Test.YtgcjejajljhnaaaGreatDoorRprt8
import Derived.Test.YtgcjejajljhnaaaGreatDoorRprt9
import Derived.Test.YtgcjejajljhnaaaGreatDoorRprt5
set_option linter.all false
namespace Ck
open Go Go.Ex
theorem zo7 {s:Rp} (k:Nat) (hs:Rv s):Rv (zaa s k):=by
 unfold zaa;split
 ·rename_i hd;rw[zae] at hd;obtain⟨h1,h2,h3⟩:=zhX (i:=k) (es:=(s.rc k).es) (p:=s) _ (yhX _);dsimp only;refine(hs.of_v (by rw[h3])).setR k _ λhk=> ?_;rw[h3] at hk;rw[zae] at h1 h2⊢;rw[h3];exact(hs.at hk).ents hd _ (yBX h2 (hs.at hk).esm) λe he=>(hs.at hk).en e (h1 e he)
 ·exact hs
def eM (d:Nat) (x0:Rc) (s:Rp×List En) (m:Nat):Rp:=s.1.setR d {x0 with es:=s.2++x0.es.drop m}
theorem zq6 {α:Type} (p:α->Bool):∀(a b:List α) (i:Nat),ixL p (a++b) i=if a.any p then ixL p a i else ixL p b (i+a.length)
 |[],b,i=>rfl
 |x::a,b,i=>by
  by_cases h:p x=true
  ·show(if p x then(i:Int) else _)=if(x::a).any p then(if p x then(i:Int) else ixL p a (i+1)) else _
   rw[ygX h,ygX (by simp[h]),ygX h]
  ·have e:(x::a).any p=a.any p:=by simp[h]
   rw[e]
   show(if p x then(i:Int) else ixL p (a++b) (i+1))=if a.any p then(if p x then(i:Int) else ixL p a (i+1)) else ixL p b (i+(a.length+1))
   rw[yfX h,yfX h,zq6 p a b (i+1),show i+1+a.length=i+(a.length+1) by omega]
theorem zth (st rest:List En) (x:En):decide (ixL (λe=>same e.n x.n) (st++x::rest) 0=(st.length:Nat))= !st.any (λy=>same x.n y.n):=by
 have hc:(λe:En=>same e.n x.n)=λy=>same x.n y.n:=by funext y;exact zfa _ _
 rw[hc,zq6];cases h:st.any (λy=>same x.n y.n)
 ·rw[yfX (by simp)];unfold ixL;rw[ygX (zdT _),ylX];exact ybX rfl
 ·rw[ygX rfl];have:=(zui (λy:En=>same x.n y.n) st 0).2;exact ycX zo
theorem zra {p q:Rp} (h:p.v=q.v) (d:Int) (b:List En) (x:En):zdu p d b x=zdu q d b x:=by
 unfold zdu Rp.ref Rp.rc;rw[h]
theorem zkq {p:Rp} (hl:p.fl.length=p.fd.length) {k r i:Int} (hk:k<=7) (f:Int) (j:Nat):zcc {p.note k r i with fl:=setLast (p.note k r i).fl f} (j:Nat)=(zcc (p.note k r i) (j:Nat)||decide (f=(j:Nat))):=by
 have e1:at_ Fd.o (p.fd++[⟨k,r,i⟩]) p.fd.length=⟨k,r,i⟩:=by unfold at_;rw[yuX (yhX _),yQY];rfl
 have hsl:setLast (p.fl++[-1]) f=p.fl++[f]:=by
  unfold setLast;rw[yvX,List.set_append_right _ _ (by simp)];simp
 have e2:at_ 0 (p.fl++[f]) p.fd.length=f:=by unfold at_;rw[←hl,yuX (yhX _),yQY];rfl
 have e3:at_ 0 (p.fl++[-1]) p.fd.length= -1:=by unfold at_;rw[←hl,yuX (yhX _),yQY];rfl
 have e4:decide ((-1:Int)=(j:Nat))=false:=ycX zo
 have e5:∀g x,x<p.fd.length->at_ 0 (p.fl++[g]) x=at_ 0 p.fl x:=λg x hx=>by unfold at_;rw[yIX zo]
 unfold zcc Rp.note;simp only[hsl,yvX,yJZ,yUY,List.any_append,List.any_cons,List.any_nil,y3Y,e1,e2,e3,e4,ybX hk,y3X]
 have e6:((List.range p.fd.length).any λx=>decide ((at_ Fd.o (p.fd++[⟨k,r,i⟩]) x).k<=7)&&(decide ((at_ Fd.o (p.fd++[⟨k,r,i⟩]) x).r=(j:Nat))||decide (at_ (0:Int) (p.fl++[f]) x=(j:Nat))))=
   ((List.range p.fd.length).any λx=>decide ((at_ Fd.o (p.fd++[⟨k,r,i⟩]) x).k<=7)&&(decide ((at_ Fd.o (p.fd++[⟨k,r,i⟩]) x).r=(j:Nat))||decide (at_ (0:Int) (p.fl++[-1]) x=(j:Nat)))):=by
  rw[yhZ,yZY,yZY];constructor
  all_goals
   rintro⟨x,hx,h⟩;have hxl:=yBY.1 hx;refine⟨x,hx,?_⟩;rw[e5 _ x hxl] at h⊢;exact h
 rw[e6,Bool.or_assoc]
theorem ztE {n:Nat} {p:Rp} (hl:p.fl.length=p.fd.length) {k r i:Int} (hk:k<=7) {f:Int} (h0:0<=f):(cnL n (p.note k r i)).set f.toNat true=cnL n {p.note k r i with fl:=setLast (p.note k r i).fl f}:=by
 apply ykZ;intro j;unfold cnL;rw[List.getElem?_set,yuY,yuY];by_cases hj:j<n
 ·rw[yXZ hj,yyZ,yyZ,zkq hl hk];by_cases e:f.toNat=j
  ·rw[ygX e,ygX (by simp;omega),ybX (by omega:f=(j:Nat)),Bool.or_true]
  ·rw[yfX e,ycX (by omega:¬f=(j:Nat)),y3Y]
 ·rw[yyX (by simp;omega),Option.map_none];by_cases e:f.toNat=j
  ·rw[ygX e,yfX (by simp;omega)];rfl
  ·rw[yfX e];rfl
section
variable {d m : Nat} {q0 : Rp} {x0 : Rc} {s : Rp × List En}
theorem zyA (hv:s.1.v=q0.v) (hd:d<q0.v.rs.length):at_ Rc.o (eM d x0 s m).v.rs d={x0 with es:=s.2++x0.es.drop m}:=by
 show at_ Rc.o (s.1.v.rs.set d _) d=_;rw[zaj _ _ _ _ (by rw[hv];exact hd)]
theorem zvU (hv:s.1.v=q0.v) (hx:x0=at_ Rc.o q0.v.rs d):Kd q0 (eM d x0 s m):=by
 refine((Kd.refl q0).of_v (r:=s.1) hv).setR d _ ?_;rw[hv,hx];exact⟨rfl,rfl,rfl⟩
theorem zlz (hv:s.1.v=q0.v):(eM d x0 s m).v.rs.length=q0.v.rs.length:=by show(s.1.v.rs.set d _).length=_;rw[yoX,hv]
theorem zrz {Q:Rp} (hQ:eM d x0 s m=Q) (hv:s.1.v=q0.v):Q.v.rs.length=q0.v.rs.length:=by rw[←hQ];exact zlz hv
theorem zyz (hv:s.1.v=q0.v) (hx:x0=at_ Rc.o q0.v.rs d) (j:Nat):(at_ Rc.o (eM d x0 s m).v.rs j).ns=(at_ Rc.o q0.v.rs j).ns:=by
 show(at_ Rc.o (s.1.v.rs.set d _) j).ns=_;rw[zb0,hv];split
 ·rename_i h;rw[←h.1,hx]
 ·rfl
theorem ztn (hv:s.1.v=q0.v) (hx:x0=at_ Rc.o q0.v.rs d) (r:Ref):right (eM d x0 s m).v r=right q0.v r:=(zvU hv hx).right (zlz hv) r
theorem zxA (hv:s.1.v=q0.v) (hx:x0=at_ Rc.o q0.v.rs d) (i:Int):(eM d x0 s m).ref i=q0.ref i:=(zvU hv hx).ref i
theorem zvS (hx:x0=at_ Rc.o q0.v.rs d) (hd:d<q0.v.rs.length):eM d x0 (q0,[]) 0=q0:=by
 unfold eM Rp.setR;have:({x0 with es:=[]++x0.es.drop 0}:Rc)=x0:=rfl;simp only[this];rw[hx,zgM _ _ hd]
theorem zvT (hk:m<x0.es.length):eM d x0 (s.1,s.2++[at_ En.o x0.es m]) (m+1)=eM d x0 s m:=by
 unfold eM;rw[drop_at En.o x0.es m hk,yVX];rfl
theorem zxC (k:Int):((eM d x0 s m).note 3 d k).setR d {x0 with es:=s.2++x0.es.drop (m+1)}=eM d x0 (s.1.note 3 d k,s.2) (m+1):=by
 unfold eM Rp.note Rp.setR;dsimp only;rw[List.set_set]
theorem zxB (k f:Int):({(eM d x0 s m).note 3 d k with fl:=setLast ((eM d x0 s m).note 3 d k).fl f}:Rp).setR d {x0 with es:=s.2++x0.es.drop (m+1)}=eM d x0 ({s.1.note 3 d k with fl:=setLast (s.1.note 3 d k).fl f},s.2) (m+1):=by
 unfold eM Rp.note Rp.setR;dsimp only;rw[List.set_set]
end
def zu1 (p:Rp) (f:Int):Rp:={p with fl:=setLast p.fl f}
end Ck
namespace Go.Proofs.YtgcjejajljhnaaaGreatDoor
open Go.Ex Ck
set_option maxRecDepth 100000
set_option maxHeartbeats 16000000
theorem zoG (n:Nat) (p:Ck.Rp) (hf:Rk n p) (hrv:Rv p) (hn:n<=96) (hb:p.fd.length<=100000):HG Tryz.prog 2 20 220 69 [.agg (rV n 20 0 1 p)] (gP false (nf p)) [.row (flatI (rcP false 20) 0 (p).v.rs) 66 10, .row ((cnL n (p)).map bb) 4 0] (.agg (rV n 20 0 1 (badEntries p)))
  (gP false (nf (badEntries p))) [.row (flatI (rcP false 20) 0 ((badEntries p)).v.rs) 66 10, .row ((cnL n ((badEntries p))).map bb) 4 0]:=by
 have h96:p.v.rs.length<=96:=by rw[hf.rf.n];exact hn
 obtain⟨B,hB⟩:∃B,B=1000:=⟨_,rfl⟩
 refine HG.of zal zo ?_;refine Ex.go ?_;refine Ex.wl n (λd=>zag [(1, .ptr 2 0),(2, .ptr 3 0),(3,ib d)] 115) (λd=>zaw 20 220 (gP false (nf (it zaa p d))) [.row (flatI (rcP false 20) 0 (it zaa p d).v.rs) 66 10, .row ((cnL n (it zaa p d)).map bb) 4 0, .row (rV n 20 0 1 (it zaa p d)) 53 0, .row zkw 53 0]) ?_ ?_
 ·exact Ex.wG [0,1,220,221] [] [] ⟨rQ h96,bR,bV,aR,zT⟩
 intro d hd;obtain⟨h1,h2⟩:=zdy hB hf d hd;have hrq:Rv (it zaa p d):=za4 (I:=λq:Rp=>Rv q) (λs i hs=>zo7 i hs) hrv d;have hst:it zaa p (d+1)=zaa (it zaa p d) d:=rfl
 have hfin:d=n->it zaa p d=badEntries p:=λe=>by rw[e,←hf.rf.n];rfl
 have hmul:d*B<=96*B:=yEX _ zo
 generalize it zaa p d=q0 at*
 have hqn0:q0.v.rs.length=n:=h1.rf.n;have hq96:q0.v.rs.length<=96:=zo;by_cases h:d<n
 ·have hltq:d<q0.v.rs.length:=zo;have hd96:d<96:=zo
  have hd0:(0:Int)<=(d:Nat)/\((d:Nat):Int)<(n:Nat):=⟨zo,zo⟩
  have hoff9:0+((d:Nat):Int).toNat*10+9=d*10+9:=by simp
  obtain⟨ob,hob⟩:∃b,dir (at_ Rc.o q0.v.rs d)=b:=⟨_,rfl⟩
  have hD:=zqt q0.v d hltq zo hob;cases ob
  ·have hls:zaa q0 d=q0:=by unfold zaa;rw[zae,hob];rfl
   (conv=>whnf);repeat(first|refine Ck.lV q0 (hD) hq96 hqn0.symm (Wzc (ydX rfl) Wzn) ?_|refine Ex.g ?_|refine Ex.om ?_);conv=>whnf
   refine⟨d+1,zo,by dsimp only;omega,?_⟩;dsimp only;rw[hst,hls];exact Ex.wG [0,1,2,3] [] [] ⟨rQ hq96,bR,bV,aR,zT⟩
  ·(conv=>whnf);repeat(first|refine Ck.lV q0 (hD) hq96 hqn0.symm (Wzc (ydX rfl) Wzn) ?_|refine Ex.g ?_|refine Ex.om ?_);conv=>whnf
   obtain⟨x0,hx0⟩:∃x0,x0=at_ Rc.o q0.v.rs d:=⟨_,rfl⟩
   have hrx:RecOk (d:Nat) x0:=by rw[hx0];exact hrq.at hltq
   have hxl:x0.es.length<=1000:=by rw[hx0];exact(h1.at h).2.1.1
   have hls:zaa q0 d=eM d x0 (it (entryStep d x0.es) (q0,[]) x0.es.length) x0.es.length:=by
    unfold zaa eM;rw[zae,hob,ygX rfl,←hx0];dsimp only;have hv:=(zey (i:=d) (es:=x0.es) (q:=q0) h1.rf.fl x0.es.length (yhX _)).1;rw[zae,hv,←hx0,y9X,yKX]
   have hz0:eM d x0 (q0,[]) 0=q0:=zvS hx0 hltq;refine Ex.wl x0.es.length (λm=>zag [(1, .ptr 2 0),(2, .ptr 3 0),(3,ib d),(4,ib (it (entryStep d x0.es) (q0,[]) m).2.length)] 115) (λm=>zaw 20 220 (gP false (nf (eM d x0 (it (entryStep d x0.es) (q0,[]) m) m))) [.row (flatI (rcP false 20) 0 (eM d x0 (it (entryStep d x0.es) (q0,[]) m) m).v.rs) 66 10, .row ((cnL n (eM d x0 (it (entryStep d x0.es) (q0,[]) m) m)).map bb) 4 0, .row (rV n 20 0 1 (eM d x0 (it (entryStep d x0.es) (q0,[]) m) m)) 53 0, .row zkw 53 0]) ?_ ?_
   ·rw[show it (entryStep d x0.es) (q0,[]) 0=(q0,[]) from rfl,hz0];exact Ex.wG [0,1,2,3] [] [] ⟨rQ hq96,bR,bV,aR,zT⟩
   intro m hm;obtain⟨g1,g2,g3,g4,g5⟩:=zey (i:=d) (es:=x0.es) (q:=q0) h1.rf.fl m hm;have hst2:it (entryStep d x0.es) (q0,[]) (m+1)=entryStep d x0.es (it (entryStep d x0.es) (q0,[]) m) m:=rfl
   have hfin2:m=x0.es.length->eM d x0 (it (entryStep d x0.es) (q0,[]) m) m=zaa q0 d:=λe=>by rw[hls,e]
   generalize it (entryStep d x0.es) (q0,[]) m=s at*
   have hQat:=zyA (m:=m) (x0:=x0) g1 hltq;have hQlen:(eM d x0 s m).v.rs.length=n:=(zlz g1).trans hqn0;have hQns:=zyz (m:=m) g1 hx0;have hQr:=ztn (m:=m) g1 hx0;have hQref:=zxA (m:=m) g1 hx0;have hQfl:(eM d x0 s m).fl.length=(eM d x0 s m).fd.length:=g2;have hQfd:(eM d x0 s m).fd.length<=q0.fd.length+m:=g3;have hgo1:=zxC (d:=d) (m:=m) (x0:=x0) (s:=s) (s.2.length:Nat);have hgo2:=λf=>zxB (d:=d) (m:=m) (x0:=x0) (s:=s) (s.2.length:Nat) f;have hkeep:=λh=>zvT (d:=d) (m:=m) (x0:=x0) (s:=s) h
   have hsm:∀(hk:m<x0.es.length),s.2++x0.es.drop m=s.2++at_ En.o x0.es m::x0.es.drop (m+1):=λhk=>by rw[drop_at En.o x0.es m hk]
   have hLl:(s.2++x0.es.drop m).length=s.2.length+(x0.es.length-m):=by simp
   have hLn:∀e∈s.2++x0.es.drop m,zau e.n=0:=λe he=>by
    have:e∈x0.es:=by
     rcases yRX.1 he with he|he
     ·exact g5 e he
     ·exact List.mem_of_mem_drop he
    exact(zbv (hrx.en e this)).1
   obtain⟨L,hL⟩:∃L,s.2++x0.es.drop m=L:=⟨_,rfl⟩
   obtain⟨Q,hQ⟩:∃Q,eM d x0 s m=Q:=⟨_,rfl⟩
   rw[hL] at hQat hLl hLn hsm;rw[hQ] at hQat hQlen hQns hQr hQref hQfl hQfd hgo1 hgo2 hkeep hfin2⊢;have hQ96:Q.v.rs.length<=96:=zo;have hQd:d<Q.v.rs.length:=zo
   have hes:(at_ Rc.o Q.v.rs d).es=L:=by rw[hQat]
   by_cases hkl:m<x0.es.length
   ·obtain⟨x,hx⟩:∃x,at_ En.o x0.es m=x:=⟨_,rfl⟩
    have hLx:L=s.2++x::x0.es.drop (m+1):=by rw[hsm hkl,hx]
    have hkx:s.2.length<(at_ Rc.o Q.v.rs d).es.length:=by rw[hes,hLx];simp
    have hatx:at_ En.o (at_ Rc.o Q.v.rs d).es s.2.length=x:=by rw[hes,hLx];unfold at_;simp
    have hne:(at_ Rc.o Q.v.rs d).es≠[]:=λe=>by rw[e] at hkx;exact absurd hkx (ypX _)
    have e1:∀A,seE A d (at_ Rc.o Q.v.rs d)= .so (fam A (2*d+1)) 0 (at_ Rc.o Q.v.rs d).es.length 0:=λA=>zbB hne;have hge:gP false (nf Q) (2*d+1)=some (.row ((at_ Rc.o Q.v.rs d).es.flatMap aEn) 73 4):=zfA (p:=nf Q) hQd hd96 hne;have h9:2*d+1<220-20:=zo
    have hoffk:0+((s.2.length:Nat):Int).toNat*4=s.2.length*4:=by simp
    have hk0:(0:Int)<=(s.2.length:Nat)/\((s.2.length:Nat):Int)<((at_ Rc.o Q.v.rs d).es.length:Nat):=⟨zo,zo⟩
    have hki:((s.2.length:Nat):Int)<((at_ Rc.o Q.v.rs d).es.length:Nat):=hk0.2
    have hxm:x∈x0.es:=by rw[←hx];exact at_mem En.o x0.es m hkl
    obtain⟨hxn,hxr,_⟩:=zbv (hrx.en x hxm)
    have hxr0:0<=x.f.r:=by
     unfold zaJ at hxr;split at hxr
     ·rename_i hw;simp[wi] at hw;omega
     ·cases hxr
    have hAt:=zoJ Q.v d x.n hQd (by rw[hes];omega) (by rw[hes];exact hLn) hxn;rw[hes] at hAt;have hb1:=zth s.2 (x0.es.drop (m+1)) x;rw[←hLx] at hb1
    obtain⟨I,hI⟩:∃I,ixL (λe=>Ck.same e.n x.n) L 0=I:=⟨_,rfl⟩
    rw[hI] at hAt hb1
    obtain⟨b3,hb3⟩:∃b,right Q.v x.f=b:=⟨_,rfl⟩
    have hR:=zfi Q.v x.f zo hb3;rw[hQr] at hb3;have hRf:=zic Q.v d hQd;have hxi:((x.f.r.toNat:Nat):Int)=x.f.r:=yWY hxr0
    have hRn:(⟨(d:Nat),(at_ Rc.o Q.v.rs d).q⟩:Ref)=q0.ref d:=by rw[←hQref d];unfold Rp.ref Rp.rc;rfl
    rw[hRn] at hRf
    obtain⟨b4,hb4⟩:∃b,(at_ Rc.o Q.v.rs x.f.r.toNat).ns.contains ⟨q0.ref d,x.n⟩=b:=⟨_,rfl⟩
    have hH:x.f.r.toNat<Q.v.rs.length->PureC Tryz.prog 123 [zbF Q.v,ib x.f.r, .agg (ze1 (q0.ref d)),tb x.n] (bb b4):=λhl=>by
     have hh:=zt7 Q.v x.f.r.toNat (q0.ref d) x.n hl (by rw[hQns];have:=(h1.na.ns_at x.f.r.toNat).1;omega) hb4;rw[hxi] at hh;exact hh
    have hisE:zdu s.1 d s.2 x=(decide (I=(s.2.length:Nat))&&b3&&decide (16<=x.f.r)&&b4):=by
     rw[zra g1,hb1,←hb3,←hb4,hQns];rfl
    have hsx:entryStep d x0.es s m=if zdu s.1 d s.2 x then(s.1,s.2++[x]) else(if x.f.r<s.1.v.rs.length/\(s.1.rc x.f.r).q=x.f.q then{s.1.note 3 d s.2.length with fl:=setLast (s.1.note 3 d s.2.length).fl x.f.r} else s.1.note 3 d s.2.length,s.2):=by
     unfold entryStep;rw[hx];rfl
    obtain⟨b1,hbI⟩:∃b,decide (I=(s.2.length:Nat))=b:=⟨_,rfl⟩
    obtain⟨b2,hbr⟩:∃b,decide (16<=x.f.r)=b:=⟨_,rfl⟩
    rw[hbI,hbr] at hisE;by_cases hgood:zdu s.1 d s.2 x=true
    ·have hstay:eM d x0 (entryStep d x0.es s m) (m+1)=Q:=by
      rw[hsx,ygX hgood,←hx];exact hkeep hkl
     have hlen2:(entryStep d x0.es s m).2.length=s.2.length+1:=by rw[hsx,ygX hgood];simp
     rw[hgood] at hisE;simp only[eq_comm (a:=true),ykX] at hisE;obtain⟨⟨⟨rfl,rfl⟩,rfl⟩,rfl⟩:=hisE
     have hxl2:x.f.r.toNat<Q.v.rs.length:=by rw[zrz hQ g1];exact(right_in hb3).2.1
     have hH:=hH hxl2
     (conv=>whnf);repeat(first|refine Need.mk ?_ ?_;(focus(first|exact hd0|exact hk0))|refine RK.of (zam (zab false 20) Rc.o (k:=9) hoff9 rfl rfl hQd (by decide) rfl) ?_|rw[e1]|refine KIf.t (ybX hki) ?_|refine KIf.t (hbI) ?_|refine KIf.t (hbr) ?_|refine RK.of (zcP (enc:=aEn) (sz:=4) (λ_=>rfl) En.o hoffk rfl ((zah h9).trans hge) hkx) ?_|rw[hatx]|refine Ck.lD Q (hAt) hQ96 hQlen.symm (Wzc (ydX rfl) (Wzc (ydX rfl) Wzn)) ?_|refine Ck.lD Q (hR) hQ96 hQlen.symm (Wzc (ydX rfl) Wzn) ?_|refine Ck.lD Q (hRf) hQ96 hQlen.symm (Wzc (ydX rfl) Wzn) ?_|refine Ck.lD Q (hH) hQ96 hQlen.symm (Wzc (ydX rfl) (Wzc (ydX rfl) (Wzc (ydX rfl) Wzn))) ?_|refine Ex.g ?_);conv=>whnf
     refine⟨m+1,zo,by dsimp only;omega,?_⟩;dsimp only;rw[hst2,hstay,hlen2];exact Ex.wG [0,1,2,3] [] [] ⟨rQ hQ96,bR,bV,aR,zT⟩
    ·have hbad:b1=false∨(b1=true/\b2=false)∨(b1=true/\b2=true/\b3=false)∨(b1=true/\b2=true/\b3=true/\b4=false):=by
      rw[hisE] at hgood;cases b1<;>cases b2<;>cases b3<;>cases b4<;>simp at hgood⊢
     have hNo:=zcM n Q 3 d (s.2.length:Nat) hQlen hn hQfl zo zo
     have hcq:(s.1.rc x.f.r).q=(at_ Rc.o Q.v.rs x.f.r.toNat).q:=by
      have:=(zvU (m:=m) g1 hx0 x.f.r.toNat).2.2;rw[hQ] at this;rw[this];unfold Rp.rc rc;rw[g1]
     have hsl:s.1.v.rs.length=n:=by rw[g1];exact hqn0
     obtain⟨es',hes'⟩:∃es',s.2++x0.es.drop (m+1)=es':=⟨_,rfl⟩
     rw[hes'] at hgo1 hgo2
     have hcut:(at_ Rc.o Q.v.rs d).es.take s.2.length++(at_ Rc.o Q.v.rs d).es.drop (s.2.length+1)=es':=by
      rw[hes,hLx,←hes',List.take_left,yOZ];simp
     have hY:({at_ Rc.o Q.v.rs d with es:=es'}:Rc)={x0 with es:=es'}:=by rw[hQat]
     have hLle:(at_ Rc.o Q.v.rs d).es.length<=100000:=by rw[hes];omega
     have hRe1:=zcu n (Q.note 3 d s.2.length) d s.2.length es' hQlen hn h hkx hLle hcut;have hRe2:=zcu n (zu1 (Q.note 3 d s.2.length) x.f.r) d s.2.length es' hQlen hn h hkx hLle hcut
     have hZ1:(Q.note 3 d s.2.length).setR d {at_ Rc.o (Q.note 3 d s.2.length).v.rs d with es:=es'}=eM d x0 (s.1.note 3 d s.2.length,s.2) (m+1):=by rw[←hgo1,←hY];rfl
     have hZ2:(zu1 (Q.note 3 d s.2.length) x.f.r).setR d {at_ Rc.o (zu1 (Q.note 3 d s.2.length) x.f.r).v.rs d with es:=es'}=eM d x0 ({s.1.note 3 d s.2.length with fl:=setLast (s.1.note 3 d s.2.length).fl x.f.r},s.2) (m+1):=by rw[←hgo2,←hY];rfl
     rw[hZ1] at hRe1;rw[hZ2] at hRe2;have hz1:(eM d x0 (s.1.note 3 d s.2.length,s.2) (m+1)).v.rs.length<=96:=yBX (Nat.le_of_eq (zlz (s:=(s.1.note 3 d s.2.length,s.2)) (q0:=q0) g1)) hq96;have hz2:(eM d x0 ({s.1.note 3 d s.2.length with fl:=setLast (s.1.note 3 d s.2.length).fl x.f.r},s.2) (m+1)).v.rs.length<=96:=yBX (Nat.le_of_eq (zlz (s:=({s.1.note 3 d s.2.length with fl:=setLast (s.1.note 3 d s.2.length).fl x.f.r},s.2)) (q0:=q0) g1)) hq96;have hcl:=ztE (n:=n) hQfl (k:=3) (r:=d) (i:=(s.2.length:Nat)) zo hxr0
     have hc3:¬x.f.r<n∨(x.f.r<n/\¬(at_ Rc.o Q.v.rs x.f.r.toNat).q=x.f.q)∨(x.f.r<n/\(at_ Rc.o Q.v.rs x.f.r.toNat).q=x.f.q):=by
      by_cases c1:x.f.r<n
      ·by_cases c2:(at_ Rc.o Q.v.rs x.f.r.toNat).q=x.f.q
       ·exact .inr (.inr ⟨c1,c2⟩)
       ·exact .inr (.inl ⟨c1,c2⟩)
      ·exact .inl c1
     have hoffq:0+x.f.r.toNat*10+1=x.f.r.toNat*10+1:=zo
     rcases hc3 with hc1|⟨hc1,hc2⟩|⟨hc1,hc2⟩
     ·have hnx:entryStep d x0.es s m=(s.1.note 3 d s.2.length,s.2):=by rw[hsx,yfX hgood,yfX (by rw[hsl];exact λc=>hc1 c.1)]
      generalize hZe:eM d x0 (s.1.note 3 d s.2.length,s.2) (m+1)=Z at*
      have hxc:(0:Int)<=(d:Nat)/\((d:Nat):Int)<(n:Nat):=hd0
      rcases hbad with rfl|⟨rfl,rfl⟩|⟨rfl,rfl,rfl⟩|⟨rfl,rfl,rfl,rfl⟩
      rotate_left 3
      ·have hH:=hH (by rw[hQlen,←hqn0];exact(right_in hb3).2.1)
       (conv=>whnf);repeat(first|refine Need.mk ?_ ?_;(focus(first|exact hd0|exact hk0))|refine RK.of (zam (zab false 20) Rc.o (k:=9) hoff9 rfl rfl hQd (by decide) rfl) ?_|rw[e1]|refine KIf.t (ybX hki) ?_|refine KIf.t (hbI) ?_|refine KIf.t (hbr) ?_|refine RK.of (zcP (enc:=aEn) (sz:=4) (λ_=>rfl) En.o hoffk rfl ((zah h9).trans hge) hkx) ?_|rw[hatx]|refine Ck.lD Q (hAt) hQ96 hQlen.symm (Wzc (ydX rfl) (Wzc (ydX rfl) Wzn)) ?_|refine Ck.lD Q (hR) hQ96 hQlen.symm (Wzc (ydX rfl) Wzn) ?_|refine Ck.lD Q (hRf) hQ96 hQlen.symm (Wzc (ydX rfl) Wzn) ?_|refine Ck.lD Q (hH) hQ96 hQlen.symm (Wzc (ydX rfl) (Wzc (ydX rfl) (Wzc (ydX rfl) Wzn))) ?_|refine Ck.cV (p':=(Q.note 3 d s.2.length)) (hNo) hQ96 hQ96 (WL.sc rfl (WL.sc rfl (WL.sc rfl yMX))) ?_|refine ygY (rV n 221 0 1 (Q.note 3 d s.2.length)) ?_|refine KIf.f (ycX hc1) ?_|refine Ck.cV (p':=Z) (hRe1) hQ96 hz1 (WL.sc rfl (WL.sc rfl yMX)) ?_|refine ygY (rV n 439 0 1 Z) ?_|refine Ex.g ?_);conv=>whnf
       refine⟨m+1,zo,by dsimp only;omega,?_⟩;dsimp only;rw[hst2,hnx,hZe];exact Ex.wG [0,1,2,3] [] [] ⟨rQ hz1,bR,bV,aR,zT⟩
      all_goals
       (conv=>whnf);repeat(first|refine Need.mk ?_ ?_;(focus(first|exact hd0|exact hk0))|refine RK.of (zam (zab false 20) Rc.o (k:=9) hoff9 rfl rfl hQd (by decide) rfl) ?_|rw[e1]|refine KIf.t (ybX hki) ?_|refine KIf.t (hbI) ?_|refine KIf.t (hbr) ?_|refine KIf.f (hbI) ?_|refine KIf.f (hbr) ?_|refine RK.of (zcP (enc:=aEn) (sz:=4) (λ_=>rfl) En.o hoffk rfl ((zah h9).trans hge) hkx) ?_|rw[hatx]|refine Ck.lD Q (hAt) hQ96 hQlen.symm (Wzc (ydX rfl) (Wzc (ydX rfl) Wzn)) ?_|refine Ck.lD Q (hR) hQ96 hQlen.symm (Wzc (ydX rfl) Wzn) ?_|refine Ck.cV (p':=(Q.note 3 d s.2.length)) (hNo) hQ96 hQ96 (WL.sc rfl (WL.sc rfl (WL.sc rfl yMX))) ?_|refine ygY (rV n 221 0 1 (Q.note 3 d s.2.length)) ?_|refine KIf.f (ycX hc1) ?_|refine Ck.cV (p':=Z) (hRe1) hQ96 hz1 (WL.sc rfl (WL.sc rfl yMX)) ?_|refine ygY (rV n 439 0 1 Z) ?_|refine Ex.g ?_);conv=>whnf
       refine⟨m+1,zo,by dsimp only;omega,?_⟩;dsimp only;rw[hst2,hnx,hZe];exact Ex.wG [0,1,2,3] [] [] ⟨rQ hz1,bR,bV,aR,zT⟩
     ·have hnx:entryStep d x0.es s m=(s.1.note 3 d s.2.length,s.2):=by rw[hsx,yfX hgood,yfX (by rw[hcq];exact λc=>hc2 c.2)]
      generalize hZe:eM d x0 (s.1.note 3 d s.2.length,s.2) (m+1)=Z at*
      have hxc:(0:Int)<=x.f.r/\x.f.r<(n:Nat):=⟨hxr0,hc1⟩
      have hltx:x.f.r.toNat<(Q.note 3 d s.2.length).v.rs.length:=by show x.f.r.toNat<Q.v.rs.length;omega
      rcases hbad with rfl|⟨rfl,rfl⟩|⟨rfl,rfl,rfl⟩|⟨rfl,rfl,rfl,rfl⟩
      rotate_left 3
      ·have hH:=hH (by rw[hQlen,←hqn0];exact(right_in hb3).2.1)
       (conv=>whnf);repeat(first|refine Need.mk ?_ ?_;(focus(first|exact hd0|exact hk0|exact hxc))|refine RK.of (zam (zab false 20) Rc.o (k:=9) hoff9 rfl rfl hQd (by decide) rfl) ?_|rw[e1]|refine KIf.t (ybX hki) ?_|refine KIf.t (hbI) ?_|refine KIf.t (hbr) ?_|refine RK.of (zcP (enc:=aEn) (sz:=4) (λ_=>rfl) En.o hoffk rfl ((zah h9).trans hge) hkx) ?_|rw[hatx]|refine Ck.lD Q (hAt) hQ96 hQlen.symm (Wzc (ydX rfl) (Wzc (ydX rfl) Wzn)) ?_|refine Ck.lD Q (hR) hQ96 hQlen.symm (Wzc (ydX rfl) Wzn) ?_|refine Ck.lD Q (hRf) hQ96 hQlen.symm (Wzc (ydX rfl) Wzn) ?_|refine Ck.lD Q (hH) hQ96 hQlen.symm (Wzc (ydX rfl) (Wzc (ydX rfl) (Wzc (ydX rfl) Wzn))) ?_|refine Ck.cV (p':=(Q.note 3 d s.2.length)) (hNo) hQ96 hQ96 (WL.sc rfl (WL.sc rfl (WL.sc rfl yMX))) ?_|refine ygY (rV n 221 0 1 (Q.note 3 d s.2.length)) ?_|refine KIf.t (ybX hc1) ?_|refine RK.of (zam (zab false 221) Rc.o (k:=1) hoffq rfl rfl hltx (by decide) rfl) ?_|refine KIf.f (ycX hc2) ?_|refine Ck.cV (p':=Z) (hRe1) hQ96 hz1 (WL.sc rfl (WL.sc rfl yMX)) ?_|refine ygY (rV n 439 0 1 Z) ?_|refine Ex.g ?_);conv=>whnf
       refine⟨m+1,zo,by dsimp only;omega,?_⟩;dsimp only;rw[hst2,hnx,hZe];exact Ex.wG [0,1,2,3] [] [] ⟨rQ hz1,bR,bV,aR,zT⟩
      all_goals
       (conv=>whnf);repeat(first|refine Need.mk ?_ ?_;(focus(first|exact hd0|exact hk0|exact hxc))|refine RK.of (zam (zab false 20) Rc.o (k:=9) hoff9 rfl rfl hQd (by decide) rfl) ?_|rw[e1]|refine KIf.t (ybX hki) ?_|refine KIf.t (hbI) ?_|refine KIf.t (hbr) ?_|refine KIf.f (hbI) ?_|refine KIf.f (hbr) ?_|refine RK.of (zcP (enc:=aEn) (sz:=4) (λ_=>rfl) En.o hoffk rfl ((zah h9).trans hge) hkx) ?_|rw[hatx]|refine Ck.lD Q (hAt) hQ96 hQlen.symm (Wzc (ydX rfl) (Wzc (ydX rfl) Wzn)) ?_|refine Ck.lD Q (hR) hQ96 hQlen.symm (Wzc (ydX rfl) Wzn) ?_|refine Ck.cV (p':=(Q.note 3 d s.2.length)) (hNo) hQ96 hQ96 (WL.sc rfl (WL.sc rfl (WL.sc rfl yMX))) ?_|refine ygY (rV n 221 0 1 (Q.note 3 d s.2.length)) ?_|refine KIf.t (ybX hc1) ?_|refine RK.of (zam (zab false 221) Rc.o (k:=1) hoffq rfl rfl hltx (by decide) rfl) ?_|refine KIf.f (ycX hc2) ?_|refine Ck.cV (p':=Z) (hRe1) hQ96 hz1 (WL.sc rfl (WL.sc rfl yMX)) ?_|refine ygY (rV n 439 0 1 Z) ?_|refine Ex.g ?_);conv=>whnf
       refine⟨m+1,zo,by dsimp only;omega,?_⟩;dsimp only;rw[hst2,hnx,hZe];exact Ex.wG [0,1,2,3] [] [] ⟨rQ hz1,bR,bV,aR,zT⟩
     ·have hnx:entryStep d x0.es s m=({s.1.note 3 d s.2.length with fl:=setLast (s.1.note 3 d s.2.length).fl x.f.r},s.2):=by rw[hsx,yfX hgood,ygX ⟨by rw[hsl];exact hc1,by rw[hcq];exact hc2⟩]
      generalize hZe:eM d x0 ({s.1.note 3 d s.2.length with fl:=setLast (s.1.note 3 d s.2.length).fl x.f.r},s.2) (m+1)=Z at*
      have hxc:(0:Int)<=x.f.r/\x.f.r<(n:Nat):=⟨hxr0,hc1⟩
      have hltx:x.f.r.toNat<(Q.note 3 d s.2.length).v.rs.length:=by show x.f.r.toNat<Q.v.rs.length;omega
      have hoffc:0+x.f.r.toNat*1=x.f.r.toNat:=zo
      have hjc:x.f.r.toNat<(cnL n (Q.note 3 d s.2.length)).length:=by rw[ze0];omega
      rcases hbad with rfl|⟨rfl,rfl⟩|⟨rfl,rfl,rfl⟩|⟨rfl,rfl,rfl,rfl⟩
      rotate_left 3
      ·have hH:=hH (by rw[hQlen,←hqn0];exact(right_in hb3).2.1)
       (conv=>whnf);repeat(first|refine Need.mk ?_ ?_;(focus(first|exact hd0|exact hk0|exact hxc))|refine RK.of (zam (zab false 20) Rc.o (k:=9) hoff9 rfl rfl hQd (by decide) rfl) ?_|rw[e1]|refine KIf.t (ybX hki) ?_|refine KIf.t (hbI) ?_|refine KIf.t (hbr) ?_|refine RK.of (zcP (enc:=aEn) (sz:=4) (λ_=>rfl) En.o hoffk rfl ((zah h9).trans hge) hkx) ?_|rw[hatx]|refine Ck.lD Q (hAt) hQ96 hQlen.symm (Wzc (ydX rfl) (Wzc (ydX rfl) Wzn)) ?_|refine Ck.lD Q (hR) hQ96 hQlen.symm (Wzc (ydX rfl) Wzn) ?_|refine Ck.lD Q (hRf) hQ96 hQlen.symm (Wzc (ydX rfl) Wzn) ?_|refine Ck.lD Q (hH) hQ96 hQlen.symm (Wzc (ydX rfl) (Wzc (ydX rfl) (Wzc (ydX rfl) Wzn))) ?_|refine Ck.cV (p':=(Q.note 3 d s.2.length)) (hNo) hQ96 hQ96 (WL.sc rfl (WL.sc rfl (WL.sc rfl yMX))) ?_|refine ygY (rV n 221 0 1 (Q.note 3 d s.2.length)) ?_|refine KIf.t (ybX hc1) ?_|refine RK.of (zam (zab false 221) Rc.o (k:=1) hoffq rfl rfl hltx (by decide) rfl) ?_|refine KIf.t (ybX hc2) ?_|refine ytY bb true rfl hoffc rfl rfl rfl rfl rfl hjc ?_|refine ypY [0,1] (.agg (rV n 439 0 1 (Z))) [.row (flatI (rcP false 439) 0 (Z).v.rs) 66 10, .row ((cnL n (Z)).map bb) 4 0] (hRe2) (⟨rF FR.G hQ96,⟨rfl,rfl, .same (yqX (List.map bb) hcl.symm) (zaF _)⟩,zT⟩) (⟨⟨rfl,rfl, .inl (zaE hz2)⟩,⟨rfl,rfl, .inr ⟨rfl,zaF _⟩⟩,zT⟩) ?_ (hargs:=by((exact ywX (za2 (zdN FR.G ⟨rfl,rfl⟩ ⟨rfl,rfl⟩)) (WL.sc rfl (WL.sc rfl yMX))))) (h1:=(zdC (zdq FN.G rfl rfl)))|refine ygY (rV n 439 0 1 Z) ?_|refine Ex.g ?_);conv=>whnf
       refine⟨m+1,zo,by dsimp only;omega,?_⟩;dsimp only;rw[hst2,hnx,hZe];exact Ex.wG [0,1,2,3] [] [] ⟨rQ hz2,bR,bV,aR,zT⟩
      all_goals
       (conv=>whnf);repeat(first|refine Need.mk ?_ ?_;(focus(first|exact hd0|exact hk0|exact hxc))|refine RK.of (zam (zab false 20) Rc.o (k:=9) hoff9 rfl rfl hQd (by decide) rfl) ?_|rw[e1]|refine KIf.t (ybX hki) ?_|refine KIf.t (hbI) ?_|refine KIf.t (hbr) ?_|refine KIf.f (hbI) ?_|refine KIf.f (hbr) ?_|refine RK.of (zcP (enc:=aEn) (sz:=4) (λ_=>rfl) En.o hoffk rfl ((zah h9).trans hge) hkx) ?_|rw[hatx]|refine Ck.lD Q (hAt) hQ96 hQlen.symm (Wzc (ydX rfl) (Wzc (ydX rfl) Wzn)) ?_|refine Ck.lD Q (hR) hQ96 hQlen.symm (Wzc (ydX rfl) Wzn) ?_|refine Ck.cV (p':=(Q.note 3 d s.2.length)) (hNo) hQ96 hQ96 (WL.sc rfl (WL.sc rfl (WL.sc rfl yMX))) ?_|refine ygY (rV n 221 0 1 (Q.note 3 d s.2.length)) ?_|refine KIf.t (ybX hc1) ?_|refine RK.of (zam (zab false 221) Rc.o (k:=1) hoffq rfl rfl hltx (by decide) rfl) ?_|refine KIf.t (ybX hc2) ?_|refine ytY bb true rfl hoffc rfl rfl rfl rfl rfl hjc ?_|refine ypY [0,1] (.agg (rV n 439 0 1 (Z))) [.row (flatI (rcP false 439) 0 (Z).v.rs) 66 10, .row ((cnL n (Z)).map bb) 4 0] (hRe2) (⟨rF FR.G hQ96,⟨rfl,rfl, .same (yqX (List.map bb) hcl.symm) (zaF _)⟩,zT⟩) (⟨⟨rfl,rfl, .inl (zaE hz2)⟩,⟨rfl,rfl, .inr ⟨rfl,zaF _⟩⟩,zT⟩) ?_ (hargs:=by((exact ywX (za2 (zdN FR.G ⟨rfl,rfl⟩ ⟨rfl,rfl⟩)) (WL.sc rfl (WL.sc rfl yMX))))) (h1:=(zdC (zdq FN.G rfl rfl)))|refine ygY (rV n 439 0 1 Z) ?_|refine Ex.g ?_);conv=>whnf
       refine⟨m+1,zo,by dsimp only;omega,?_⟩;dsimp only;rw[hst2,hnx,hZe];exact Ex.wG [0,1,2,3] [] [] ⟨rQ hz2,bR,bV,aR,zT⟩
   ·have e2:=hfin2 zo
    have hki:¬((s.2.length:Nat):Int)<((at_ Rc.o Q.v.rs d).es.length:Nat):=by rw[hes];omega
    by_cases he0:(at_ Rc.o Q.v.rs d).es=[]
    ·have e1:seE 20 d (at_ Rc.o Q.v.rs d)=LS 4 aEn En.o []:=zbM he0;rw[he0] at hki
     (conv=>whnf);repeat(first|refine Need.mk ?_ ?_;exact hd0|refine RK.of (zam (zab false 20) Rc.o (k:=9) hoff9 rfl rfl hQd (by decide) rfl) ?_|rw[e1]|refine KIf.f (ycX hki) ?_|refine Ex.g ?_);conv=>whnf
     refine⟨d+1,zo,by dsimp only;omega,?_⟩;dsimp only;rw[hst,←e2];exact Ex.wG [0,1,2,3] [] [] ⟨rQ hQ96,bR,bV,aR,zT⟩
    ·have e1:∀A,seE A d (at_ Rc.o Q.v.rs d)= .so (fam A (2*d+1)) 0 (at_ Rc.o Q.v.rs d).es.length 0:=λA=>zbB he0
     (conv=>whnf);repeat(first|refine Need.mk ?_ ?_;exact hd0|refine RK.of (zam (zab false 20) Rc.o (k:=9) hoff9 rfl rfl hQd (by decide) rfl) ?_|rw[e1]|refine KIf.f (ycX hki) ?_|refine Ex.g ?_);conv=>whnf
     refine⟨d+1,zo,by dsimp only;omega,?_⟩;dsimp only;rw[hst,←e2];exact Ex.wG [0,1,2,3] [] [] ⟨rQ hQ96,bR,bV,aR,zT⟩
 ·(conv=>whnf);repeat(first|refine ygY (rV n 20 0 1 q0) ?_|refine Ex.om ?_);conv=>whnf
  rw[←hfin zo];exact⟨Ex.wG [0,1] [] [] ⟨rQ hq96,bR,zT⟩ (hsl:=by exact⟨za2 (zgB ⟨rfl,rfl⟩ ⟨rfl,rfl⟩ zN),zT⟩)⟩
end Go.Proofs.YtgcjejajljhnaaaGreatDoor
namespace Ck
open Go Go.Ex
theorem zns {p q:Rp} (hl:p.v.rs.length=q.v.rs.length) (hr:∀j,at_ Rc.o p.v.rs j=at_ Rc.o q.v.rs j) (hv:p.v.c=q.v.c/\p.v.al=q.v.al/\p.v.ds=q.v.ds/\p.v.mp=q.v.mp) (hf:p.fd=q.fd/\p.fl=q.fl):p=q:=by
 obtain⟨⟨c,al,rs,ds,mp⟩,fd,fl⟩:=p;obtain⟨⟨c',al',rs',ds',mp'⟩,fd',fl'⟩:=q;obtain⟨h1,h2,h3,h4⟩:=hv;obtain⟨h5,h6⟩:=hf;simp only at h1 h2 h3 h4 h5 h6 hl hr;subst h1 h2 h3 h4 h5 h6
 have:rs=rs':=by
  apply yMY hl;intro j a b;have:=hr j;rw[zaS _ _ _ a,zaS _ _ _ b] at this;exact this
 rw[this]
def zaD (i:Nat) (L:List Nm) (p:Rp):Rp:=p.setR i {at_ Rc.o p.v.rs i with ns:=L}
section
variable {i : Nat} {L : List Nm} {p : Rp}
theorem setNs_len :(zaD i L p).v.rs.length=p.v.rs.length:=yoX
theorem zaY (hi:i<p.v.rs.length) (j:Nat):at_ Rc.o (zaD i L p).v.rs j=if i=j then{at_ Rc.o p.v.rs i with ns:=L} else at_ Rc.o p.v.rs j:=by
 show at_ Rc.o (p.v.rs.set i _) j=_;rw[zb0];by_cases e:i=j
 ·subst e;rw[ygX ⟨rfl,hi⟩,ygX rfl]
 ·rw[yfX (λc=>e c.1),yfX e]
theorem zjf (hi:i<p.v.rs.length) (j:Nat):(at_ Rc.o (zaD i L p).v.rs j).es=(at_ Rc.o p.v.rs j).es:=by
 rw[zaY hi];split
 ·rename_i e;rw[e]
 ·rfl
theorem zsA (hi:i<p.v.rs.length) (j:Nat):(at_ Rc.o (zaD i L p).v.rs j).ss=(at_ Rc.o p.v.rs j).ss:=by
 rw[zaY hi];split
 ·rename_i e;rw[e]
 ·rfl
theorem znm (hi:i<p.v.rs.length):(at_ Rc.o (zaD i L p).v.rs i).ns=L:=by rw[zaY hi,ygX rfl]
theorem setNs_kd :Kd p (zaD i L p):=(Kd.refl p).setR i _ ⟨rfl,rfl,rfl⟩
theorem zhf (r:Ref):right (zaD i L p).v r=right p.v r:=setNs_kd.right setNs_len r
theorem zhg (j:Int):(zaD i L p).ref j=p.ref j:=setNs_kd.ref j
theorem zje (j:Nat):(at_ Rc.o (zaD i L p).v.rs j).k=(at_ Rc.o p.v.rs j).k:=(setNs_kd j).2.1
theorem zoz (hi:i<p.v.rs.length) (j:Nat):sizeOf (at_ Rc.o (zaD i L p).v.rs j)=sizeOf (at_ Rc.o p.v.rs j):=by unfold sizeOf;rw[zje,zsA hi]
theorem zkT (hi:i<p.v.rs.length) (b:List Nm) (n:Nm):isName (zaD i L p) i b n=isName p i b n:=by
 have h1:((zaD i L p).rc n.d.r).k=(p.rc n.d.r).k:=zje _;have h2:((zaD i L p).rc n.d.r).es=(p.rc n.d.r).es:=zjf hi _;have h3:((zaD i L p).rc (i:Nat)).k=(p.rc (i:Nat)).k:=zje _;have h4:(zaD i L p).ref (i:Nat)=p.ref (i:Nat):=zhg _;unfold isName;rw[zhf,h1,h2,h3,h4]
theorem zp6 {L':List Nm} (hi:i<p.v.rs.length):zaD i L (zaD i L' p)=zaD i L p:=by
 refine zns (by rw[setNs_len,setNs_len,setNs_len]) (λj=> ?_) ⟨rfl,rfl,rfl,rfl⟩ ⟨rfl,rfl⟩;rw[zaY (by rw[setNs_len];exact hi),zaY hi,zaY hi,zaY hi,ygX rfl];split
 ·rfl
 ·rfl
theorem zoA (hi:i<p.v.rs.length) (h:(at_ Rc.o p.v.rs i).ns=L):zaD i L p=p:=by
 refine zns setNs_len (λj=> ?_) ⟨rfl,rfl,rfl,rfl⟩ ⟨rfl,rfl⟩;rw[zaY hi];split
 ·rename_i e;subst e;rw[←h]
 ·rfl
theorem zmb (hi:i<p.v.rs.length) {d:Int} (hd:d.toNat<p.v.rs.length) {nm:List UInt8} {r:Nat}:zaD i L (enter p d nm r)=enter (zaD i L p) d nm r:=by
 have hl:(enter p d nm r).v.rs.length=p.v.rs.length:=yoX
 have hat:∀(q:Rp) (hq:d.toNat<q.v.rs.length) (j:Nat),at_ Rc.o (enter q d nm r).v.rs j=if d.toNat=j then{at_ Rc.o q.v.rs d.toNat with es:=(at_ Rc.o q.v.rs d.toNat).es++[⟨nm,q.ref r,sizeOf (at_ Rc.o q.v.rs r)⟩]} else at_ Rc.o q.v.rs j:=λq hq j=>by
  show at_ Rc.o (q.v.rs.set d.toNat _) j=_;rw[zb0,zae];by_cases e:d.toNat=j
  ·rw[ygX ⟨e,by rw[←e];exact hq⟩,ygX e];rfl
  ·rw[yfX (λc=>e c.1),yfX e]
 refine zns (by rw[setNs_len,hl];exact(yoX.trans setNs_len).symm) (λj=> ?_) ⟨rfl,rfl,rfl,rfl⟩ ⟨rfl,rfl⟩;rw[zaY (by rw[hl];exact hi),hat p hd,hat p hd,hat (zaD i L p) (by rw[setNs_len];exact hd),zoz hi,zhg,zaY hi,zaY hi];by_cases e1:i=j
 ·rw[ygX e1,ygX e1];subst e1;by_cases e2:d.toNat=i
  ·rw[ygX e2,ygX e2,ygX e2.symm,e2]
  ·rw[yfX e2,yfX e2]
 ·rw[yfX e1,yfX e1];by_cases e2:d.toNat=j
  ·rw[ygX e2,ygX e2];by_cases e3:i=d.toNat
   ·exact absurd (e3.trans e2) e1
   ·rw[yfX e3]
  ·rw[yfX e2,yfX e2]
theorem zoB (hi:i<p.v.rs.length) {r:Nat} {m:Nm}:zaD i L (drop p r m)=drop (zaD i L p) r m:=by
 have hk:((zaD i L p).rc m.d.r).k=(p.rc m.d.r).k:=zje _;unfold drop;rw[zhf,hk];by_cases hc:(right p.v m.d&&(p.rc m.d.r).k==0)=true
 ·rw[ygX hc,ygX hc];have hd:m.d.r.toNat<p.v.rs.length:=(Go.Proofs.YtgcjejajljhnaaaGreatDoor.right_in (by simp only[ykX] at hc;exact hc.1)).2.1
  have hat:∀(q:Rp) (hq:m.d.r.toNat<q.v.rs.length) (o:Ref) (j:Nat),at_ Rc.o (q.setR m.d.r.toNat {q.rc m.d.r with es:=(q.rc m.d.r).es.filter λx=> !(decide (x.f=o)&&decide (x.n=m.n))}).v.rs j=if m.d.r.toNat=j then{at_ Rc.o q.v.rs m.d.r.toNat with es:=(at_ Rc.o q.v.rs m.d.r.toNat).es.filter λx=> !(decide (x.f=o)&&decide (x.n=m.n))} else at_ Rc.o q.v.rs j:=λq hq o j=>by
   show at_ Rc.o (q.v.rs.set _ _) j=_;rw[zb0];by_cases e:m.d.r.toNat=j
   ·rw[ygX ⟨e,by rw[←e];exact hq⟩,ygX e];rfl
   ·rw[yfX (λc=>e c.1),yfX e]
  refine zns (by rw[setNs_len];exact yoX.trans (yoX.trans setNs_len).symm) (λj=> ?_) ⟨rfl,rfl,rfl,rfl⟩ ⟨rfl,rfl⟩;rw[zaY (by show i<(p.v.rs.set _ _).length;rw[yoX];exact hi),hat p hd,hat p hd,hat (zaD i L p) (by rw[setNs_len];exact hd),zhg,zaY hi,zaY hi];by_cases e1:i=j
  ·rw[ygX e1,ygX e1];subst e1;by_cases e2:m.d.r.toNat=i
   ·rw[ygX e2,ygX e2,ygX e2.symm,e2]
   ·rw[yfX e2,yfX e2]
  ·rw[yfX e1,yfX e1];by_cases e2:m.d.r.toNat=j
   ·rw[ygX e2,ygX e2];by_cases e3:i=m.d.r.toNat
    ·exact absurd (e3.trans e2) e1
    ·rw[yfX e3]
   ·rw[yfX e2,yfX e2]
 ·rw[yfX hc,yfX hc]
end
theorem zlL (p:Rp) (i:Nat):badNames1 p i=zaD i (it (nameStep i (at_ Rc.o p.v.rs i).ns) (p,[]) (at_ Rc.o p.v.rs i).ns.length).2 (it (nameStep i (at_ Rc.o p.v.rs i).ns) (p,[]) (at_ Rc.o p.v.rs i).ns.length).1:=by
 unfold badNames1 zaD;simp only[zae]
theorem zrm {l:List En} (h:Pws l) (o:Ref) (nm:List UInt8):(l.filter λx=> !(decide (x.f=o)&&decide (x.n=nm)))=match ixE nm l with
  |none=>l
  |some k=>if(at_ En.o l k).f=o/\(at_ En.o l k).n=nm then l.take k++l.drop (k+1) else l:=by
 induction l with
 |nil=>rfl
 |cons x l ih=>
  have hp:=List.pairwise_cons.1 h;have ih:=ih hp.2;unfold ixE;by_cases hs:same x.n nm=true
  ·rw[ygX hs]
   have hno:(l.filter λx=> !(decide (x.f=o)&&decide (x.n=nm)))=l:=by
    rw[List.filter_eq_self];intro y hy;have h1:=hp.1 y hy
    have:y.n≠nm:=λe=>by rw[e,hs] at h1;cases h1
    simp[this]
   show _=if x.f=o/\x.n=nm then([]:List En)++l else x::l
   by_cases he:x.f=o/\x.n=nm
   ·rw[ygX he,List.filter_cons_of_neg (by simp[he.1,he.2]),hno];rfl
   ·rw[yfX he,List.filter_cons_of_pos (by simp only[y1X,yLZ,yPY];exact Decidable.not_and_iff_or_not.1 he),hno]
  ·have hs:=Bool.eq_false_iff.2 hs;rw[yfX (by simp[hs])]
   have hne:x.n≠nm:=λe=>by rw[e,zdT] at hs;cases hs
   rw[List.filter_cons_of_pos (by simp[hne]),ih]
   cases hE:ixE nm l with
   |none=>rfl
   |some k=>
    show x::(if(at_ En.o l k).f=o/\(at_ En.o l k).n=nm then l.take k++l.drop (k+1) else l)=if(at_ En.o (x::l) (k+1)).f=o/\(at_ En.o (x::l) (k+1)).n=nm then(x::l).take (k+1)++(x::l).drop (k+1+1) else x::l
    rw[show at_ En.o (x::l) (k+1)=at_ En.o l k from rfl];split
    ·rfl
    ·rfl
theorem zrA {p:Rp} {r:Nat} {m:Nm} (hr:(right p.v m.d&&(p.rc m.d.r).k==0)=true) (hp:Pws (at_ Rc.o p.v.rs m.d.r.toNat).es):drop p r m=match ixE m.n (at_ Rc.o p.v.rs m.d.r.toNat).es with
  |none=>p
  |some k=>if(at_ En.o (at_ Rc.o p.v.rs m.d.r.toNat).es k).f=p.ref r/\(at_ En.o (at_ Rc.o p.v.rs m.d.r.toNat).es k).n=m.n then p.setR m.d.r.toNat {at_ Rc.o p.v.rs m.d.r.toNat with es:=(at_ Rc.o p.v.rs m.d.r.toNat).es.take k++(at_ Rc.o p.v.rs m.d.r.toNat).es.drop (k+1)} else p:=by
 have hd:m.d.r.toNat<p.v.rs.length:=(Go.Proofs.YtgcjejajljhnaaaGreatDoor.right_in (by simp only[ykX] at hr;exact hr.1)).2.1
 have hsame:p.setR m.d.r.toNat {at_ Rc.o p.v.rs m.d.r.toNat with es:=(at_ Rc.o p.v.rs m.d.r.toNat).es}=p:=by
  have:({at_ Rc.o p.v.rs m.d.r.toNat with es:=(at_ Rc.o p.v.rs m.d.r.toNat).es}:Rc)=at_ Rc.o p.v.rs m.d.r.toNat:=rfl;rw[this];unfold Rp.setR;rw[zgM _ _ hd]
 unfold drop;rw[ygX hr];have hf:=zrm hp (p.ref r) m.n;show p.setR m.d.r.toNat {at_ Rc.o p.v.rs m.d.r.toNat with es:=(at_ Rc.o p.v.rs m.d.r.toNat).es.filter λx=> !(decide (x.f=p.ref r)&&decide (x.n=m.n))}=_;rw[hf]
 cases hE:ixE m.n (at_ Rc.o p.v.rs m.d.r.toNat).es with
 |none=>exact hsame
 |some k=>
  dsimp only;split
  ·rfl
  ·exact hsame
theorem zvs {p:Rp} (h:Rv p) (h96:p.v.rs.length<=96) {i:Nat} (hi:16<=i/\i<p.v.rs.length):∀k,k<=(p.rc i).ns.length->Rv (it (nameStep i (p.rc i).ns) (p,[]) k).1/\(it (nameStep i (p.rc i).ns) (p,[]) k).2.length<=k/\(∀m∈(it (nameStep i (p.rc i).ns) (p,[]) k).2,m∈(p.rc i).ns)/\Kp p (it (nameStep i (p.rc i).ns) (p,[]) k).1:=by
 have hx:=zae p i;have hi2:=h.at hi.2;intro k
 induction k with
 |zero=>exact λ_=>⟨h,yhX _,λ_ e=>(by cases e),ybY _⟩
 |succ k ih=>
  intro hk;obtain⟨h1,h2,h3,h4⟩:=ih zo;have h5:=h4.nameStep i (p.rc i).ns (k:=k);show Rv (nameStep i (p.rc i).ns (it (nameStep i (p.rc i).ns) (p,[]) k) k).1/\(nameStep i (p.rc i).ns (it (nameStep i (p.rc i).ns) (p,[]) k) k).2.length<=k+1/\(∀m∈(nameStep i (p.rc i).ns (it (nameStep i (p.rc i).ns) (p,[]) k) k).2,m∈(p.rc i).ns)/\Kp p (nameStep i (p.rc i).ns (it (nameStep i (p.rc i).ns) (p,[]) k) k).1;refine⟨?_,?_,?_,h5⟩
  ·clear h5
   generalize it (nameStep i (p.rc i).ns) (p,[]) k=s at*
   have hm:at_ Nm.o (p.rc i).ns k∈(p.rc i).ns:=at_mem Nm.o _ k zo;have hnm:=zcN ((hx▸hi2).nn _ hm);unfold nameStep;dsimp only;split
   ·rename_i c1;split
    ·exact h1
    ·rename_i c2;obtain⟨g1,g2,g3,_⟩:=zce (zfy c1).1;obtain⟨_,g4⟩:=zeu c1 (by simpa using c2);exact(h1.of_v (q:=s.1.note 5 i s.2.length) rfl).enter (by show s.1.v.rs.length<=96;rw[h4.2.2.2];exact h96) (by show i<s.1.v.rs.length;rw[h4.2.2.2];exact hi.2) g1 g3 g4 hnm.2
   ·split
    ·exact(h1.of_v (q:=s.1.note 4 i s.2.length) rfl).drop _ _
    ·exact h1.of_v rfl
  ·generalize it (nameStep i (p.rc i).ns) (p,[]) k=s at*
   unfold nameStep;dsimp only;split
   ·simp;omega
   ·exact Nat.le_succ_of_le h2
  ·generalize it (nameStep i (p.rc i).ns) (p,[]) k=s at*
   unfold nameStep;dsimp only;split
   ·intro m he
    rcases yRX.1 he with he|he
    ·exact h3 m he
    ·rcases yiX.1 he with rfl;exact at_mem Nm.o _ k zo
   ·exact h3
theorem Nj.start {p:Rp} (hE:zm8 p) (hP:Pw p) (h0:E0 p) {i:Nat}:Nj p i (p.rc i).ns 0 (p,[]):=⟨ybY p,λ_=>rfl,λd e he=>by
  obtain⟨a,b,c⟩:=hE d e he;refine⟨a,b,?_⟩;split
  ·rename_i hf
   have:p.rc e.f.r=p.rc i:=by rw[zae];unfold Rp.rc rc;rw[hf]
   rw[this] at c;exact c
  ·exact c,hP,λ_ h=>(by cases h),λ_ _ _ h=>h,λ_=>ymX _,h0⟩
def P5 (p q:Rp):Prop:=Rv q/\zm8 q/\Pw q/\E0 q/\q.v.rs.length=p.v.rs.length
theorem zs5 {p:Rp} (h:Rv p) (h96:p.v.rs.length<=96) (hE:zm8 p) (hP:Pw p) (h0:E0 p):∀k,k<=p.v.rs.length-16->P5 p (it (λq j=>if own (q.rc (16+j:Nat)) then badNames1 q (16+j) else q) p k):=
 zbo (I:=λ_ q=>P5 p q) (λs k hk ⟨a1,a2,a3,a4,a5⟩=>by
  split
  ·rename_i ho
   have hil:16<=16+k/\16+k<s.v.rs.length:=⟨zo,zo⟩
   obtain⟨b1,b2,b3,_⟩:=ziA a2 a3 a4 hil ho;exact⟨a1.badNames1 zo hil ho,b1,b2,b3,(Kp.badNames1 s (16+k)).2.2.2.trans a5⟩
  ·exact⟨a1,a2,a3,a4,a5⟩) ⟨h,hE,hP,h0,rfl⟩
end Ck
namespace Go.Proofs.YtgcjejajljhnaaaGreatDoor
open Go.Ex Ck
set_option maxRecDepth 100000
set_option maxHeartbeats 8000000
theorem zoI (p:Ck.Rp) (i k:Nat) (bf:List Nm) (x:Nm) (hi:i<p.v.rs.length) (hk:k<(at_ Rc.o p.v.rs i).ns.length) (hbf:(at_ Rc.o p.v.rs i).ns.take k=bf) (hx:at_ Nm.o (at_ Rc.o p.v.rs i).ns k=x) (hn:p.v.rs.length<=96) (hl:(at_ Rc.o p.v.rs i).ns.length<=1000)
  (hnm:∀y∈(at_ Rc.o p.v.rs i).ns,zau y.n=0) (hes:∀d,∀e∈(at_ Rc.o p.v.rs d).es,zau e.n=0) (hel:∀d,(at_ Rc.o p.v.rs d).es.length<=1000) {b:Bool} (hb:(isName p i bf x).1=b):PureC Tryz.prog 120 [zbF p.v,ib (i:Nat),ib (k:Nat)] (bb (!b)):=by
 have hi0:(0:Int)<=(i:Nat)/\((i:Nat):Int)<(p.v.rs.length:Nat):=⟨zo,zo⟩
 have hk0:(0:Int)<=(k:Nat)/\((k:Nat):Int)<((at_ Rc.o p.v.rs i).ns.length:Nat):=⟨zo,zo⟩
 have hxl:zau x.n=0:=by rw[←hx];exact hnm _ (at_mem Nm.o _ k hk)
 obtain⟨r,hr⟩:∃r,right p.v x.d=r:=⟨_,rfl⟩
 have hR:=zfi p.v x.d zo hr;have hat:at_ Nm.o (at_ Rc.o p.v.rs ((i:Nat):Int).toNat).ns (((k:Nat):Int)).toNat=x:=hx;cases r
 ·have hb2:b=false:=by rw[←hb];unfold isName;rw[hr];rfl
  subst hb2;refine ytX zal rfl ?_
  (conv=>whnf);repeat(first|refine Need.mk ?_ ?_;(focus(first|exact hi0|exact hk0))|refine yaX (hR) ?_|rw[hat]|refine Ex.g ?_);conv=>whnf
  refine .z [] ?_;exact ydX rfl
 obtain⟨hw,hdl,how⟩:=right_in hr
 have hd0:0<=x.d.r/\x.d.r<(p.v.rs.length:Nat):=by simp[wi] at hw;omega
 have hdi:((x.d.r.toNat:Nat):Int)=x.d.r:=yWY hd0.1
 obtain⟨dr,hdr⟩:∃dr,at_ Rc.o p.v.rs x.d.r.toNat=dr:=⟨_,rfl⟩
 have hrc:p.rc x.d.r=dr:=hdr
 have hu:dr.u=true:=by
  have:own (at_ Rc.o p.v.rs x.d.r.toNat)=true:=how;rw[hdr] at this;exact zoM this
 obtain⟨db,hdb⟩:∃b,dir dr=b:=⟨_,rfl⟩
 have hD:=zfj p.v x.d.r zo (b:=db) (by rw[hw,y3X];exact(yqX dir hdr).trans hdb);cases db
 ·have hb2:b=false:=by
   rw[←hb];unfold isName
   have hk0:(dr.k==0)=false:=by unfold dir at hdb;rw[hu,y3X] at hdb;exact hdb
   rw[hr,hrc,hk0];rfl
  subst hb2;refine ytX zal rfl ?_
  (conv=>whnf);repeat(first|refine Need.mk ?_ ?_;(focus(first|exact hi0|exact hk0))|refine yaX (hR) ?_|refine yaX (hD) ?_|rw[hat]|refine Ex.g ?_);conv=>whnf
  refine .z [] ?_;exact ydX rfl
 have hdk:(dr.k==0)=true:=by unfold dir at hdb;rw[hu,y3X] at hdb;exact hdb
 have hN:isName p i bf x=if bf.any (λy=>decide (y.d=x.d)&&same y.n x.n) then(false,false) else if bf≠[]/\(at_ Rc.o p.v.rs i).k≠1 then(false,false) else match ixE x.n dr.es with
   |none=>(decide (dr.es.length<zdI x.d.r),false)
   |some k=>(decide ((at_ En.o dr.es k).f=p.ref i/\(at_ En.o dr.es k).n=x.n),true):=by
  unfold isName;rw[hr,hrc,hdk];rfl
 have hbl:bf.length=k:=by rw[←hbf];simp;omega
 by_cases hkk:0<k/\(at_ Rc.o p.v.rs i).k≠1
 ·have hb2:b=false:=by
   rw[←hb,hN];split
   ·rfl
   ·rw[ygX ⟨λe=>by rw[e] at hbl;simp at hbl;omega,hkk.2⟩]
  subst hb2;obtain⟨k1,k2⟩:=hkk;refine ytX zal rfl ?_
  (conv=>whnf);repeat(first|refine Need.mk ?_ ?_;(focus(first|exact hi0|exact hk0))|refine yaX (hR) ?_|refine yaX (hD) ?_|rw[hat]|refine KIf.t (yqX Bool.not (ycX k2)) ?_|refine Ex.g ?_|refine Ex.om ?_);conv=>whnf
  refine .z [] ?_;exact ydX rfl
 have hN2:isName p i bf x=if bf.any (λy=>decide (y.d=x.d)&&same y.n x.n) then(false,false) else match ixE x.n dr.es with
   |none=>(decide (dr.es.length<zdI x.d.r),false)
   |some k=>(decide ((at_ En.o dr.es k).f=p.ref i/\(at_ En.o dr.es k).n=x.n),true):=by
  rw[hN];split
  ·rfl
  ·rw[yfX (by rintro⟨c1,c2⟩;exact hkk ⟨by rw[←hbl];exact yXX.2 c1,c2⟩)]
 have hAt:=zoJ p.v x.d.r.toNat x.n hdl (by have:=hel x.d.r.toNat;omega) (hes _) hxl;rw[hdi,hdr,zf0] at hAt;have hRf:=zic p.v i hi;have hM:=zjF x.d.r;have hel':=hel x.d.r.toNat;rw[hdr] at hel'
 have hkd:(at_ Rc.o p.v.rs i).k=1∨(¬(at_ Rc.o p.v.rs i).k=1/\k=0):=by
  by_cases c:(at_ Rc.o p.v.rs i).k=1
  ·exact .inl c
  ·exact .inr ⟨c,by by_cases c2:0<k;exact absurd ⟨c2,c⟩ hkk;omega⟩
 refine ytX zal rfl ?_
 rcases hkd with c|⟨c,c0⟩
 all_goals
  (conv=>whnf);repeat(first|refine Need.mk ?_ ?_;(focus(first|exact hi0|exact hk0))|refine yaX (hR) ?_|refine yaX (hD) ?_|rw[hat]|refine KIf.f (yqX Bool.not (ybX c)) ?_|refine KIf.t (yqX Bool.not (ycX c)) ?_|refine Ex.g ?_|refine Ex.om ?_);conv=>whnf
  refine yFX zal (D:=Nat) (λj=>k-j) (λj=>j<=k/\∀j',j'<j->(decide ((at_ Nm.o (at_ Rc.o p.v.rs i).ns j').d=x.d)&&Ck.same (at_ Nm.o (at_ Rc.o p.v.rs i).ns j').n x.n)=false) (λj=>zag [(1,ib i),(2,ib k),(3, .ptr 0 0),(6,bb false),(7, .ptr 1 0),(8,ib j)] 116) (λj=>zan [.row (aPt p.v) 26 0, .row (aNm x) 71 0]) 0 ⟨ymX _,λj hj=>absurd hj (ypX _)⟩ ?_ ?_
  ·exact Ex.wO [0,1] []
  rintro j ⟨hj,hI⟩;by_cases hlt:j<k
  ·have hj0:(0:Int)<=(j:Nat)/\((j:Nat):Int)<((at_ Rc.o p.v.rs i).ns.length:Nat):=⟨zo,zo⟩
   obtain⟨y,hy⟩:∃y,at_ Nm.o (at_ Rc.o p.v.rs i).ns j=y:=⟨_,rfl⟩
   have haty:at_ Nm.o (at_ Rc.o p.v.rs ((i:Nat):Int).toNat).ns (((j:Nat):Int)).toNat=y:=hy
   have hym:y∈(at_ Rc.o p.v.rs i).ns:=by rw[←hy];exact at_mem Nm.o _ j zo
   obtain⟨sb,hsb⟩:∃b,Ck.same y.n x.n=b:=⟨_,rfl⟩
   have hs:=zqh y.n x.n (hnm _ hym) hxl hsb
   have hnext:(decide (y.d=x.d)&&sb)=false->(j+1<=k/\∀j',j'<j+1->(decide ((at_ Nm.o (at_ Rc.o p.v.rs i).ns j').d=x.d)&&Ck.same (at_ Nm.o (at_ Rc.o p.v.rs i).ns j').n x.n)=false):=λhf=>⟨hlt,λj' hj'=>by
    by_cases e:j'=j
    ·rw[e,hy,hsb];exact hf
    ·exact hI j' zo⟩
   by_cases hdd:y.d=x.d
   ·cases sb
    ·(conv=>whnf);repeat(first|refine Need.mk ?_ ?_;(focus(first|exact hi0|exact hj0))|rw[haty]|refine yKY (zaH y.d x.d) ?_|refine KIf.t (ybX hdd) ?_|refine yaX (hs) ?_|refine Ex.g ?_|refine Ex.om ?_);conv=>whnf
     refine⟨j+1,hnext (by simp),by dsimp only;omega,?_⟩;exact Ex.wO [0,1] []
    ·have hb2:b=false:=by
      rw[←hb,hN2,ygX];rw[yZY];refine⟨y,?_,by simp[hdd,hsb]⟩;rw[←hbf,←hy,zaS Nm.o _ j zo];exact List.mem_take_iff_getElem.2 ⟨j,zo,rfl⟩
     subst hb2
     (conv=>whnf);repeat(first|refine Need.mk ?_ ?_;(focus(first|exact hi0|exact hj0))|rw[haty]|refine yKY (zaH y.d x.d) ?_|refine KIf.t (ybX hdd) ?_|refine yaX (hs) ?_|refine Ex.g ?_|refine Ex.om ?_);conv=>whnf
     refine .z [] ?_;exact ydX rfl
   ·(conv=>whnf);repeat(first|refine Need.mk ?_ ?_;(focus(first|exact hi0|exact hj0))|rw[haty]|refine yKY (zaH y.d x.d) ?_|refine KIf.f (ycX hdd) ?_|refine Ex.g ?_|refine Ex.om ?_);conv=>whnf
    refine⟨j+1,hnext (by simp[hdd]),by dsimp only;omega,?_⟩;exact Ex.wO [0,1] []
  ·have hany:bf.any (λy=>decide (y.d=x.d)&&same y.n x.n)=false:=by
    rw[ySY];intro y hy;rw[←hbf] at hy;obtain⟨j',hj',rfl⟩:=List.mem_take_iff_getElem.1 hy;have:=hI j' zo;rw[zaS Nm.o _ j' zo] at this;rw[this];simp
   rw[hany] at hN2
   have hN3:isName p i bf x=match ixE x.n dr.es with
    |none=>(decide (dr.es.length<zdI x.d.r),false)
    |some k=>(decide ((at_ En.o dr.es k).f=p.ref i/\(at_ En.o dr.es k).n=x.n),true):=hN2
   cases hE:ixE x.n dr.es with
   |none=>
    rw[hE] at hAt hN3
    have hbm:(dr.es.length:Int)≥(zdI x.d.r:Nat)↔b=false:=by
     rw[←hb,hN3];simp
    cases b
    ·have hm1:=hbm.2 rfl
     (conv=>whnf);repeat(first|refine Need.mk ?_ ?_;exact hd0|refine yaX (hAt) ?_|rw[hdr]|refine yxX (hM) ?_|refine Ex.g ?_|refine Ex.om ?_);conv=>whnf
     rw[ybX hm1];refine .z [] ?_;exact ydX rfl
    ·have hm1:¬(dr.es.length:Int)≥(zdI x.d.r:Nat):=λc=>by have:=hbm.1 c;cases this
     (conv=>whnf);repeat(first|refine Need.mk ?_ ?_;exact hd0|refine yaX (hAt) ?_|rw[hdr]|refine yxX (hM) ?_|refine Ex.g ?_|refine Ex.om ?_);conv=>whnf
     rw[ycX hm1];refine .z [] ?_;exact ydX rfl
   |some e=>
    rw[hE] at hAt hN3;have hel2:=ziJ hE
    have he0:(0:Int)<=((0+e:Nat):Int)/\((0+e:Nat):Int)<(dr.es.length:Nat):=⟨zo,zo⟩
    have hge0:((0+e:Nat):Int)≥0:=he0.1
    obtain⟨z,hz⟩:∃z,at_ En.o dr.es e=z:=⟨_,rfl⟩
    have hatz:at_ En.o dr.es ((((0+e:Nat):Int)).toNat)=z:=by rw[yrX,ylX];exact hz
    have hN3:isName p i bf x=(decide ((at_ En.o dr.es e).f=p.ref i/\(at_ En.o dr.es e).n=x.n),true):=hN3;rw[hz] at hN3;have href:p.ref i=⟨i,(at_ Rc.o p.v.rs i).q⟩:=rfl
    by_cases hzf:z.f=(⟨i,(at_ Rc.o p.v.rs i).q⟩:Ref)
    ·by_cases hzn:z.n=x.n
     ·have hb2:b=true:=by rw[←hb,hN3,href];exact ybX ⟨hzf,hzn⟩
      subst hb2
      (conv=>whnf);repeat(first|refine Need.mk ?_ ?_;(focus(first|exact hd0|exact he0))|refine yaX (hAt) ?_|refine yxX (hRf) ?_|refine KIf.t (ybX hge0) ?_|rw[hdr]|rw[hatz]|refine yKY (zaH z.f ⟨i,(at_ Rc.o p.v.rs i).q⟩) ?_|refine KIf.f (yqX Bool.not (ybX hzf)) ?_|refine Ex.g ?_|refine Ex.om ?_);conv=>whnf
      rw[ybX hzn];refine .z [] ?_;exact ydX rfl
     ·have hb2:b=false:=by rw[←hb,hN3,href];exact ycX λc=>hzn c.2
      subst hb2
      (conv=>whnf);repeat(first|refine Need.mk ?_ ?_;(focus(first|exact hd0|exact he0))|refine yaX (hAt) ?_|refine yxX (hRf) ?_|refine KIf.t (ybX hge0) ?_|rw[hdr]|rw[hatz]|refine yKY (zaH z.f ⟨i,(at_ Rc.o p.v.rs i).q⟩) ?_|refine KIf.f (yqX Bool.not (ybX hzf)) ?_|refine Ex.g ?_|refine Ex.om ?_);conv=>whnf
      rw[ycX hzn];refine .z [] ?_;exact ydX rfl
    ·have hb2:b=false:=by rw[←hb,hN3,href];exact ycX λc=>hzf c.1
     subst hb2
     (conv=>whnf);repeat(first|refine Need.mk ?_ ?_;(focus(first|exact hd0|exact he0))|refine yaX (hAt) ?_|refine yxX (hRf) ?_|refine KIf.t (ybX hge0) ?_|rw[hdr]|rw[hatz]|refine yKY (zaH z.f ⟨i,(at_ Rc.o p.v.rs i).q⟩) ?_|refine KIf.t (yqX Bool.not (ycX hzf)) ?_|refine Ex.g ?_|refine Ex.om ?_);conv=>whnf
     refine .z [] ?_;exact ydX rfl
end Go.Proofs.YtgcjejajljhnaaaGreatDoor
namespace Ck
open Go Go.Ex
theorem zqW {P:Program} {s:St} {α:Type} {enc:α->List AV} {sz:Nat} (hf:∀x,(enc x).length=sz) (o:α) {l:List α} {T:TypeId} {b j k n off:Nat} {e:TypeId} {q:Nat} {c:List AV} (hoff:off=j*sz+k) (hT:tyS P T= .ok (true,n)) (hr:s.h.get b=some (.row (l.flatMap enc) e q)) (hj:j<l.length) (hk:k+n<=sz) (hc:((enc (at_ o l j)).drop k).take n=c):zcw P s T b off= .ok (.agg c):=
 zxh (f:=λ_ x=>enc x) (λ_ x=>hf x) o hoff hT (by rw[zbO];exact hr) hj hk hc
end Ck
namespace Go.Proofs.YtgcjejajljhnaaaGreatDoor
open Go.Ex Ck
set_option maxRecDepth 100000
set_option maxHeartbeats 8000000
theorem zxg (n:Nat) (p Z:Ck.Rp) (r:Nat) (x:Nm) (hpn:p.v.rs.length=n) (hn:n<=96) (hr:r<n) (hnl:(at_ Rc.o p.v.rs r).ns.length<=1000) (hpw:Pws (at_ Rc.o p.v.rs x.d.r.toNat).es) (hes:∀d,∀e∈(at_ Rc.o p.v.rs d).es,zau e.n=0) (hel:∀d,(at_ Rc.o p.v.rs d).es.length<=1000) (hxn:zau x.n=0) (hZ:(if(at_ Rc.o p.v.rs r).ns.contains x then p else drop p r x)=Z):
  HG Tryz.prog 2 20 220 121 [.agg (rV n 20 0 1 p),ib (r:Nat), .agg (aNm x)] (gP false (nf p)) [.row (flatI (rcP false 20) 0 (p).v.rs) 66 10, .row ((cnL n (p)).map bb) 4 0] (.agg (rV n 20 0 1 Z)) (gP false (nf Z)) [.row (flatI (rcP false 20) 0 (Z).v.rs) 66 10, .row ((cnL n (Z)).map bb) 4 0]:=by
 have h96:p.v.rs.length<=96:=zo;have hrl:r<p.v.rs.length:=zo
 obtain⟨rb,hrb⟩:∃b,right p.v x.d=b:=⟨_,rfl⟩
 have hR:=zfi p.v x.d zo hrb;cases rb
 ·have hz:Z=p:=by
   have hdn:drop p r x=p:=by unfold drop;rw[yfX (by rw[hrb];simp)]
   rw[←hZ,hdn];split<;>rfl
  rw[hz];refine HG.of zal zo ?_
  (conv=>whnf);repeat(first|refine Ck.lV p (hR) h96 hpn.symm (Wzc (ydX rfl) Wzn) ?_|refine ygY (rV n 20 0 1 p) ?_|refine Ex.g ?_);conv=>whnf
  exact⟨Ex.wG [0,1] [] [] ⟨rQ h96,bR,zT⟩ (hsl:=by exact⟨za2 (zgB ⟨rfl,rfl⟩ ⟨rfl,rfl⟩ zN),zT⟩)⟩
 obtain⟨hw,hdl,how⟩:=right_in hrb
 have hd0:0<=x.d.r/\x.d.r<(n:Nat):=by simp[wi] at hw;omega
 have hdi:((x.d.r.toNat:Nat):Int)=x.d.r:=yWY hd0.1
 obtain⟨dr,hdr⟩:∃dr,at_ Rc.o p.v.rs x.d.r.toNat=dr:=⟨_,rfl⟩
 have hrc:p.rc x.d.r=dr:=hdr
 have hu:dr.u=true:=by
  have:own (at_ Rc.o p.v.rs x.d.r.toNat)=true:=how;rw[hdr] at this;exact zoM this
 obtain⟨db,hdb⟩:∃b,dir dr=b:=⟨_,rfl⟩
 have hD:=zfj p.v x.d.r zo (b:=db) (by rw[hw,y3X];exact(yqX dir hdr).trans hdb);cases db
 ·have hz:Z=p:=by
   have hk0:(dr.k==0)=false:=by unfold dir at hdb;rw[hu,y3X] at hdb;exact hdb
   have hdn:drop p r x=p:=by unfold drop;rw[yfX (by rw[hrb,hrc,hk0];simp)]
   rw[←hZ,hdn];split<;>rfl
  rw[hz];refine HG.of zal zo ?_
  (conv=>whnf);repeat(first|refine Ck.lV p (hR) h96 hpn.symm (Wzc (ydX rfl) Wzn) ?_|refine Ck.lV p (hD) h96 hpn.symm (Wzc (ydX rfl) Wzn) ?_|refine ygY (rV n 20 0 1 p) ?_|refine Ex.g ?_);conv=>whnf
  exact⟨Ex.wG [0,1] [] [] ⟨rQ h96,bR,zT⟩ (hsl:=by exact⟨za2 (zgB ⟨rfl,rfl⟩ ⟨rfl,rfl⟩ zN),zT⟩)⟩
 have hdk:(dr.k==0)=true:=by unfold dir at hdb;rw[hu,y3X] at hdb;exact hdb
 obtain⟨cb,hcb⟩:∃b,(at_ Rc.o p.v.rs r).ns.contains (⟨x.d,x.n⟩:Nm)=b:=⟨_,rfl⟩
 have hH:=zt7 p.v r x.d x.n hrl zo hcb;have hcb:(at_ Rc.o p.v.rs r).ns.contains x=cb:=hcb;rw[hcb] at hZ;cases cb
 rotate_left
 ·rw[ygX rfl] at hZ;subst hZ;refine HG.of zal zo ?_
  (conv=>whnf);repeat(first|refine Ck.lV p (hR) h96 hpn.symm (Wzc (ydX rfl) Wzn) ?_|refine Ck.lV p (hD) h96 hpn.symm (Wzc (ydX rfl) Wzn) ?_|refine Ck.lV p (hH) h96 hpn.symm (Wzc (ydX rfl) (Wzc (ydX rfl) (Wzc (ydX rfl) Wzn))) ?_|refine ygY (rV n 20 0 1 p) ?_|refine Ex.g ?_);conv=>whnf
  exact⟨Ex.wG [0,1] [] [] ⟨rQ h96,bR,zT⟩ (hsl:=by exact⟨za2 (zgB ⟨rfl,rfl⟩ ⟨rfl,rfl⟩ zN),zT⟩)⟩
 rw[yfX (by simp),zrA (by rw[hrb,hrc,hdk];rfl) hpw] at hZ;have hAt:=zoJ p.v x.d.r.toNat x.n hdl (by have:=hel x.d.r.toNat;omega) (hes _) hxn;rw[hdi,hdr,zf0] at hAt;have hRf:=zic p.v r hrl;have hel':=hel x.d.r.toNat;rw[hdr] at hel' hZ;refine HG.of zal zo ?_
 cases hE:ixE x.n dr.es with
 |none=>
  rw[hE] at hAt hZ;have hZ:p=Z:=hZ;subst hZ
  (conv=>whnf);repeat(first|refine Ck.lV p (hR) h96 hpn.symm (Wzc (ydX rfl) Wzn) ?_|refine Ck.lV p (hD) h96 hpn.symm (Wzc (ydX rfl) Wzn) ?_|refine Ck.lV p (hH) h96 hpn.symm (Wzc (ydX rfl) (Wzc (ydX rfl) (Wzc (ydX rfl) Wzn))) ?_|refine Ck.lV p (hAt) h96 hpn.symm (Wzc (ydX rfl) (Wzc (ydX rfl) Wzn)) ?_|refine ygY (rV n 20 0 1 p) ?_|refine Ex.g ?_);conv=>whnf
  exact⟨Ex.wG [0,1] [] [] ⟨rQ h96,bR,zT⟩ (hsl:=by exact⟨za2 (zgB ⟨rfl,rfl⟩ ⟨rfl,rfl⟩ zN),zT⟩)⟩
 |some e=>
  rw[hE] at hAt hZ;have hel2:=ziJ hE
  obtain⟨z,hz⟩:∃z,at_ En.o dr.es e=z:=⟨_,rfl⟩
  have hZ:(if(at_ En.o dr.es e).f=p.ref r/\(at_ En.o dr.es e).n=x.n then p.setR x.d.r.toNat {dr with es:=dr.es.take e++dr.es.drop (e+1)} else p)=Z:=hZ;rw[hz] at hZ
  have he0:(0:Int)<=((0+e:Nat):Int)/\((0+e:Nat):Int)<(dr.es.length:Nat):=⟨zo,zo⟩
  have hnl0:¬((0+e:Nat):Int)<0:=zo
  have hne:(at_ Rc.o p.v.rs x.d.r.toNat).es≠[]:=λc=>by rw[hdr] at c;rw[c] at hel2;exact absurd hel2 (ypX _)
  have e1:∀A,seE A x.d.r.toNat (at_ Rc.o p.v.rs x.d.r.toNat)= .so (fam A (2*x.d.r.toNat+1)) 0 dr.es.length 0:=λA=>by rw[zbB hne,hdr]
  have hd96:x.d.r.toNat<96:=zo
  have hge:gP false (nf p) (2*x.d.r.toNat+1)=some (.row (dr.es.flatMap aEn) 73 4):=by rw[←hdr];exact zfA (p:=nf p) hdl hd96 hne
  have h9:2*x.d.r.toNat+1<220-20:=zo;have hoff9:0+x.d.r.toNat*10+9=x.d.r.toNat*10+9:=zo
  have hof:0+(((0+e:Nat):Int)).toNat*4+1=e*4+1:=by rw[yrX];omega
  have hon:0+(((0+e:Nat):Int)).toNat*4=e*4+0:=by rw[yrX];omega
  have href:p.ref r=⟨r,(at_ Rc.o p.v.rs r).q⟩:=rfl
  by_cases hzf:z.f=(⟨r,(at_ Rc.o p.v.rs r).q⟩:Ref)
  ·by_cases hzn:z.n=x.n
   ·rw[ygX ⟨hzf.trans href.symm,hzn⟩] at hZ;have hRe:=zcu n p x.d.r.toNat (0+e) (dr.es.take e++dr.es.drop (e+1)) hpn hn zo (by rw[hdr];omega) (by rw[hdr];omega) (by rw[hdr,ylX]);rw[hdi,hdr,hZ] at hRe
    have hz96:Z.v.rs.length<=96:=by rw[←hZ];show(p.v.rs.set _ _).length<=96;rw[yoX];exact h96
    (conv=>whnf);repeat(first|refine Need.mk ?_ ?_;(focus(first|exact hd0|exact he0))|refine Ck.lV p (hR) h96 hpn.symm (Wzc (ydX rfl) Wzn) ?_|refine Ck.lV p (hD) h96 hpn.symm (Wzc (ydX rfl) Wzn) ?_|refine Ck.lV p (hH) h96 hpn.symm (Wzc (ydX rfl) (Wzc (ydX rfl) (Wzc (ydX rfl) Wzn))) ?_|refine Ck.lV p (hAt) h96 hpn.symm (Wzc (ydX rfl) (Wzc (ydX rfl) Wzn)) ?_|refine Ck.lD p (hRf) h96 hpn.symm (Wzc (ydX rfl) Wzn) ?_|refine KIf.f (ycX hnl0) ?_|refine RK.of (zam (zab false 20) Rc.o (k:=9) hoff9 rfl rfl hdl (by decide) rfl) ?_|rw[e1]|refine RK.of (zqW (enc:=aEn) (sz:=4) (λ_=>rfl) En.o hof rfl ((zah h9).trans hge) hel2 (by decide) rfl) ?_|refine RK.of (ziI (enc:=aEn) (sz:=4) (λ_=>rfl) En.o hon rfl ((zah h9).trans hge) hel2 (by decide) rfl) ?_|rw[hz]|refine yKY (zaH z.f ⟨r,(at_ Rc.o p.v.rs r).q⟩) ?_|refine KIf.f (yqX Bool.not (ybX hzf)) ?_|refine KIf.f (yqX Bool.not (ybX hzn)) ?_|refine Ck.cV (p':=Z) (hRe) h96 hz96 (WL.sc rfl (WL.sc rfl yMX)) ?_|refine ygY (rV n 223 0 1 Z) ?_|refine Ex.g ?_);conv=>whnf
    exact⟨Ex.wG [0,1] [] [] ⟨rQ hz96,bR,zT⟩ (hsl:=by exact⟨za2 (zgB ⟨rfl,rfl⟩ ⟨rfl,rfl⟩ zN),zT⟩)⟩
   ·rw[yfX λc=>hzn c.2] at hZ;subst hZ
    (conv=>whnf);repeat(first|refine Need.mk ?_ ?_;(focus(first|exact hd0|exact he0))|refine Ck.lV p (hR) h96 hpn.symm (Wzc (ydX rfl) Wzn) ?_|refine Ck.lV p (hD) h96 hpn.symm (Wzc (ydX rfl) Wzn) ?_|refine Ck.lV p (hH) h96 hpn.symm (Wzc (ydX rfl) (Wzc (ydX rfl) (Wzc (ydX rfl) Wzn))) ?_|refine Ck.lV p (hAt) h96 hpn.symm (Wzc (ydX rfl) (Wzc (ydX rfl) Wzn)) ?_|refine Ck.lD p (hRf) h96 hpn.symm (Wzc (ydX rfl) Wzn) ?_|refine KIf.f (ycX hnl0) ?_|refine RK.of (zam (zab false 20) Rc.o (k:=9) hoff9 rfl rfl hdl (by decide) rfl) ?_|rw[e1]|refine RK.of (zqW (enc:=aEn) (sz:=4) (λ_=>rfl) En.o hof rfl ((zah h9).trans hge) hel2 (by decide) rfl) ?_|refine RK.of (ziI (enc:=aEn) (sz:=4) (λ_=>rfl) En.o hon rfl ((zah h9).trans hge) hel2 (by decide) rfl) ?_|rw[hz]|refine yKY (zaH z.f ⟨r,(at_ Rc.o p.v.rs r).q⟩) ?_|refine KIf.f (yqX Bool.not (ybX hzf)) ?_|refine KIf.t (yqX Bool.not (ycX hzn)) ?_|refine ygY (rV n 20 0 1 p) ?_|refine Ex.g ?_);conv=>whnf
    exact⟨Ex.wG [0,1] [] [] ⟨rQ h96,bR,zT⟩ (hsl:=by exact⟨za2 (zgB ⟨rfl,rfl⟩ ⟨rfl,rfl⟩ zN),zT⟩)⟩
  ·rw[yfX λc=>hzf (c.1.trans href)] at hZ;subst hZ
   (conv=>whnf);repeat(first|refine Need.mk ?_ ?_;(focus(first|exact hd0|exact he0))|refine Ck.lV p (hR) h96 hpn.symm (Wzc (ydX rfl) Wzn) ?_|refine Ck.lV p (hD) h96 hpn.symm (Wzc (ydX rfl) Wzn) ?_|refine Ck.lV p (hH) h96 hpn.symm (Wzc (ydX rfl) (Wzc (ydX rfl) (Wzc (ydX rfl) Wzn))) ?_|refine Ck.lV p (hAt) h96 hpn.symm (Wzc (ydX rfl) (Wzc (ydX rfl) Wzn)) ?_|refine Ck.lD p (hRf) h96 hpn.symm (Wzc (ydX rfl) Wzn) ?_|refine KIf.f (ycX hnl0) ?_|refine RK.of (zam (zab false 20) Rc.o (k:=9) hoff9 rfl rfl hdl (by decide) rfl) ?_|rw[e1]|refine RK.of (zqW (enc:=aEn) (sz:=4) (λ_=>rfl) En.o hof rfl ((zah h9).trans hge) hel2 (by decide) rfl) ?_|rw[hz]|refine yKY (zaH z.f ⟨r,(at_ Rc.o p.v.rs r).q⟩) ?_|refine KIf.t (yqX Bool.not (ycX hzf)) ?_|refine ygY (rV n 20 0 1 p) ?_|refine Ex.g ?_);conv=>whnf
   exact⟨Ex.wG [0,1] [] [] ⟨rQ h96,bR,zT⟩ (hsl:=by exact⟨za2 (zgB ⟨rfl,rfl⟩ ⟨rfl,rfl⟩ zN),zT⟩)⟩
set_option maxHeartbeats 16000000
theorem zoc (n:Nat) (p:Ck.Rp) (d:Int) (r:Nat) (nm:List UInt8) (hf:Rf n p) (hn:n<=96) (hd:0<=d/\d<n) (hr:r<n) (hse:∀x∈p.v.rs,x.ss.length<=100000/\x.es.length<=1000):HG Tryz.prog 2 20 220 154 [.ptr 0 0,ib d,tb nm,ib (r:Nat)] (gP false p) [.row (zaC 20 1 p) 106 0, .row (flatI (rcP false 20) 0 p.v.rs) 66 10] (.tup [])
  (gP false (Ck.enter p d nm r)) [.row (zaC 20 1 (Ck.enter p d nm r)) 106 0, .row (flatI (rcP false 20) 0 (Ck.enter p d nm r).v.rs) 66 10]:=by
 obtain⟨k,rfl⟩:=Int.eq_ofNat_of_zero_le hd.1;exact zmP n p k r nm hf hn zo hr hse
theorem zs6 (n:Nat) (q0:Ck.Rp) (i:Nat) (hf:Rk n q0) (hn:n<=96) (hi:i<n) (hb:q0.fd.length<=500000):HG Tryz.prog 3 20 220 150 [ib (i:Nat), .ptr 2 0] (gP false q0) [.row (zaC 20 1 q0) 106 0, .row (flatI (rcP false 20) 0 q0.v.rs) 66 10, .row [.ptr 0 0] 107 0] (.tup [])
   (gP false (badNames1 q0 i)) [.row (zaC 20 1 (badNames1 q0 i)) 106 0, .row (flatI (rcP false 20) 0 (badNames1 q0 i).v.rs) 66 10, .row [.ptr 0 0] 107 0]:=by
 have hqn:=hf.rf.n;have hq96:q0.v.rs.length<=96:=zo;have hlt:i<q0.v.rs.length:=zo;have hi96:i<96:=zo
 have hd0:(0:Int)<=(i:Nat)/\((i:Nat):Int)<(q0.v.rs.length:Nat):=⟨zo,zo⟩
 have h7:0+((i:Nat):Int).toNat*10+7=i*10+7:=by simp
 obtain⟨a1,a2,a3,a4⟩:=hf.at hi
 have hls:badNames1 q0 i=(it (nameStep i (at_ Rc.o q0.v.rs i).ns) (q0,[]) (at_ Rc.o q0.v.rs i).ns.length).1.setR i {(it (nameStep i (at_ Rc.o q0.v.rs i).ns) (q0,[]) (at_ Rc.o q0.v.rs i).ns.length).1.rc i with ns:=(it (nameStep i (at_ Rc.o q0.v.rs i).ns) (q0,[]) (at_ Rc.o q0.v.rs i).ns.length).2}:=by unfold badNames1;simp only[zae]
 obtain⟨all,hall⟩:∃all,(at_ Rc.o q0.v.rs i).ns=all:=⟨_,rfl⟩
 refine HG.of zal zo ?_
 (conv=>whnf);repeat(first|refine Need.mk ?_ ?_;exact hd0|refine RK.of (zam (zab false 20) Rc.o (k:=7) h7 rfl rfl hlt (by decide) rfl) ?_|rw[hall]);conv=>whnf
 rw[hall] at a1 hls;have hin:=zjG (i:=i) (all:=all) hf a1.2;refine Ex.wl all.length (λk=>zag [(0,ib i),(1, .ptr 2 0),(3,stN 3 (it (nameStep i all) (q0,[]) k).2),(4,LS 3 aNm Nm.o all),(18,LS 3 aNm Nm.o all),(19,ib all.length),(20,ib k)] 86) (λk=>zaw 20 220 (gP false (it (nameStep i all) (q0,[]) k).1) (stQ (.row (zaC 20 1 (it (nameStep i all) (q0,[]) k).1) 106 0) (.row (flatI (rcP false 20) 0 (it (nameStep i all) (q0,[]) k).1.v.rs) 66 10) (.row [.ptr 0 0] 107 0) (it (nameStep i all) (q0,[]) k).2)) ?_ ?_
 ·(exact Ex.wG [0,1,2] [] [] (⟨pQ rfl rfl,rQ hq96,⟨rfl,rfl,yzX (zbw ⟨rfl,rfl⟩)⟩,zT⟩))
 ·intro k hk;obtain⟨h3,h4,h5,h6⟩:=hin k hk;have hst2:it (nameStep i all) (q0,[]) (k+1)=nameStep i all (it (nameStep i all) (q0,[]) k) k:=rfl
  have hfin2:k=all.length->badNames1 q0 i=(it (nameStep i all) (q0,[]) k).1.setR i {(it (nameStep i all) (q0,[]) k).1.rc i with ns:=(it (nameStep i all) (q0,[]) k).2}:=λe=>by rw[hls,e]
  generalize it (nameStep i all) (q0,[]) k=s2 at*
  obtain⟨q,st⟩:=s2;dsimp only at h3 h4 h5 h6 hst2 hfin2;have hqqn:q.v.rs.length=n:=h3.rf.n;have hqq96:q.v.rs.length<=96:=zo;have hqd:i<q.v.rs.length:=zo;have hstl:st.length<=1000:=zo;have hstn:∀e∈st,zdm e.n:=λe he=>a1.2 e (h6 e he)
  have stay2:∀{t:Tm} {s:St} {q':Ck.Rp} {st':List Nm},nameStep i all (q,st) k=(q',st')->Weak 3 t s (zag [(0,ib i),(1, .ptr 2 0),(3,stN 3 st'),(4,LS 3 aNm Nm.o all),(18,LS 3 aNm Nm.o all),(19,ib all.length),(20,ib (k+1:Nat))] 86) (zaw 20 220 (gP false q') (stQ (.row (zaC 20 1 q') 106 0) (.row (flatI (rcP false 20) 0 q'.v.rs) 66 10) (.row [.ptr 0 0] 107 0) st'))->
   Weak 3 t s (zag [(0,ib i),(1, .ptr 2 0),(3,stN 3 (it (nameStep i all) (q0,[]) (k+1)).2),(4,LS 3 aNm Nm.o all),(18,LS 3 aNm Nm.o all),(19,ib all.length),(20,ib (k+1:Nat))] 86) (zaw 20 220 (gP false (it (nameStep i all) (q0,[]) (k+1)).1) (stQ (.row (zaC 20 1 (it (nameStep i all) (q0,[]) (k+1)).1) 106 0) (.row (flatI (rcP false 20) 0 (it (nameStep i all) (q0,[]) (k+1)).1.v.rs) 66 10) (.row [.ptr 0 0] 107 0) (it (nameStep i all) (q0,[]) (k+1)).2)):=λhe hw=>by rw[hst2,he];exact hw
  dsimp only
  cases st with
  |nil=>
   refine Ex.go ?_;refine yPX (λhkl=> ?_) (λhkl=> ?_)
   ·have hkx:k<all.length:=zo
    have hk0:(0:Int)<=(k:Nat)/\((k:Nat):Int)<(all.length:Nat):=⟨zo,zo⟩
    have hxm:=at_mem Nm.o all k hkx
    obtain⟨x,hx⟩:∃x,at_ Nm.o all k=x:=⟨_,rfl⟩
    rw[hx] at hxm
    have hx2:at_ Nm.o all (((k:Nat):Int)).toNat=x:=by rw[yrX];exact hx
    have hxn:=a1.2 x hxm;have hen:=znV q i [] x h3.na hqd hxn hstl hstn
    obtain⟨R,hR⟩:∃R,Ck.isName q i [] x=R:=⟨_,rfl⟩
    have hes:nameStep i all (q,[]) k=if R.1=true then(if R.2=true then q else enter (q.note 5 i ([]:List Nm).length) x.d.r x.n i,[]++[x]) else(if(!([]:List Nm).contains x&& !(all.drop (k+1)).contains x)=true then drop (q.note 4 i ([]:List Nm).length) i x else q.note 4 i ([]:List Nm).length,[]):=by
     unfold nameStep;dsimp only;rw[hx,hR]
    rw[hR] at hen;obtain⟨b1,b2⟩:=R;dsimp only at hen hes;have hb9:q.fd.length<=1000000:=zo
    (conv=>whnf);repeat(first|refine Need.mk ?_ ?_;exact hk0|rw[hx2]|refine yoY (zF 20 [0,1]) (hen) (Wzc (zif (Lies.mk (λj hj=>za3 hj) (λj hj=>zah zo)) hqq96 rfl (zbt (by simp)) rfl (zbt (by simp))) (Wzc (ydX rfl) (Wzc (by unfold Wz;rfl) (Wzc (ydX rfl) Wzn)))) ?_);conv=>whnf
    cases b1
    ·have hk1:Small (((k:Nat):Int)+1):=⟨zo,zo⟩
     have hk2:(0:Int)<=((k:Nat):Int)+1/\((k:Nat):Int)+1<=(all.length:Nat):=⟨zo,zo⟩
     have hdl:all.length-(((k:Nat):Int)+1).toNat=all.length-(k+1):=zo;have hc3:=zcT ([]:List Nm) x zo;have hc4:=zcT (all.drop (k+1)) x (by rw[yYY];omega)
     obtain⟨b3,hb3⟩:∃b,([]:List Nm).contains x=b:=⟨_,rfl⟩
     obtain⟨b4,hb4⟩:∃b,(all.drop (k+1)).contains x=b:=⟨_,rfl⟩
     rw[hb3] at hc3;rw[hb4] at hc4;rw[hb3,hb4] at hes;cases b3
     ·cases b4
      ·have hes2:nameStep i all (q,[]) k=(drop (q.note 4 i ([]:List Nm).length) i x,[]):=hes;have hdp:=zrB n (q.note 4 i ([]:List Nm).length) i x (h3.note 4 i ([]:List Nm).length).rf hn hi (λw hw=>(h3.na.es w hw).1)
       have hd96:(drop (q.note 4 i ([]:List Nm).length) i x).v.rs.length<=96:=by
        have:=(h3.note 4 i ([]:List Nm).length).drop (r:=i) (m:=x);rw[this.rf.n];exact hn
       (conv=>whnf);repeat(first|refine Need.mk ?_ ?_;(focus(first|exact hk1|exact hk2))|refine Ck.cG (p':=(q.note 4 i ([]:List Nm).length)) (zdb false q 4 i ([]:List Nm).length hqq96 h3.rf.fl hb9) hqq96 hqq96 ?_|refine yRY ([]) (hc3) (Wzc (by unfold Wz;rfl) (Wzc (ydX rfl) Wzn)) ?_|refine yRY ([]) (hc4) (Wzc (zkk hdl) (Wzc (ydX rfl) Wzn)) ?_|refine Ck.cG (p':=(drop (q.note 4 i ([]:List Nm).length) i x)) (hdp) hqq96 hd96 ?_|refine Ex.g ?_);conv=>whnf
       refine⟨k+1,zo,by dsimp only;omega,stay2 hes2 ?_⟩;refine yCX [0,1,2] [] [] rfl rfl rfl rfl ?_ ?_ ?_ ?_
       ·exact⟨pQ rfl rfl,rQ hd96,⟨rfl,rfl,yzX (zbw ⟨rfl,rfl⟩)⟩,zT⟩
       ·exact gQ
       ·exact zN
       ·(repeat' first|exact zT|exact rfl|(intro _ _;exact rfl)|refine zA ?_ ?_)
      ·have hes2:nameStep i all (q,[]) k=(q.note 4 i ([]:List Nm).length,[]):=hes
       (conv=>whnf);repeat(first|refine Need.mk ?_ ?_;(focus(first|exact hk1|exact hk2))|refine Ck.cG (p':=(q.note 4 i ([]:List Nm).length)) (zdb false q 4 i ([]:List Nm).length hqq96 h3.rf.fl hb9) hqq96 hqq96 ?_|refine yRY ([]) (hc3) (Wzc (by unfold Wz;rfl) (Wzc (ydX rfl) Wzn)) ?_|refine yRY ([]) (hc4) (Wzc (zkk hdl) (Wzc (ydX rfl) Wzn)) ?_|refine Ex.g ?_);conv=>whnf
       refine⟨k+1,zo,by dsimp only;omega,stay2 hes2 ?_⟩;refine yCX [0,1,2] [] [] rfl rfl rfl rfl ?_ ?_ ?_ ?_
       ·exact⟨pQ rfl rfl,rQ hqq96,⟨rfl,rfl,yzX (zbw ⟨rfl,rfl⟩)⟩,zT⟩
       ·exact gQ
       ·exact zN
       ·(repeat' first|exact zT|exact rfl|(intro _ _;exact rfl)|refine zA ?_ ?_)
     ·exact absurd hb3 (by simp)
    ·cases b2
     ·have hright:=zd3 (p:=q) (r:=i) (b:=[]) (n:=x) (by rw[hR]);have hroom:=zdt (p:=q) (r:=i) (b:=[]) (n:=x) (by rw[hR]) (by rw[hR]);have hdr:=zff hright;rw[hqqn] at hdr
      have hse5:∀w:Rc,w∈(q.note 5 i ([]:List Nm).length).v.rs->w.ss.length<=100000/\w.es.length<=1000:=λw hw=>⟨h3.ss w hw,(h3.na.es w hw).1⟩
      have hent:=zoc n (q.note 5 i ([]:List Nm).length) x.d.r i x.n (h3.note 5 i ([]:List Nm).length).rf hn hdr hi hse5;have hes2:nameStep i all (q,[]) k=(enter (q.note 5 i ([]:List Nm).length) x.d.r x.n i,[]++[x]):=hes
      have he96:(enter (q.note 5 i ([]:List Nm).length) x.d.r x.n i).v.rs.length<=96:=by unfold Ck.enter Rp.setR;simp only[yoX];exact hqq96
      (conv=>whnf);repeat(first|refine Ck.cG (p':=(q.note 5 i ([]:List Nm).length)) (zdb false q 5 i ([]:List Nm).length hqq96 h3.rf.fl hb9) hqq96 hqq96 ?_|refine Ck.cG (p':=(enter (q.note 5 i ([]:List Nm).length) x.d.r x.n i)) (hent) hqq96 he96 ?_|refine Ex.g ?_);conv=>whnf
      refine⟨k+1,zo,by dsimp only;omega,stay2 hes2 ?_⟩;refine yCX [0,1,2,658] [] [] rfl rfl rfl rfl ?_ ?_ ?_ ?_
      ·exact⟨pQ rfl rfl,rQ he96,⟨rfl,rfl,yzX (zbw ⟨rfl,rfl⟩)⟩,⟨rfl,rfl, .same rfl rfl⟩,zT⟩
      ·exact gQ
      ·exact zN
      ·(repeat' first|exact zT|exact rfl|(intro _ _;exact rfl)|refine zA ?_ ?_)
     ·have hes2:nameStep i all (q,[]) k=(q,[x]):=hes
      (conv=>whnf);repeat(((refine Ex.g ?_;conv=>whnf)))
      refine⟨k+1,zo,by dsimp only;omega,stay2 hes2 ?_⟩;refine yCX [0,1,2,222] [] [] rfl rfl rfl rfl ?_ ?_ ?_ ?_
      ·exact⟨pQ rfl rfl,rQ hqq96,⟨rfl,rfl,yzX (zbw ⟨rfl,rfl⟩)⟩,⟨rfl,rfl, .same rfl rfl⟩,zT⟩
      ·exact gQ
      ·exact zN
      ·(repeat' first|exact zT|exact rfl|(intro _ _;exact rfl)|refine zA ?_ ?_)
   ·have hke:k=all.length:=zo;have hls4:=hfin2 hke;rw[zae] at hls4
    have hd1:(0:Int)<=(i:Nat)/\((i:Nat):Int)<(q.v.rs.length:Nat):=⟨zo,zo⟩
    (conv=>whnf);repeat(first|refine Need.mk ?_ ?_;exact hd1|refine zaV (zab false 20) Rc.o (k:=7) [.sc (.slice none 0 0)] (rcN 20 i (at_ Rc.o q.v.rs i) (.sc (.slice none 0 0))) h7 rfl rfl rfl rfl rfl rfl hqd (by decide) rfl ?_);conv=>whnf
    rw[hls4];refine⟨?_⟩;refine yCX [0,1,2] [] [] rfl rfl rfl rfl ?_ ?_ ?_ ?_
    ·refine⟨⟨rfl,rfl,by rw[zbC];exact yzX (zdY ⟨rfl,rfl⟩ zN)⟩,⟨rfl,rfl,yzX (zaI (i:=i) hqq96 yoX (λk hk=>zap _ _ _ _ _ (Ne.symm hk)) zN ?_)⟩,⟨rfl,rfl,yzX (zbw ⟨rfl,rfl⟩)⟩,zT⟩;show WL _ _ _ (rcP false 20 i (at_ Rc.o (q.v.rs.set i _) i)) _;rw[zaj _ _ _ _ hqd];exact zjs hi96 zN (Wv.nil rfl)
    ·exact λj o1 h _=>⟨(ywZ (zc4 (ph:=false) (p:=q) (i:=i) (x:={at_ Rc.o q.v.rs i with ns:=[]}) ⟨rfl,rfl⟩) j).symm.trans h,yQX _ _ j o1 h⟩
    ·exact zN
    ·(repeat' first|exact zT|refine zA ?_ ?_)
  |cons y st=>
   refine Ex.go ?_;refine yPX (λhkl=> ?_) (λhkl=> ?_)
   ·have hkx:k<all.length:=zo
    have hk0:(0:Int)<=(k:Nat)/\((k:Nat):Int)<(all.length:Nat):=⟨zo,zo⟩
    have hxm:=at_mem Nm.o all k hkx
    obtain⟨x,hx⟩:∃x,at_ Nm.o all k=x:=⟨_,rfl⟩
    rw[hx] at hxm
    have hx2:at_ Nm.o all (((k:Nat):Int)).toNat=x:=by rw[yrX];exact hx
    have hxn:=a1.2 x hxm;have hen:=znV q i (y::st) x h3.na hqd hxn hstl hstn
    obtain⟨R,hR⟩:∃R,Ck.isName q i (y::st) x=R:=⟨_,rfl⟩
    have hes:nameStep i all (q,(y::st)) k=if R.1=true then(if R.2=true then q else enter (q.note 5 i ((y::st):List Nm).length) x.d.r x.n i,(y::st)++[x]) else(if(!((y::st):List Nm).contains x&& !(all.drop (k+1)).contains x)=true then drop (q.note 4 i ((y::st):List Nm).length) i x else q.note 4 i ((y::st):List Nm).length,(y::st)):=by
     unfold nameStep;dsimp only;rw[hx,hR]
    rw[hR] at hen;obtain⟨b1,b2⟩:=R;dsimp only at hen hes;have hb9:q.fd.length<=1000000:=zo
    (conv=>whnf);repeat(first|refine Need.mk ?_ ?_;exact hk0|rw[hx2]|refine yoY (zF 20 [0,1,3]) (hen) (Wzc (zif (Lies.mk (λj hj=>za3 hj) (λj hj=>zah zo)) hqq96 rfl (zbt (by simp)) rfl (zbt (by simp))) (Wzc (ydX rfl) (Wzc (zjN rfl (zbt (by simp)) rfl) (Wzc (ydX rfl) Wzn)))) ?_);conv=>whnf
    cases b1
    ·have hk1:Small (((k:Nat):Int)+1):=⟨zo,zo⟩
     have hk2:(0:Int)<=((k:Nat):Int)+1/\((k:Nat):Int)+1<=(all.length:Nat):=⟨zo,zo⟩
     have hdl:all.length-(((k:Nat):Int)+1).toNat=all.length-(k+1):=zo;have hc3:=zcT ((y::st):List Nm) x zo;have hc4:=zcT (all.drop (k+1)) x (by rw[yYY];omega)
     obtain⟨b3,hb3⟩:∃b,((y::st):List Nm).contains x=b:=⟨_,rfl⟩
     obtain⟨b4,hb4⟩:∃b,(all.drop (k+1)).contains x=b:=⟨_,rfl⟩
     rw[hb3] at hc3;rw[hb4] at hc4;rw[hb3,hb4] at hes;cases b3
     ·cases b4
      ·have hes2:nameStep i all (q,(y::st)) k=(drop (q.note 4 i ((y::st):List Nm).length) i x,(y::st)):=hes;have hdp:=zrB n (q.note 4 i ((y::st):List Nm).length) i x (h3.note 4 i ((y::st):List Nm).length).rf hn hi (λw hw=>(h3.na.es w hw).1)
       have hd96:(drop (q.note 4 i ((y::st):List Nm).length) i x).v.rs.length<=96:=by
        have:=(h3.note 4 i ((y::st):List Nm).length).drop (r:=i) (m:=x);rw[this.rf.n];exact hn
       (conv=>whnf);repeat(first|refine Need.mk ?_ ?_;(focus(first|exact hk1|exact hk2))|refine Ck.cG (p':=(q.note 4 i ((y::st):List Nm).length)) (zdb false q 4 i ((y::st):List Nm).length hqq96 h3.rf.fl hb9) hqq96 hqq96 ?_|refine yRY ([3]) (hc3) (Wzc (zjN rfl (by simp) rfl) (Wzc (ydX rfl) Wzn)) ?_|refine yRY ([]) (hc4) (Wzc (zkk hdl) (Wzc (ydX rfl) Wzn)) ?_|refine Ck.cG (p':=(drop (q.note 4 i ((y::st):List Nm).length) i x)) (hdp) hqq96 hd96 ?_|refine Ex.g ?_);conv=>whnf
       refine⟨k+1,zo,by dsimp only;omega,stay2 hes2 ?_⟩;refine yCX [0,1,2,3] [] [] rfl rfl rfl rfl ?_ ?_ ?_ ?_
       ·exact⟨pQ rfl rfl,rQ hd96,⟨rfl,rfl,yzX (zbw ⟨rfl,rfl⟩)⟩,⟨rfl,rfl, .same rfl (zfq _)⟩,zT⟩
       ·exact gQ
       ·exact zN
       ·(repeat' first|exact zT|exact rfl|(intro _ _;exact rfl)|refine zA ?_ ?_)
      ·have hes2:nameStep i all (q,(y::st)) k=(q.note 4 i ((y::st):List Nm).length,(y::st)):=hes
       (conv=>whnf);repeat(first|refine Need.mk ?_ ?_;(focus(first|exact hk1|exact hk2))|refine Ck.cG (p':=(q.note 4 i ((y::st):List Nm).length)) (zdb false q 4 i ((y::st):List Nm).length hqq96 h3.rf.fl hb9) hqq96 hqq96 ?_|refine yRY ([3]) (hc3) (Wzc (zjN rfl (by simp) rfl) (Wzc (ydX rfl) Wzn)) ?_|refine yRY ([]) (hc4) (Wzc (zkk hdl) (Wzc (ydX rfl) Wzn)) ?_|refine Ex.g ?_);conv=>whnf
       refine⟨k+1,zo,by dsimp only;omega,stay2 hes2 ?_⟩;refine yCX [0,1,2,3] [] [] rfl rfl rfl rfl ?_ ?_ ?_ ?_
       ·exact⟨pQ rfl rfl,rQ hqq96,⟨rfl,rfl,yzX (zbw ⟨rfl,rfl⟩)⟩,⟨rfl,rfl, .same rfl (zfq _)⟩,zT⟩
       ·exact gQ
       ·exact zN
       ·(repeat' first|exact zT|exact rfl|(intro _ _;exact rfl)|refine zA ?_ ?_)
     ·have hes2:nameStep i all (q,(y::st)) k=(q.note 4 i ((y::st):List Nm).length,(y::st)):=hes
      (conv=>whnf);repeat(first|refine Need.mk ?_ ?_;exact hk1|refine Ck.cG (p':=(q.note 4 i ((y::st):List Nm).length)) (zdb false q 4 i ((y::st):List Nm).length hqq96 h3.rf.fl hb9) hqq96 hqq96 ?_|refine yRY ([3]) (hc3) (Wzc (zjN rfl (by simp) rfl) (Wzc (ydX rfl) Wzn)) ?_|refine Ex.g ?_);conv=>whnf
      refine⟨k+1,zo,by dsimp only;omega,stay2 hes2 ?_⟩;refine yCX [0,1,2,3] [] [] rfl rfl rfl rfl ?_ ?_ ?_ ?_
      ·exact⟨pQ rfl rfl,rQ hqq96,⟨rfl,rfl,yzX (zbw ⟨rfl,rfl⟩)⟩,⟨rfl,rfl, .same rfl (zfq _)⟩,zT⟩
      ·exact gQ
      ·exact zN
      ·(repeat' first|exact zT|exact rfl|(intro _ _;exact rfl)|refine zA ?_ ?_)
    ·cases b2
     ·have hright:=zd3 (p:=q) (r:=i) (b:=(y::st)) (n:=x) (by rw[hR]);have hroom:=zdt (p:=q) (r:=i) (b:=(y::st)) (n:=x) (by rw[hR]) (by rw[hR]);have hdr:=zff hright;rw[hqqn] at hdr
      have hse5:∀w:Rc,w∈(q.note 5 i ((y::st):List Nm).length).v.rs->w.ss.length<=100000/\w.es.length<=1000:=λw hw=>⟨h3.ss w hw,(h3.na.es w hw).1⟩
      have hent:=zoc n (q.note 5 i ((y::st):List Nm).length) x.d.r i x.n (h3.note 5 i ((y::st):List Nm).length).rf hn hdr hi hse5;have hes2:nameStep i all (q,(y::st)) k=(enter (q.note 5 i ((y::st):List Nm).length) x.d.r x.n i,(y::st)++[x]):=hes
      have he96:(enter (q.note 5 i ((y::st):List Nm).length) x.d.r x.n i).v.rs.length<=96:=by unfold Ck.enter Rp.setR;simp only[yoX];exact hqq96
      have hsz:((y::st).length+1)*32<=2^47/\(y::st).length+1<=2^60:=by constructor<;>omega
      (conv=>whnf);repeat(first|refine Need.mk ?_ ?_;(focus(first|exact hsz|exact Ck.nm_len (y::st)))|refine Ck.cG (p':=(q.note 5 i ((y::st):List Nm).length)) (zdb false q 5 i ((y::st):List Nm).length hqq96 h3.rf.fl hb9) hqq96 hqq96 ?_|refine Ck.cG (p':=(enter (q.note 5 i ((y::st):List Nm).length) x.d.r x.n i)) (hent) hqq96 he96 ?_|refine Ex.g ?_);conv=>whnf
      refine⟨k+1,zo,by dsimp only;omega,stay2 hes2 ?_⟩;rw[zpS,zpR];refine yCX [0,1,2,658] [] [] rfl rfl rfl rfl ?_ ?_ ?_ ?_
      ·exact⟨pQ rfl rfl,rQ he96,⟨rfl,rfl,yzX (zbw ⟨rfl,rfl⟩)⟩,⟨rfl,rfl, .same (by rw[yJX];rfl) (note_ov.nmc (zfq _) rfl)⟩,zT⟩
      ·exact gQ
      ·exact zN
      ·(repeat' first|exact zT|exact rfl|(intro _ _;exact rfl)|refine zA ?_ ?_)
     ·have hes2:nameStep i all (q,y::st) k=(q,y::st++[x]):=hes
      have hsz:((y::st).length+1)*32<=2^47/\(y::st).length+1<=2^60:=by constructor<;>omega
      (conv=>whnf);repeat(first|refine Need.mk ?_ ?_;(focus(first|exact hsz|exact Ck.nm_len (y::st)))|refine Ex.g ?_);conv=>whnf
      refine⟨k+1,zo,by dsimp only;omega,stay2 hes2 ?_⟩;rw[zpS,zpR];refine yCX [0,1,2,222] [] [] rfl rfl rfl rfl ?_ ?_ ?_ ?_
      ·exact⟨pQ rfl rfl,rQ hqq96,⟨rfl,rfl,yzX (zbw ⟨rfl,rfl⟩)⟩,⟨rfl,rfl, .same (by rw[yJX];rfl) (note_ov.nmc (zfq _) rfl)⟩,zT⟩
      ·exact gQ
      ·exact zN
      ·(repeat' first|exact zT|exact rfl|(intro _ _;exact rfl)|refine zA ?_ ?_)
   ·have hke:k=all.length:=zo;have hls4:=hfin2 hke;rw[zae] at hls4
    have hd1:(0:Int)<=(i:Nat)/\((i:Nat):Int)<(q.v.rs.length:Nat):=⟨zo,zo⟩
    (conv=>whnf);repeat(first|refine Need.mk ?_ ?_;exact hd1|refine zaV (zab false 20) Rc.o (k:=7) [.so 3 0 (st.length+1) 0] (rcN 20 i (at_ Rc.o q.v.rs i) (.so 3 0 (st.length+1) 0)) h7 rfl rfl rfl rfl rfl rfl hqd (by decide) rfl ?_);conv=>whnf
    rw[hls4];refine⟨?_⟩;refine yCX [0,1,2] [3] [] rfl rfl rfl rfl ?_ ?_ ?_ ?_
    ·refine⟨⟨rfl,rfl,by rw[zbC];exact yzX (zdY ⟨rfl,rfl⟩ zN)⟩,⟨rfl,rfl,yzX (zaI (i:=i) hqq96 yoX (λk hk=>zap _ _ _ _ _ (Ne.symm hk)) zN ?_)⟩,⟨rfl,rfl,yzX (zbw ⟨rfl,rfl⟩)⟩,zT⟩;show WL _ _ _ (rcP false 20 i (at_ Rc.o (q.v.rs.set i _) i)) _;rw[zaj _ _ _ _ hqd];exact zjs hi96 zN (yjZ (enc:=aNm) (o:=Nm.o) (l:=y::st) (λ_=>rfl) (λ_=>rfl) rfl (by simp) rfl rfl)
    ·exact λj o1 h _=>⟨(ywZ (zc4 (ph:=false) (p:=q) (i:=i) (x:={at_ Rc.o q.v.rs i with ns:=(y::st)}) ⟨rfl,rfl⟩) j).symm.trans h,yQX _ _ j o1 h⟩
    ·exact zN
    ·(repeat' first|exact zT|refine zA ?_ ?_)
end Go.Proofs.YtgcjejajljhnaaaGreatDoor
namespace Go.Ex
open Go
def zuP (a b n0:Nat) (r z:List Nat) (g1:Nat->Option AO) (rows2:List AO) (s:St):St:=
 match s with
 |⟨h,n⟩=>match h with
  | .f A B _ t=>⟨.f n (Nat.add n (Nat.sub b a)) g1 (.f A B (λ_=>none) (zsP r n0 (Nat.add n (Nat.sub b a)) 0 rows2 (zb4 (zb4 t r) z))),Nat.add (Nat.add n (Nat.sub b a)) (Nat.sub a n0)⟩
  |h=>⟨h,n⟩
def zyl (a b n0 A B n:Nat) (r z:List Nat) (l1:Nat):Bool:=
 match okG 0 a b A z [] r with
 |true=>match Nat.beq (Nat.sub B A) (Nat.sub b a) with
  |true=>match Nat.ble B n with
   |true=>match Nat.ble n0 r.length with|true=>Nat.ble l1 a|false=>false
   |false=>false
  |false=>false
 |false=>false
theorem CallOk.liftGz {P:Program} {n0 a b A B n:Nat} {f:FuncId} {args0 args:List AV} {g0 g1:Nat->Option AO} {t:T AO} {rows0 rows1:List AO} {v1:AV} (r z:List Nat) (v2:AV) (rows2:List AO) (hc:HG P n0 a b f args0 g0 rows0 v1 g1 rows1) (hL:zyl a b n0 A B n r z rows1.length=true)
  (hc0:∀j o,g0 j=some o->zaZ o) (hc1:∀j o,g1 j=some o->zaZ o)
  (hrows:zcL (.f A B g0 t) z (zbQ a b A [] r) rows0 r) (hargs:zgy (RS (zbQ a b A [] r)) args0/\Wvl (.f A B g0 t) z (RD (zbQ a b A [] r)) args0 args)
  (hv:Rn (zdF a b n n0 r) v1 v2) (hlen:rows2.length=rows1.length) (hrows2:zkz (zdF a b n n0 r) rows1 rows2):CallOk P f args ⟨.f A B g0 t,n⟩ v2 (zuP a b n0 r z g1 rows2 ⟨.f A B g0 t,n⟩):=by
 unfold zyl at hL;split at hL
 ·rename_i hg;split at hL
  ·rename_i hB;split at hL
   ·rename_i hBn;split at hL
    ·rename_i hn0;have hB:B-A=b-a:=yjX hB;have hBn:B<=n:=ynX hBn;have hn0:n0<=r.length:=ynX hn0;have hl1:rows1.length<=a:=ynX hL;obtain⟨hap,hout,_,hlr,hab⟩:=znH hg;have hout:=zfW hout
     have rout:∀k,¬(a<=k/\k<b)->zbQ a b A [] r k=r[k]? :=λk hk=>by unfold zbQ;rw[zhP hk,zbc]
     refine CallOk.liftGen (z:=z) (R:=zbQ a b A [] r) (nA:=b) (zdF a b n n0 r) (λB'=>if B'<n+(b-a) then a+(B'-n) else n0+(B'-(n+(b-a)))) hc
      (Ren.ofG hg hrows (λj o1 hj ho _=>⟨by show(T.f A B g0 t).get _=_;rw[zah zo];exact ho,hc0 j o1 ho⟩) (λp hp=>by cases hp)) (zjp hg).2.1 hargs ?_ (λk hk=> ?_) hv (λK o hK=> ?_)
     ·show n<=n+(b-a)+(a-n0);omega
     ·by_cases hr:a<=k/\k<b
      ·refine .inl ?_
       have e:zdF a b n n0 r k=n+(k-a):=by unfold zdF;rw[inR_iff.2 hr];exact zbk _ _
       rw[e];refine⟨ytZ _ _,?_,?_⟩
       ·show n+(k-a)<n+(b-a)+(a-n0);omega
       ·show(if n+(k-a)<n+(b-a) then a+(n+(k-a)-n) else _)=k;rw[ygX zo];omega
      ·have hk2:k<a:=zo
       have e:zdF a b n n0 r k=rho r n0 (n+(b-a)) k:=by unfold zdF;rw[zhP hr];rfl
       rw[e];unfold rho
       cases hlt:Nat.blt k n0 with
       |true=>
        have hlt:=zby hlt;refine .inr ⟨hlt,?_⟩;rw[rout k hr,ysX zo];show some _=some (rn r k);unfold rn;rw[zbc,ysX zo]
       |false=>
        have hge:n0<=k:=yNZ λh=>by rw[show Nat.blt k n0=true from ysY h] at hlt;cases hlt
        refine .inl ⟨?_,?_,?_⟩
        ·show n<=n+(b-a)+(k-n0);omega
        ·show n+(b-a)+(k-n0)<n+(b-a)+(a-n0);omega
        ·show(if n+(b-a)+(k-n0)<n+(b-a) then _ else n0+(n+(b-a)+(k-n0)-(n+(b-a))))=k;rw[yfX zo];omega
     ·have hK:(T.f n (n+(b-a)) g1 (.f A B (λ_=>none) (zsP r n0 (n+(b-a)) 0 rows2 (zb4 (zb4 t r) z)))).get K=some o:=hK;rw[yAZ] at hK;split at hK
      ·rename_i hin;refine .inl ⟨a+(K-n),o,?_,?_,?_⟩
       ·rw[zdf,ygX ⟨zo,zo⟩,yLX];exact hK
       ·have:=hc1 _ o hK;unfold RnO;unfold zaZ at this
        cases o with
        |row c e q=>exact⟨rfl,rfl, .inr ⟨rfl,this⟩⟩
        |iter s p=>exact⟨rfl,rfl⟩
       ·unfold zdF;rw[inR_iff.2 ⟨zo,zo⟩,zbk]
        show K=n+(a+(K-n)-a)
        omega
      ·rw[yAZ] at hK;split at hK
       ·cases hK
       ·rename_i hnAB
        rcases zen hK with⟨j,h1,h2⟩|h1
        ·obtain⟨o1,h3,h4⟩:=zfM hrows2 h1;have hj:j<rows1.length:=(y7X.1 h3).1;refine .inl ⟨j,o1,?_,h4,?_⟩
         ·rw[zdf,yfX zo];exact h3
         ·rw[h2,ylX];unfold zdF;rw[zhP zo];rfl
        ·obtain⟨h2',hz2⟩:=zaG h1;obtain⟨h2,h3⟩:=zaG h2';refine .inr ⟨?_,hz2,λk o0 h0 e=> ?_⟩
         ·show(T.f A B g0 t).get K=_;rw[yAZ,yfX hnAB];exact h2
         ·by_cases hr:a<=k/\k<b
          ·unfold zbQ at e;rw[inR_iff.2 hr] at e
           have e:ovG A [] (k-a)=K:=by injection e
           rw[zqw,zbk] at e;exact hnAB ⟨zo,zo⟩
          ·rw[rout k hr] at e;exact h3 (yHX e)
    ·cases hL
   ·cases hL
  ·cases hL
 ·cases hL
theorem KCall.liftGz {P:Program} {n0 a b A B n:Nat} {f:FuncId} {args0 args:List AV} {g0 g1:Nat->Option AO} {t:T AO} {rows0 rows1:List AO} {v1:AV} {K:KC} (r z:List Nat) (v2:AV) (rows2:List AO) (hc:HG P n0 a b f args0 g0 rows0 v1 g1 rows1) (hL:zyl a b n0 A B n r z rows1.length=true)
  (hc0:∀j o,g0 j=some o->zaZ o) (hc1:∀j o,g1 j=some o->zaZ o)
  (hrows:zcL (.f A B g0 t) z (zbQ a b A [] r) rows0 r) (hargs:zgy (RS (zbQ a b A [] r)) args0/\Wvl (.f A B g0 t) z (RD (zbQ a b A [] r)) args0 args)
  (hv:Rn (zdF a b n n0 r) v1 v2/\rows2.length=rows1.length/\zkz (zdF a b n n0 r) rows1 rows2) (hk:(zuP a b n0 r z g1 rows2 ⟨.f A B g0 t,n⟩).nfK λs=>K v2 s):KCall P f args ⟨.f A B g0 t,n⟩ K:=by
 have hle:n<=(zuP a b n0 r z g1 rows2 ⟨.f A B g0 t,n⟩).n:=by show n<=n+(b-a)+(a-n0);omega
 exact⟨v2,_,CallOk.liftGz r z v2 rows2 hc hL hc0 hc1 hrows hargs hv.1 hv.2.1 hv.2.2,hle,yDY hk⟩
section
variable {P : Program}
theorem PureC.coreS (hmix:P.follows .mixedOrders=true) {f:FuncId} {args:List AV} {v:AV} {s00:St} (hemp:∀k,s00.h.get k=none) (h:zo0 P 0 f args s00 (PRet v)) {s0:St} {m m0:Mp} {w:World} {args':List Value} (hok:Ok m s0.h.get w) (hz:m0.z=m.z) (ha:Above m0 s00.n) (hR0:Rl m0 args args'):
  Calls P f args'.toArray w λe w'=>∃y m',e= .returned y/\Goes s0.h.get s0.h.get s0.n s0.n m m' w w'/\R1 m' v y:=by
 obtain⟨g0,z0⟩:=m0;simp only at hz;subst hz;unfold zo0 at h;split at h
 ·exact h.elim
 ·rename_i fn hfn;split at h
  ·exact h.elim
  ·rename_i c hcb;have h:=zcI (yaY (K:=λa=>startK ⟨zf2 0 .e args,Nat.add a (Nat.sub fn.ntmps a)⟩ s00 λt s=>zfG P 0 c t s λx t s=>match x with| .exit _=>False|_=>zqj P t s fn.results.toList (PRet v)) h)
   let m0:Mp:=⟨g0,m.z⟩
   have hok0:Ok m0 s00.h.get w:=⟨λ_ _ h=>(by rw[hemp] at h;cases h),λ_ _ _ _ h=>(by rw[hemp] at h;cases h),λk i v hv=>⟨(hok.fz k i v hv).1,λ_ _ h=>(by rw[hemp] at h;cases h)⟩,hok.tbsub λ_ _ h=>(by rw[hemp] at h;cases h)⟩
   refine calls_of_wp hfn hcb (wp_mono (zbJ hmix c h m0 _ w (Fit.start hR0 fn.ntmps) rfl hok0 ha (ymX _)) ?_);rintro e a' w' ⟨x,t',s',m',rfl,hk,hf',hd',hg,ha',hn'⟩
   have hx:xtE x= .normal∨xtE x= .ret:=by
    cases x with
    |normal=>exact .inl rfl
    |ret=>exact .inr rfl
    |exit i=>exact hk.elim
   have hk':zqj P t' s' fn.results.toList (PRet v):=by
    cases x with
    |normal=>exact hk
    |ret=>exact hk
    |exit i=>exact hk.elim
   obtain⟨l,hl,⟨z,hz⟩⟩:=zbA hk';obtain⟨y,hy,hRy⟩:=zcB (fn:=fn) hf' hg.ok hl;have hRz:=zsf (z:=z) hg.ok v hz hRy
   have fin:∃y' m2,Ending.returned y= .returned y'/\Goes s0.h.get s0.h.get s0.n s0.n m m2 w w'/\R1 m2 v y':=by
    refine⟨y,⟨m.f,zdL m' s'.h.get z w'⟩,rfl,⟨yhX _,λ_ _=>rfl,⟨λb o hb=> ?_,hok.apart,λk i v hv=> ?_,hok.tbs (λk hk _=>hg.fr.block k hk λb o hb=>by rw[hemp] at hb;cases hb) λb o hb=> .inl ⟨b,o,hb,rfl⟩⟩,⟨hg.fr.os,hg.fr.tape,hg.fr.output,hg.fr.size,λk hk _=>hg.fr.block k hk λb o hb=>by rw[hemp] at hb;cases hb⟩,λb o hb=> .inl ⟨b,o,hb,rfl⟩,λk i v hv=>zaW _ _ _ (hg.zle k i v hv),λk i v hv=> ?_⟩,hRz.r1⟩
    ·have hRo:=hok.has b o hb;refine yMZ hRo ⟨λ_ _ h=>h,λk i v hv=>zaW _ _ _ (hg.zle k i v hv)⟩ λk hk=> ?_;obtain⟨k',hk',hlt⟩:=y5X hRo;rw[hk] at hk';cases hk'
     exact hg.fr.block k hlt λb o hb=>by rw[hemp] at hb;cases hb
    ·have hnew:m.z k i=some v∨w.heap.size<=k:=by
      rcases zat hv with h1|⟨⟨b1,o1,h3,h4,h5⟩,_⟩
      ·rcases hg.znew k i v h1 with h2|⟨b0,o0,h2,_⟩|h2
       ·exact .inl h2
       ·rw[hemp] at h2;cases h2
       ·exact .inr h2
      ·rcases hg.new b1 o1 h4 with⟨b0,o0,h0,_⟩|⟨k1,e1,hk1⟩
       ·rw[hemp] at h0;cases h0
       ·rw[e1] at h5;cases h5;exact .inr hk1
     have hcell:∃cur e fr,w'.heap[k]? =some (.cells cur e fr)/\cur[i]? =some v:=by
      rcases zat hv with h1|⟨_,h1⟩
      ·exact(hg.ok.fz k i v h1).1
      ·exact h1
     refine⟨hcell,λb o hb=> ?_⟩
     rcases hnew with h1|h1
     ·exact(hok.fz k i v h1).2 b o hb
     ·obtain⟨k',hk',hlt⟩:=y5X (hok.has b o hb);show blk m b≠some k;rw[hk'];intro e;cases e;omega
    ·rcases zat hv with h1|⟨⟨b1,o1,h3,h4,h5⟩,_⟩
     ·rcases hg.znew k i v h1 with h2|⟨b0,o0,h2,_⟩|h2
      ·exact .inl h2
      ·rw[hemp] at h2;cases h2
      ·exact .inr (.inr h2)
     ·rcases hg.new b1 o1 h4 with⟨b0,o0,h0,_⟩|⟨k1,e1,hk1⟩
      ·rw[hemp] at h0;cases h0
      ·rw[e1] at h5;cases h5;exact .inr (.inr hk1)
   rcases hx with hx|hx
   ·rw[hx];exact⟨hd',y,hy,fin⟩
   ·rw[hx];exact⟨hd',y,hy,fin⟩
end
theorem zo2 (a b k:Nat):(zaw a b (λ_=>none) []).h.get k=none:=by
 rw[zdf];split
 ·rfl
 ·simp
theorem PureC.ofF {P:Program} (hmix:P.follows .mixedOrders=true) {f:FuncId} {args:List AV} {v:AV} (hc:cont.contL args=true) (h:zo0 P 0 f args (zaw 20 220 (λ_=>none) []) (PRet v)):PureC P f args v:=by
 intro s0 m w args' hR hok _;exact PureC.coreS hmix (zo2 20 220) h hok (m0:=⟨λ_=>none,m.z⟩) rfl (λ_ _=>rfl) (zbX (m1:=⟨λ_=>none,m.z⟩) hc hR λ_ _ _ h=>h)
end Go.Ex
abbrev yYZ:=@Go.Ex.KCall.liftGz
namespace Ck
open Go Go.Ex
theorem zka {α:Type} {enc:α->List AV} (o:α) (l:List α) (a:Nat):∀n,a+n<=l.length->(List.range n).flatMap (λi=>enc (gd o l (a+i)))=((l.drop a).take n).flatMap enc
 |0,_=>rfl
 |n+1,h=>by
  rw[yUY,yJX,zka o l a n zo,zcG enc o (l.drop a) n (by simp;omega)]
  have:gd o (l.drop a) n=gd o l (a+n):=by unfold gd;rw[y8X]
  rw[this];simp
end Ck
namespace Go.Proofs.YtgcjejajljhnaaaGreatDoor
open Go.Ex Ck
set_option maxRecDepth 100000
set_option maxHeartbeats 16000000
theorem zsD (n:Nat) (p:Ck.Rp) (hf:Rk n p) (hrv:Rv p) (hE:zm8 p) (hP:Pw p) (h0:E0 p) (hn:n<=96) (hb:p.fd.length<=250000):HG Tryz.prog 2 20 220 68 [.agg (rV n 20 0 1 p)] (gP false (nf p)) [.row (flatI (rcP false 20) 0 (p).v.rs) 66 10, .row ((cnL n (p)).map bb) 4 0] (.agg (rV n 20 0 1 (badNames p)))
  (gP false (nf (badNames p))) [.row (flatI (rcP false 20) 0 ((badNames p)).v.rs) 66 10, .row ((cnL n ((badNames p))).map bb) 4 0]:=by
 have hpn:=hf.rf.n
 have h96:p.v.rs.length<=96:=by rw[hf.rf.n];exact hn
 obtain⟨B,hB⟩:∃B,B=1000:=⟨_,rfl⟩
 have hI:=zhG hB hf;have hI2:=zs5 hrv h96 hE hP h0;rw[hpn] at hI2;refine HG.of zal zo ?_;refine Ex.go ?_;refine Ex.wl n (λd=>zag [(1, .ptr 2 0),(2, .ptr 3 0),(3,ib d)] 100) (λd=>zaw 20 220 (gP false (nf (blw badNames1 p d))) [.row (flatI (rcP false 20) 0 (blw badNames1 p d).v.rs) 66 10, .row ((cnL n (blw badNames1 p d)).map bb) 4 0, .row (rV n 20 0 1 (blw badNames1 p d)) 53 0, .row zkw 53 0]) ?_ ?_
 ·exact Ex.wG [0,1,220,221] [] [] ⟨rQ h96,bR,bV,aR,zT⟩
 intro d hd;obtain⟨h1,h2⟩:=zh7 (f:=badNames1) (I:=λj q=>Rk n q/\q.fd.length<=p.fd.length+j*B) hI hd;obtain⟨k1,k2,k3,k4,k5⟩:=zh7 (f:=badNames1) (I:=λ_ q=>P5 p q) hI2 hd;have hlo:=zrW (f:=badNames1) (p:=p) (d:=d);have hhi:=zrX (f:=badNames1) (p:=p) (d:=d);have hfin:d=n->blw badNames1 p d=badNames p:=λe=>zmY (by rw[e,hpn]);have hmul:(d-16)*B<=96*B:=yEX _ zo
 generalize blw badNames1 p d=q0 at*
 have hqn0:q0.v.rs.length=n:=h1.rf.n;have hq96:q0.v.rs.length<=96:=zo;by_cases h:d<n
 ·have hltq:d<q0.v.rs.length:=zo;have hd96:d<96:=zo
  have hd0:(0:Int)<=(d:Nat)/\((d:Nat):Int)<(n:Nat):=⟨zo,zo⟩
  have h7:0+((d:Nat):Int).toNat*10+7=d*10+7:=by simp
  obtain⟨ob,hob⟩:∃b,(decide (16<=d)&&own (at_ Rc.o q0.v.rs d))=b:=⟨_,rfl⟩
  have hO:=zju q0.v d hltq zo hob;cases ob
  ·have hsame:blw badNames1 p (d+1)=q0:=by
    by_cases h16:16<=d
    ·rw[hhi h16,yfX];rw[ybX h16,y3X] at hob;simp[hob]
    ·exact hlo zo
   (conv=>whnf);repeat(first|refine Ck.lV q0 (hO) hq96 hqn0.symm (Wzc (ydX rfl) Wzn) ?_|refine Ex.g ?_|refine Ex.om ?_);conv=>whnf
   refine⟨d+1,zo,by dsimp only;omega,?_⟩;dsimp only;rw[hsame];exact Ex.wG [0,1,2,3] [] [] ⟨rQ hq96,bR,bV,aR,zT⟩
  ·(conv=>whnf);repeat(first|refine Ck.lV q0 (hO) hq96 hqn0.symm (Wzc (ydX rfl) Wzn) ?_|refine Ex.g ?_|refine Ex.om ?_);conv=>whnf
   simp only[ykX,yDX] at hob
   have hob2:own (q0.rc d)=true:=by rw[zae];exact hob.2
   have hi16:16<=d/\d<q0.v.rs.length:=⟨hob.1,hltq⟩
   have hbn:blw badNames1 p (d+1)=badNames1 q0 d:=by rw[hhi hob.1,ygX hob.2]
   obtain⟨all,hall⟩:∃all,all=(at_ Rc.o q0.v.rs d).ns:=⟨_,rfl⟩
   have hrx:=k1.at hltq
   have hal8:all.length<=8:=by rw[hall];exact hrx.ns8
   have hnm:∀m∈all,zau m.n=0:=λm hm=>(zcN (hrx.nn m (by rw[←hall];exact hm))).2;rw[zlL,←hall] at hbn;have hz0:zaD d ([]++all.drop 0) q0=q0:=zoA hltq (by rw[←hall];rfl);have hrun:=(Nj.start k2 k3 k4 (i:=d)).run hi16 hob2;have hrv2:=zvs k1 hq96 hi16;rw[zae,←hall] at hrun hrv2;have hin:=zjG (i:=d) (all:=all) h1 (λm hm=>by rw[hall] at hm;exact(h1.na.ns_at d).2 m hm);refine Ex.wl all.length (λm=>zag [(1, .ptr 2 0),(2, .ptr 3 0),(3,ib d),(4,ib (it (nameStep d all) (q0,[]) m).2.length)] 100) (λm=>zaw 20 220 (gP false (nf (zaD d ((it (nameStep d all) (q0,[]) m).2++all.drop m) (it (nameStep d all) (q0,[]) m).1))) [.row (flatI (rcP false 20) 0 (zaD d ((it (nameStep d all) (q0,[]) m).2++all.drop m) (it (nameStep d all) (q0,[]) m).1).v.rs) 66 10, .row ((cnL n (zaD d ((it (nameStep d all) (q0,[]) m).2++all.drop m) (it (nameStep d all) (q0,[]) m).1)).map bb) 4 0, .row (rV n 20 0 1 (zaD d ((it (nameStep d all) (q0,[]) m).2++all.drop m) (it (nameStep d all) (q0,[]) m).1)) 53 0, .row zkw 53 0]) ?_ ?_
   ·rw[show it (nameStep d all) (q0,[]) 0=(q0,[]) from rfl,hz0];exact Ex.wG [0,1,2,3] [] [] ⟨rQ hq96,bR,bV,aR,zT⟩
   intro m hm;obtain⟨g1,g2,g3,g4⟩:=hin m hm;obtain⟨g5,_,_,_⟩:=hrv2 m hm;have g6:=(hrun m hm).pw;have hst2:it (nameStep d all) (q0,[]) (m+1)=nameStep d all (it (nameStep d all) (q0,[]) m) m:=rfl
   have hfin2:m=all.length->zaD d ((it (nameStep d all) (q0,[]) m).2++all.drop m) (it (nameStep d all) (q0,[]) m).1=blw badNames1 p (d+1):=λe=>by rw[hbn,e,y9X,yKX]
   clear hrun hrv2 hin
   obtain⟨q1,st,hqs⟩:∃q1 st,it (nameStep d all) (q0,[]) m=(q1,st):=⟨_,_,rfl⟩
   rw[hqs] at g1 g2 g3 g4 g5 g6 hst2 hfin2⊢;clear hqs;dsimp only at g1 g2 g3 g4 g5 g6 hfin2⊢;have hsn:q1.v.rs.length=n:=g1.rf.n;have hsd:d<q1.v.rs.length:=zo
   obtain⟨L,hL⟩:∃L,st++all.drop m=L:=⟨_,rfl⟩
   rw[hL] at hfin2⊢;have hQlen:(zaD d L q1).v.rs.length=n:=setNs_len.trans hsn;have hQns:(at_ Rc.o (zaD d L q1).v.rs d).ns=L:=znm hsd;have hQes:∀j,(at_ Rc.o (zaD d L q1).v.rs j).es=(at_ Rc.o q1.v.rs j).es:=zjf hsd;have hQis:=λb x=>zkT (p:=q1) (L:=L) hsd b x
   have hesL:∀j,∀e∈(at_ Rc.o (zaD d L q1).v.rs j).es,zau e.n=0:=λj e he=>by
    rw[hQes] at he;by_cases hj:j<q1.v.rs.length
    ·exact(zbv ((g5.at hj).en e he)).1
    ·rw[zr7 _ _ _ zo] at he;cases he
   have hesl:∀j,(at_ Rc.o (zaD d L q1).v.rs j).es.length<=1000:=λj=>by rw[hQes];exact(g1.na.es_at j).1
   have hLl:L.length=st.length+(all.length-m):=by rw[←hL];simp
   have hLn:∀e∈L,zau e.n=0:=λe he=>by
    rw[←hL] at he;refine hnm e ?_
    rcases yRX.1 he with he|he
    ·exact g4 e he
    ·exact List.mem_of_mem_drop he
   have hQss:∀x∈(zaD d L q1).v.rs,x.ss.length<=100000/\x.es.length<=1000:=λx hx=>by
    rcases mem_set hx with hx|rfl
    ·exact⟨g1.ss x hx,(g1.na.es x hx).1⟩
    ·exact⟨(g1.at h).2.2.2,(g1.at h).2.1.1⟩
   have hQfl:(zaD d L q1).fl.length=(zaD d L q1).fd.length:=g1.rf.fl;have hQfd:(zaD d L q1).fd.length<=q0.fd.length+m:=g2;have hcn:∀k,(zaD d L q1).note k d st.length=zaD d L (q1.note k d st.length):=λk=>rfl
   have hQpw:∀j,Pws (at_ Rc.o (zaD d L q1).v.rs j).es:=λj=>by rw[hQes];exact g6 j
   obtain⟨Q,hQ⟩:∃Q,zaD d L q1=Q:=⟨_,rfl⟩
   rw[hQ] at hQlen hQns hQes hQis hesL hesl hQss hQfl hQfd hcn hQpw hfin2⊢;have hQ96:Q.v.rs.length<=96:=zo;have hQd:d<Q.v.rs.length:=zo;by_cases hkl:m<all.length
   ·obtain⟨x,hx⟩:∃x,at_ Nm.o all m=x:=⟨_,rfl⟩
    obtain⟨R,hR⟩:∃R,all.drop (m+1)=R:=⟨_,rfl⟩
    have hLx:L=st++x::R:=by rw[←hL,drop_at Nm.o all m hkl,hx,hR]
    have hLr:L.length=st.length+1+R.length:=by rw[hLx];simp;omega
    have hkx:st.length<(at_ Rc.o Q.v.rs d).ns.length:=by rw[hQns];omega
    have hatx0:at_ Nm.o (at_ Rc.o Q.v.rs d).ns st.length=x:=by rw[hQns,hLx];unfold at_;simp
    have hatx:at_ Nm.o (at_ Rc.o Q.v.rs d).ns (((st.length:Nat):Int)).toNat=x:=hatx0
    have hbf:(at_ Rc.o Q.v.rs d).ns.take st.length=st:=by rw[hQns,hLx,List.take_left]
    have hxm:x∈all:=by rw[←hx];exact at_mem Nm.o all m hkl
    have hxn:=hnm x hxm
    have hnl:(at_ Rc.o Q.v.rs d).ns.length<=1000:=by rw[hQns];omega
    have hk0:(0:Int)<=(st.length:Nat)/\((st.length:Nat):Int)<((at_ Rc.o Q.v.rs d).ns.length:Nat):=⟨zo,zo⟩
    have hki:((st.length:Nat):Int)<((at_ Rc.o Q.v.rs d).ns.length:Nat):=hk0.2
    obtain⟨b,hb1⟩:∃b,(isName q1 d st x).1=b:=⟨_,rfl⟩
    have hbQ:(isName Q d st x).1=b:=by rw[hQis];exact hb1
    have hBN:=zoI Q d st.length st x hQd hkx hbf hatx0 hQ96 hnl (by rw[hQns];exact hLn) hesL hesl hbQ
    have hns:nameStep d all (q1,st) m=if b then(if(isName q1 d st x).2 then q1 else enter (q1.note 5 d st.length) x.d.r x.n d,st++[x]) else(if !st.contains x&& !R.contains x then drop (q1.note 4 d st.length) d x else q1.note 4 d st.length,st):=by
     unfold nameStep;dsimp only;rw[hx,hR,hb1]
    cases b
    ·have hNo:=zcM n Q 4 d (st.length:Nat) hQlen hn hQfl zo zo;have hQd4:d<(Q.note 4 d st.length).v.rs.length:=hQd;have hns4:(at_ Rc.o (Q.note 4 d st.length).v.rs d).ns=L:=hQns
     have hs1:0<=((st.length:Nat):Int)/\((st.length:Nat):Int)<=((at_ Rc.o (Q.note 4 d st.length).v.rs d).ns.length:Nat):=⟨zo,by rw[hns4];omega⟩
     have hs2:0<=((st.length:Nat):Int)+1/\((st.length:Nat):Int)+1<=((at_ Rc.o (Q.note 4 d st.length).v.rs d).ns.length:Nat):=⟨zo,by rw[hns4];omega⟩
     obtain⟨L',hL'⟩:∃L',st++R=L':=⟨_,rfl⟩
     have hL'l:L'.length=st.length+R.length:=by rw[←hL'];simp
     have hp'n:(zaD d L' (Q.note 4 d st.length)).v.rs.length=n:=setNs_len.trans hQlen;have hp's:(at_ Rc.o (zaD d L' (Q.note 4 d st.length)).v.rs d).ns=L':=znm hQd4;have hp'e:∀j,(at_ Rc.o (zaD d L' (Q.note 4 d st.length)).v.rs j).es=(at_ Rc.o Q.v.rs j).es:=zjf hQd4
     obtain⟨Z,hZ⟩:∃Z,(if(at_ Rc.o (zaD d L' (Q.note 4 d st.length)).v.rs d).ns.contains x then zaD d L' (Q.note 4 d st.length) else drop (zaD d L' (Q.note 4 d st.length)) d x)=Z:=⟨_,rfl⟩
     have hLo:=zxg n (zaD d L' (Q.note 4 d st.length)) Z d x hp'n hn h (by rw[hp's];omega) (by rw[hp'e];exact hQpw _) (λj=>by rw[hp'e];exact hesL j) (λj=>by rw[hp'e];exact hesl j) hxn hZ;have hgq:gP false (nf (zaD d L' (Q.note 4 d st.length)))=gP false (nf (Q.note 4 d st.length)):=zc4 (p:=nf (Q.note 4 d st.length)) ⟨rfl,rfl⟩;rw[hgq] at hLo
     have hz96:Z.v.rs.length<=96:=by
      rw[←hZ];split
      ·omega
      ·unfold drop;split
       ·show(List.set _ _ _).length<=96;rw[yoX];omega
       ·omega
     have hp'q:zaD d L' (Q.note 4 d st.length)=zaD d L' (q1.note 4 d st.length):=by rw[hcn];exact zp6 (p:=q1.note 4 d st.length) hsd
     have hnext:zaD d ((nameStep d all (q1,st) m).2++R) (nameStep d all (q1,st) m).1=Z:=by
      rw[←hZ,hp's,hp'q,hns,yfX (by simp)];dsimp only
      have hct:L'.contains x=(st.contains x||R.contains x):=by rw[←hL',yhZ];simp
      rw[hct,hL'];cases h1:st.contains x<;>cases h2:R.contains x
      ·exact zoB (p:=q1.note 4 d st.length) hsd
      all_goals rfl
     have hlen2:(nameStep d all (q1,st) m).2.length=st.length:=by rw[hns,yfX (by simp)]
     obtain⟨X,hX⟩:∃X,(at_ Rc.o (Q.note 4 d st.length).v.rs d).ns=X:=⟨_,rfl⟩
     have hXl:X.length=st.length+1+R.length:=by rw[←hX,hns4];omega
     have hXe:X=st++x::R:=by rw[←hX,hns4,hLx]
     have eA:(List.range (((st.length:Nat):Int).toNat-0)).flatMap (λi=>aNm (at_ Nm.o X (0+i)))=st.flatMap aNm:=by
      have:=zka (enc:=aNm) Nm.o X 0 (((st.length:Nat):Int).toNat-0) zo;rw[y8Z,show((st.length:Nat):Int).toNat-0=st.length by omega,hXe,List.take_left] at this;rw[show((st.length:Nat):Int).toNat-0=st.length by omega,hXe];exact this
     have eB:(List.range (X.length-(((st.length:Nat):Int)+1).toNat)).flatMap (λi=>aNm (at_ Nm.o X ((((st.length:Nat):Int)+1).toNat+i)))=R.flatMap aNm:=by
      have h2:(((st.length:Nat):Int)+1).toNat=st.length+1:=zo;have h3:X.length-(st.length+1)=R.length:=zo;have:=zka (enc:=aNm) Nm.o X (st.length+1) R.length zo;rw[hXe,yOZ,yhY zo,yAY,show st.length+1-st.length=1 by omega,List.drop_succ_cons,y8Z,yCY] at this;rw[h2,h3,hXe];exact this
     rw[hX] at hs1 hs2
     have hXl2:(at_ Rc.o Q.v.rs d).ns.length=st.length+1+R.length:=by rw[hQns];omega
     subst hX
     by_cases hk1:st=[]
     ·subst hk1;have hrlen:(0:Nat)=0:=rfl
      by_cases hr1:R=[]
      ·subst hr1;have hL0:L'=[]:=hL'.symm;have hn0:([]:List Nm).length=0:=rfl;have hcB:Nat.ble (0+(((([]:List Nm).length:Nat):Int).toNat-0)+((at_ Rc.o (Q.note 4 d ([]:List Nm).length).v.rs d).ns.length-(((([]:List Nm).length:Nat):Int)+1).toNat)) 0=true:=zc1 (by simp only[ySX] at*;omega)
       (conv=>whnf);repeat(first|refine Need.mk ?_ ?_;(focus(first|exact hd0|exact hk0|exact hs1|exact hs2))|refine RK.of (zam (zab false 20) Rc.o (k:=7) h7 rfl rfl hQd (by decide) rfl) ?_|refine RK.of (zam (zab false 221) Rc.o (k:=7) h7 rfl rfl hQd4 (by decide) rfl) ?_|refine KIf.t (ybX hki) ?_|rw[hatx]|refine Ck.lV Q (hBN) hQ96 hQlen.symm (Wzc (ydX rfl) (Wzc (ydX rfl) Wzn)) ?_|refine Ck.cV (p':=(Q.note 4 d ([]:List Nm).length)) (hNo) hQ96 hQ96 (WL.sc rfl (WL.sc rfl (WL.sc rfl yMX))) ?_|refine ygY (rV n 221 0 1 (Q.note 4 d ([]:List Nm).length)) ?_|refine Need.mk (λ_ _=>rfl) ?_|refine RK.of (zaK (zbe zo) rfl) ?_|refine KIf.t (hcB) ?_|refine zaV (zab false 221) Rc.o (k:=7) [.sl 439 0 _ 0] (rcN 221 d (at_ Rc.o Q.v.rs d) (.sl 439 0 _ 0)) h7 rfl rfl rfl rfl rfl rfl hQd4 (by decide) rfl ?_|refine yYZ [0,1] [439] (.agg (rV n 440 0 1 (Z))) [.row (flatI (rcP false 440) 0 (Z).v.rs) 66 10, .row ((cnL n (Z)).map bb) 4 0] (hLo) rfl (yQX _ _) (yQX _ _) ?_ ?_ ?_ ?_;exact⟨⟨rfl,rfl,yzX (zaI (i:=d) hQ96 setNs_len (λk hk=>zap _ _ _ _ _ (Ne.symm hk)) zN (by show WL _ _ _ (rcP false 20 d (at_ Rc.o (zaD d L' (Q.note 4 d ([]:List Nm).length)).v.rs d)) _;rw[zaY hQd4,ygX rfl];exact zjs hd96 zN (Wv.mt (enc:=aNm) (o:=Nm.o) (l:=L') hL0 (by simp only[ySX] at*;omega) rfl (by simp))))⟩,bR,zT⟩;exact ywX (za2 (zdN FR.G ⟨rfl,rfl⟩ ⟨rfl,rfl⟩)) (WL.sc rfl (WL.sc rfl yMX));exact⟨(zdC (zdq FN.G rfl rfl)),rfl,⟨⟨rfl,rfl, .inl (zaE hz96)⟩,⟨rfl,rfl, .inr ⟨rfl,zaF _⟩⟩,zT⟩⟩|refine ygY (rV n 440 0 1 Z) ?_|refine Ex.g ?_);conv=>whnf
       refine⟨m+1,zo,by dsimp only;omega,?_⟩;dsimp only;rw[hst2,hR,hnext,hlen2];exact Ex.wG [0,1,2,3] [] [] ⟨rQ hz96,bR,bV,aR,zT⟩
      ·have hR0:0<R.length:=yXX.2 hr1
       have hcB:Nat.ble (0+(((([]:List Nm).length:Nat):Int).toNat-0)+((at_ Rc.o (Q.note 4 d ([]:List Nm).length).v.rs d).ns.length-(((([]:List Nm).length:Nat):Int)+1).toNat)) 0=false:=by cases h:Nat.ble (0+(((([]:List Nm).length:Nat):Int).toNat-0)+((at_ Rc.o (Q.note 4 d ([]:List Nm).length).v.rs d).ns.length-(((([]:List Nm).length:Nat):Int)+1).toNat)) 0 with|false=>rfl|true=>have:=ynX h;omega
       (conv=>whnf);repeat(first|refine Need.mk ?_ ?_;(focus(first|exact hd0|exact hk0|exact hs1|exact hs2))|refine RK.of (zam (zab false 20) Rc.o (k:=7) h7 rfl rfl hQd (by decide) rfl) ?_|refine RK.of (zam (zab false 221) Rc.o (k:=7) h7 rfl rfl hQd4 (by decide) rfl) ?_|refine KIf.t (ybX hki) ?_|rw[hatx]|refine Ck.lV Q (hBN) hQ96 hQlen.symm (Wzc (ydX rfl) (Wzc (ydX rfl) Wzn)) ?_|refine Ck.cV (p':=(Q.note 4 d ([]:List Nm).length)) (hNo) hQ96 hQ96 (WL.sc rfl (WL.sc rfl (WL.sc rfl yMX))) ?_|refine ygY (rV n 221 0 1 (Q.note 4 d ([]:List Nm).length)) ?_|refine Need.mk (λ_ _=>rfl) ?_|refine KIf.f (hcB) ?_|refine zaV (zab false 221) Rc.o (k:=7) [.so 440 0 _ 0] (rcN 221 d (at_ Rc.o Q.v.rs d) (.so 440 0 _ 0)) h7 rfl rfl rfl rfl rfl rfl hQd4 (by decide) rfl ?_|refine yYZ [0,1] [440] (.agg (rV n 441 0 1 (Z))) [.row (flatI (rcP false 441) 0 (Z).v.rs) 66 10, .row ((cnL n (Z)).map bb) 4 0] (hLo) rfl (yQX _ _) (yQX _ _) ?_ ?_ ?_ ?_;exact⟨⟨rfl,rfl,yzX (zaI (i:=d) hQ96 setNs_len (λk hk=>zap _ _ _ _ _ (Ne.symm hk)) zN (by show WL _ _ _ (rcP false 20 d (at_ Rc.o (zaD d L' (Q.note 4 d ([]:List Nm).length)).v.rs d)) _;rw[zaY hQd4,ygX rfl];exact zjs hd96 zN (yjZ (enc:=aNm) (o:=Nm.o) (l:=L') (λ_=>rfl) (λ_=>rfl) rfl (by simp) zo (by rw[←hL',yJX,←eB];rfl))))⟩,bR,zT⟩;exact ywX (za2 (zdN FR.G ⟨rfl,rfl⟩ ⟨rfl,rfl⟩)) (WL.sc rfl (WL.sc rfl yMX));exact⟨(zdC (zdq FN.G rfl rfl)),rfl,⟨⟨rfl,rfl, .inl (zaE hz96)⟩,⟨rfl,rfl, .inr ⟨rfl,zaF _⟩⟩,zT⟩⟩|refine ygY (rV n 441 0 1 Z) ?_|refine Ex.g ?_);conv=>whnf
       refine⟨m+1,zo,by dsimp only;omega,?_⟩;dsimp only;rw[hst2,hR,hnext,hlen2];exact Ex.wG [0,1,2,3] [] [] ⟨rQ hz96,bR,bV,aR,zT⟩
     ·have hs0:0<st.length:=yXX.2 hk1
      have hcA:Nat.ble (0+(((st.length:Nat):Int).toNat-0)) 0=false:=by cases h:Nat.ble (0+(((st.length:Nat):Int).toNat-0)) 0 with|false=>rfl|true=>have:=ynX h;omega
      have hrlen:([]++(List.range (((st.length:Nat):Int).toNat-0)).flatMap (λi=>aNm (at_ Nm.o (at_ Rc.o (Q.note 4 d st.length).v.rs d).ns (0+i)))).length=0+(0+(((st.length:Nat):Int).toNat-0))*3:=by rw[yAY,eA,ynZ (sz:=3) (λ_=>rfl)];omega
      by_cases hr1:R=[]
      ·subst hr1
       have hcB:((at_ Rc.o (Q.note 4 d st.length).v.rs d).ns.length-(((st.length:Nat):Int)+1).toNat)=0:=by simp only[ySX] at*;omega
       (conv=>whnf);repeat(first|refine Need.mk ?_ ?_;(focus(first|exact hd0|exact hk0|exact hs1|exact hs2))|refine RK.of (zam (zab false 20) Rc.o (k:=7) h7 rfl rfl hQd (by decide) rfl) ?_|refine RK.of (zam (zab false 221) Rc.o (k:=7) h7 rfl rfl hQd4 (by decide) rfl) ?_|refine KIf.t (ybX hki) ?_|rw[hatx]|refine Ck.lV Q (hBN) hQ96 hQlen.symm (Wzc (ydX rfl) (Wzc (ydX rfl) Wzn)) ?_|refine Ck.cV (p':=(Q.note 4 d st.length)) (hNo) hQ96 hQ96 (WL.sc rfl (WL.sc rfl (WL.sc rfl yMX))) ?_|refine ygY (rV n 221 0 1 (Q.note 4 d st.length)) ?_|refine Need.mk (λ_ _=>rfl) ?_|refine KIf.f (hcA) ?_|refine NCase.z hcB ?_|refine zaV (zab false 221) Rc.o (k:=7) [.so 440 0 _ 0] (rcN 221 d (at_ Rc.o Q.v.rs d) (.so 440 0 _ 0)) h7 rfl rfl rfl rfl rfl rfl hQd4 (by decide) rfl ?_|refine yYZ [0,1] [440] (.agg (rV n 441 0 1 (Z))) [.row (flatI (rcP false 441) 0 (Z).v.rs) 66 10, .row ((cnL n (Z)).map bb) 4 0] (hLo) rfl (yQX _ _) (yQX _ _) ?_ ?_ ?_ ?_;exact⟨⟨rfl,rfl,yzX (zaI (i:=d) hQ96 setNs_len (λk hk=>zap _ _ _ _ _ (Ne.symm hk)) zN (by show WL _ _ _ (rcP false 20 d (at_ Rc.o (zaD d L' (Q.note 4 d st.length)).v.rs d)) _;rw[zaY hQd4,ygX rfl];exact zjs hd96 zN (yjZ (enc:=aNm) (o:=Nm.o) (l:=L') (λ_=>rfl) (λ_=>rfl) rfl (by simp) (by simp only[ySX] at*;omega) (by rw[←hL',yKX,←eA];rfl))))⟩,bR,zT⟩;exact ywX (za2 (zdN FR.G ⟨rfl,rfl⟩ ⟨rfl,rfl⟩)) (WL.sc rfl (WL.sc rfl yMX));exact⟨(zdC (zdq FN.G rfl rfl)),rfl,⟨⟨rfl,rfl, .inl (zaE hz96)⟩,⟨rfl,rfl, .inr ⟨rfl,zaF _⟩⟩,zT⟩⟩|refine ygY (rV n 441 0 1 Z) ?_|refine Ex.g ?_);conv=>whnf
       refine⟨m+1,zo,by dsimp only;omega,?_⟩;dsimp only;rw[hst2,hR,hnext,hlen2];exact Ex.wG [0,1,2,3] [] [] ⟨rQ hz96,bR,bV,aR,zT⟩
      ·have hR0:0<R.length:=yXX.2 hr1;have hcB:((at_ Rc.o (Q.note 4 d st.length).v.rs d).ns.length-(((st.length:Nat):Int)+1).toNat)≠0:=zo
       (conv=>whnf);repeat(first|refine Need.mk ?_ ?_;(focus(first|exact hd0|exact hk0|exact hs1|exact hs2|exact hrlen))|refine RK.of (zam (zab false 20) Rc.o (k:=7) h7 rfl rfl hQd (by decide) rfl) ?_|refine RK.of (zam (zab false 221) Rc.o (k:=7) h7 rfl rfl hQd4 (by decide) rfl) ?_|refine KIf.t (ybX hki) ?_|rw[hatx]|refine Ck.lV Q (hBN) hQ96 hQlen.symm (Wzc (ydX rfl) (Wzc (ydX rfl) Wzn)) ?_|refine Ck.cV (p':=(Q.note 4 d st.length)) (hNo) hQ96 hQ96 (WL.sc rfl (WL.sc rfl (WL.sc rfl yMX))) ?_|refine ygY (rV n 221 0 1 (Q.note 4 d st.length)) ?_|refine Need.mk (λ_ _=>rfl) ?_|refine KIf.f (hcA) ?_|refine NCase.s hcB ?_|refine zaV (zab false 221) Rc.o (k:=7) [.so 441 0 _ 0] (rcN 221 d (at_ Rc.o Q.v.rs d) (.so 441 0 _ 0)) h7 rfl rfl rfl rfl rfl rfl hQd4 (by decide) rfl ?_|refine yYZ [0,1] [441] (.agg (rV n 442 0 1 (Z))) [.row (flatI (rcP false 442) 0 (Z).v.rs) 66 10, .row ((cnL n (Z)).map bb) 4 0] (hLo) rfl (yQX _ _) (yQX _ _) ?_ ?_ ?_ ?_;exact⟨⟨rfl,rfl,yzX (zaI (i:=d) hQ96 setNs_len (λk hk=>zap _ _ _ _ _ (Ne.symm hk)) zN (by show WL _ _ _ (rcP false 20 d (at_ Rc.o (zaD d L' (Q.note 4 d st.length)).v.rs d)) _;rw[zaY hQd4,ygX rfl];exact zjs hd96 zN (yjZ (enc:=aNm) (o:=Nm.o) (l:=L') (λ_=>rfl) (λ_=>rfl) rfl (by simp) zo (by rw[←hL',yJX,←eA,←eB];rfl))))⟩,bR,zT⟩;exact ywX (za2 (zdN FR.G ⟨rfl,rfl⟩ ⟨rfl,rfl⟩)) (WL.sc rfl (WL.sc rfl yMX));exact⟨(zdC (zdq FN.G rfl rfl)),rfl,⟨⟨rfl,rfl, .inl (zaE hz96)⟩,⟨rfl,rfl, .inr ⟨rfl,zaF _⟩⟩,zT⟩⟩|refine ygY (rV n 442 0 1 Z) ?_|refine Ex.g ?_);conv=>whnf
       refine⟨m+1,zo,by dsimp only;omega,?_⟩;dsimp only;rw[hst2,hR,hnext,hlen2];exact Ex.wG [0,1,2,3] [] [] ⟨rQ hz96,bR,bV,aR,zT⟩
    ·obtain⟨hb,hhb⟩:∃b,(isName q1 d st x).2=b:=⟨_,rfl⟩
     obtain⟨r1,r2,r3,r4⟩:=zce (zfy hb1).1;have hdi:((x.d.r.toNat:Nat):Int)=x.d.r:=yWY r1;have hdl:x.d.r.toNat<Q.v.rs.length:=zo;have hAt:=zoJ Q.v x.d.r.toNat x.n hdl (by have:=hesl x.d.r.toNat;omega) (hesL _) hxn;rw[hdi,zf0,hQes] at hAt;have hrc:q1.rc x.d.r=at_ Rc.o q1.v.rs x.d.r.toNat:=rfl;cases hb
     ·obtain⟨e0,e1⟩:=zeu hb1 hhb;rw[hrc] at e0;rw[e0] at hAt;have hNo:=zcM n Q 5 d (st.length:Nat) hQlen hn hQfl zo zo;have hAE:=zi1 n (Q.note 5 d st.length) x.d.r.toNat d x.n hQlen hn zo h hQss;rw[hdi] at hAE
      have hnext:zaD d ((nameStep d all (q1,st) m).2++R) (nameStep d all (q1,st) m).1=enter (Q.note 5 d st.length) x.d.r x.n d:=by
       rw[hns,ygX rfl,hhb,hcn,←zmb (p:=q1.note 5 d st.length) hsd (by show x.d.r.toNat<q1.v.rs.length;exact r2)];show zaD d (st++[x]++R) (enter _ _ _ _)=zaD d L (enter _ _ _ _);rw[yVX,hLx];rfl
      have hlen2:(nameStep d all (q1,st) m).2.length=st.length+1:=by rw[hns,ygX rfl];simp
      have hz96:(enter (Q.note 5 d st.length) x.d.r x.n d).v.rs.length<=96:=by show(Q.v.rs.set _ _).length<=96;rw[yoX];exact hQ96
      have hm1:(-1:Int)<0:=by decide
      (conv=>whnf);repeat(first|refine Need.mk ?_ ?_;(focus(first|exact hd0|exact hk0))|refine RK.of (zam (zab false 20) Rc.o (k:=7) h7 rfl rfl hQd (by decide) rfl) ?_|refine KIf.t (ybX hki) ?_|rw[hatx]|refine Ck.lV Q (hBN) hQ96 hQlen.symm (Wzc (ydX rfl) (Wzc (ydX rfl) Wzn)) ?_|refine Ck.lV Q (hAt) hQ96 hQlen.symm (Wzc (ydX rfl) (Wzc (ydX rfl) Wzn)) ?_|refine Ck.cV (p':=(Q.note 5 d st.length)) (hNo) hQ96 hQ96 (WL.sc rfl (WL.sc rfl (WL.sc rfl yMX))) ?_|refine ygY (rV n 221 0 1 (Q.note 5 d st.length)) ?_|refine Ck.cV (p':=(enter (Q.note 5 d st.length) x.d.r x.n d)) (hAE) hQ96 hz96 (WL.sc rfl (WL.sc rfl (WL.sc rfl yMX))) ?_|refine ygY (rV n 439 0 1 (enter (Q.note 5 d st.length) x.d.r x.n d)) ?_|refine Ex.g ?_);conv=>whnf
      refine⟨m+1,zo,by dsimp only;omega,?_⟩;dsimp only;rw[hst2,hR,hnext,hlen2];exact Ex.wG [0,1,2,3] [] [] ⟨rQ hz96,bR,bV,aR,zT⟩
     ·obtain⟨e,e0,_,_⟩:=ziK hb1 hhb;rw[hrc] at e0;rw[e0] at hAt
      have hnext:zaD d ((nameStep d all (q1,st) m).2++R) (nameStep d all (q1,st) m).1=Q:=by
       rw[hns,ygX rfl,hhb,ygX rfl];show zaD d (st++[x]++R) q1=Q;rw[←hQ,hLx,yVX];rfl
      have hlen2:(nameStep d all (q1,st) m).2.length=st.length+1:=by rw[hns,ygX rfl];simp
      have hm1:¬((0+e:Nat):Int)<0:=zo
      (conv=>whnf);repeat(first|refine Need.mk ?_ ?_;(focus(first|exact hd0|exact hk0))|refine RK.of (zam (zab false 20) Rc.o (k:=7) h7 rfl rfl hQd (by decide) rfl) ?_|refine KIf.t (ybX hki) ?_|rw[hatx]|refine Ck.lV Q (hBN) hQ96 hQlen.symm (Wzc (ydX rfl) (Wzc (ydX rfl) Wzn)) ?_|refine Ck.lV Q (hAt) hQ96 hQlen.symm (Wzc (ydX rfl) (Wzc (ydX rfl) Wzn)) ?_|refine KIf.f (ycX hm1) ?_|refine Ex.g ?_);conv=>whnf
      refine⟨m+1,zo,by dsimp only;omega,?_⟩;dsimp only;rw[hst2,hR,hnext,hlen2];exact Ex.wG [0,1,2,3] [] [] ⟨rQ hQ96,bR,bV,aR,zT⟩
   ·have e2:=hfin2 zo
    have hki:¬((st.length:Nat):Int)<((at_ Rc.o Q.v.rs d).ns.length:Nat):=by rw[hQns];omega
    (conv=>whnf);repeat(first|refine Need.mk ?_ ?_;exact hd0|refine RK.of (zam (zab false 20) Rc.o (k:=7) h7 rfl rfl hQd (by decide) rfl) ?_|refine KIf.f (ycX hki) ?_|refine Ex.g ?_);conv=>whnf
    refine⟨d+1,zo,by dsimp only;omega,?_⟩;dsimp only;rw[←e2];exact Ex.wG [0,1,2,3] [] [] ⟨rQ hQ96,bR,bV,aR,zT⟩
 ·(conv=>whnf);repeat(first|refine ygY (rV n 20 0 1 q0) ?_|refine Ex.om ?_);conv=>whnf
  rw[←hfin zo];exact⟨Ex.wG [0,1] [] [] ⟨rQ hq96,bR,zT⟩ (hsl:=by exact⟨za2 (zgB ⟨rfl,rfl⟩ ⟨rfl,rfl⟩ zN),zT⟩)⟩
end Go.Proofs.YtgcjejajljhnaaaGreatDoor
namespace Ck
theorem Rv.of {v:Pt} (he:zbH v=0):Rv ⟨v,[],[]⟩:=λi hi=>RecOk.of ((Valid.of he).rcs i hi)
theorem Rv.e0 {p:Rp} (h:Rv p):E0 p:=λd hd=>by
 by_cases hl:d<p.v.rs.length
 ·exact(h.at hl).noents hd
 ·rw[zr7 _ _ _ zo];rfl
theorem zoe {v:Pt} (he:zbH v=0):0<=at_ 0 v.ds 0/\at_ 0 v.ds 0<=2147483647:=by
 have hw:zbG v=0:=zbP he _ (by simp);have h2:=zbP hw;have a4:=h2 (goE (zbq v.ds) v.ds.length) (by simp);have hl:=(zg8 he).1;have h3:=zd5 _ _ a4 0 zo;unfold zbq at h3;split at h3
 ·rename_i h4;unfold wi at h4;simp only[ykX,yDX] at h4;omega
 ·omega
noncomputable def zlZ (v:Pt):Rp:=sizes (links (cyclesR (orphans (badNames (badEntries (descriptors (badRuns (zax ⟨v,[],[]⟩))))))))
theorem zmk (v:Pt):zao v=bits (zlZ v):=rfl
theorem zsG {v:Pt} (hf:FitP v) (he:zbH v=0):Rv (zlZ v)/\Fit5 (zlZ v):=by
 have hps:=zdG (Ready.of hf he);have h0:=Rv.of he;have hds:=zoe he;unfold zlZ;have h1:=h0.lost;have h2:=h1.badRuns;have w2:(badRuns (zax ⟨v,[],[]⟩)).v.ds=v.ds:=hps.w2
 generalize hp2:badRuns (zax ⟨v,[],[]⟩)=p2 at*
 have h3:=h2.descriptors (by rw[w2];exact hds)
 generalize hp3:descriptors p2=p3 at*
 have h4:=h3.badEntries;obtain⟨e1,e2,_⟩:=zfI h3;have n4:=hps.f4.1.rf.n
 generalize hp4:badEntries p3=p4 at*
 have h96:=(Ready.of hf he).n.2;have h5:=h4.badNames zo;have f5:=zk9 h4 e1 e2 h4.e0;have l5:=hps.f5.2.2;have n5:=hps.f5.1.rf.n;have l6:=hps.f6.2.2.1;have d6:=hps.f6.2.2.2;have n6:=hps.f6.1.rf.n
 generalize hp5:badNames p4=p5 at*
 have kp:=Kp.orphans p5
 have d5:dir (at_ Rc.o p5.v.rs 5)=true:=by rw[←kp.2.1.dir];exact d6
 have h6:=zix h5 f5 zo d5;have f6:=zhy f5 zo l5 zo d5
 generalize hp6:orphans p5=p6 at*
 have h7:=ziS f6 h6 zo l6 zo d6;have f7:=zhY f6 zo l6 zo d6
 generalize hp7:cyclesR p6=p7 at*
 exact⟨h7.links.sizes,(f7.ks (Ks.links p7)).ks (Ks.sizes _)⟩
def Nf (p:Rp):Prop:=∀j,16<=j->j<p.v.rs.length->own (at_ Rc.o p.v.rs j)=true->(at_ Rc.o p.v.rs j).ns≠[]
theorem znI {p:Rp} {r:Nat} (hr:r<p.v.rs.length) (j:Nat):(at_ Rc.o (bring p r).v.rs j).ns=if r=j then [⟨p.ref 5,zad r (zbY (p.rc 5).es r 0 ((p.rc 5).es.length+1))⟩] else(at_ Rc.o p.v.rs j).ns:=by
 unfold bring;dsimp only;rw[zjE];show(at_ Rc.o (p.v.rs.set r _) j).ns=_;rw[zb0];by_cases e:r=j
 ·subst e;rw[ygX ⟨rfl,hr⟩,ygX rfl]
 ·rw[yfX (λc=>e c.1),yfX e]
theorem zoN (p:Rp):Nf (orphans p):=by
 have key:∀k,k<=p.v.rs.length-16->(∀j,16<=j->j<16+k->own (at_ Rc.o p.v.rs j)=true->(at_ Rc.o (it (λq j=>if own (q.rc (16+j:Nat)) then zaz q (16+j) else q) p k).v.rs j).ns≠[])/\Kp p (it (λq j=>if own (q.rc (16+j:Nat)) then zaz q (16+j) else q) p k):=by
  refine zbo (I:=λk q=>(∀j,16<=j->j<16+k->own (at_ Rc.o p.v.rs j)=true->(at_ Rc.o q.v.rs j).ns≠[])/\Kp p q) (λs k hk ⟨a1,a2⟩=> ?_) ⟨λj h1 h2=>zo,ybY p⟩;split
  ·rename_i ho;unfold zaz;split
   ·have hn:Kp s (s.note 6 (16+k:Nat) 0):=(ybY s).of_v rfl;refine⟨λj h1 h2 h3=> ?_,a2.trans (hn.bring _)⟩;rw[znI (by show 16+k<s.v.rs.length;rw[a2.2.2.2];omega)];split
    ·simp
    ·rename_i e;exact a1 j h1 zo h3
   ·rename_i h0;refine⟨λj h1 h2 h3 c=> ?_,a2⟩;by_cases e:j=16+k
    ·subst e;exact h0 (by rw[zae,c];rfl)
    ·exact a1 j h1 zo h3 c
  ·rename_i ho;refine⟨λj h1 h2 h3=> ?_,a2⟩;by_cases e:j=16+k
   ·subst e;exact absurd (by rw[zae,zdZ a2];exact h3) ho
   ·exact a1 j h1 zo h3
 obtain⟨h1,h2⟩:=key _ (yhX _);intro j hj hl ho
 have hl2:j<p.v.rs.length:=by
  have:(orphans p).v.rs.length=p.v.rs.length:=h2.2.2.2;omega
 exact h1 j hj zo (by rw[←zdZ h2];exact ho)
end Ck
