/- Own text, part Rprt 13: walks of the package acl and of its reference, and the plain laws that they lean on; no statement of the seat is here. -/
import Derived.Test.YtgcjejajljhnaaaGreatDoorRprt1
import Derived.Test.YtgcjejajljhnaaaGreatDoorRprt12
import Derived.Test.YtgcjejajljhnaaaGreatDoorRprt9
import Derived.Test.YtgcjejajljhnaaaGreatDoorRprt11
import Derived.Test.YtgcjejajljhnaaaGreatDoorRprt8
import Derived.Test.YtgcjejajljhnaaaGreatDoorRprt7
set_option linter.all false
namespace Ck
open Go Go.Ex
def gC (v:Pt) (d j:Nat):Option AO:=if j/2<d then gP false ⟨v,[],[]⟩ j else none
noncomputable def rcC (d A i:Nat) (x:Rc):List AV:=if i<d then rcP false A i x else aRc x
theorem zaN (d A:Nat):∀i x,(rcC d A i x).length=10:=λi x=>by unfold rcC;split<;>rfl
theorem zhp (d A:Nat) (x:Rc):rcC d A d x=aRc x:=yfX (Nat.lt_irrefl d)
theorem zho {d A i:Nat} {x:Rc} (h:i<d):rcC d A i x=rcP false A i x:=ygX h
theorem zny {d A i:Nat} {x:Rc} (h:¬i<d):rcC d A i x=aRc x:=yfX h
theorem zxo {v:Pt} {j:Nat} (h:v.rs.length<=j/2):gP false ⟨v,[],[]⟩ j=none:=by
 unfold gP;split
 ·rfl
 ·split
  ·rfl
  ·rw[yyX h]
theorem zul {v:Pt}:gC v v.rs.length=gP false ⟨v,[],[]⟩:=by
 funext j
 unfold gC;split
 ·rfl
 ·rename_i h;exact(zxo zo).symm
theorem zd6 (v:Pt) (d:Nat):∀j o,gC v d j=some o->zaZ o:=λj o h=>by
 unfold gC at h;split at h
 ·exact yQX _ _ j o h
 ·cases h
theorem famC {v:Pt} {d:Nat} {ov:List (Nat×Nat)} (hn:∀j,j/2=d->(∀p∈ov,j≠p.1)->gP false ⟨v,[],[]⟩ j=none):∀j o1,gC v (d+1) j=some o1->(∀p∈ov,j≠p.1)->gC v d j=some o1/\zaZ o1:=λj o1 ho hj=>by
 refine⟨?_,zd6 _ _ j o1 ho⟩;unfold gC at ho⊢;split at ho
 ·rename_i h;by_cases hd:j/2=d
  ·rw[hn j hd hj] at ho;cases ho
  ·rw[ygX zo];exact ho
 ·cases ho
theorem zxP {h:T AO} {z:List Nat} {R:Nat->Option Nat} (x:Rc):WL h z R (aRc x) (aRc x):=by
 unfold aRc
 repeat(first|exact yMX|refine WL.sc rfl ?_)
theorem znv {h:T AO} {z:List Nat} {A d:Nat} {ov:List (Nat×Nat)} {r:List Nat} {rs:List Rc} {c:List AV} (hn:rs.length<=96) (hp:∀p∈ov,∀k,k≠d->2*k≠p.1/\2*k+1≠p.1) (hc:WL h z (RG A ov r) (rcP false 20 d (at_ Rc.o rs d)) c):WL h z (RG A ov r) (flatI (rcC (d+1) 20) 0 rs) (flatI (zfS (rcC d A) d c) 0 rs):=by
 refine WL.flatI Rc.o rs rs 0 rfl λj hj=> ?_;rw[ylX];by_cases e:j=d
 ·subst e;rw[zbR,zho (ysZ j)];exact hc
 ·rw[zg9 e];by_cases h1:j<d
  ·rw[zho h1,zho zo];exact zcv zo λp hq=>hp p hq j e
  ·rw[zny h1,zny zo];exact zxP _
theorem zis {h:T AO} {z:List Nat} {A d:Nat} {r:List Nat} {rs:List Rc} (hn:rs.length<=96):WL h z (RG A [] r) (flatI (rcC d 20) 0 rs) (flatI (rcC d A) 0 rs):=by
 refine WL.flatI Rc.o rs rs 0 rfl λj hj=> ?_;rw[ylX];by_cases h1:j<d
 ·rw[zho h1,zho h1];exact zcv zo zN
 ·rw[zny h1,zny h1];exact zxP _
theorem zvh {rs:List Rc} {A:Nat}:flatI (rcC rs.length A) 0 rs=flatI (rcP false A) 0 rs:=zeX Rc.o rs 0 λj hj=>by rw[ylX];exact zho hj
theorem zo1 {rs:List Rc} {A:Nat}:flatI (rcC 0 A) 0 rs=rs.flatMap aRc:=by
 have:rcC 0 A=λ_ x=>aRc x:=by funext i x;exact yfX (ypX _)
 rw[this,zbO]
theorem zqv {h:T AO} {z:List Nat} {A k n:Nat} {r:List Nat} {ov:List (Nat×Nat)} {v:Pt} (hk:RS (RG A ov r) 1/\RD (RG A ov r) 1=k):WL h z (RG A ov r) [ib v.c,LS 2 zaP Run.o v.al, .so 1 0 n 0,LS 1 aI 0 v.ds,tb v.mp] [ib v.c,LS 2 zaP Run.o v.al, .so k 0 n 0,LS 1 aI 0 v.ds,tb v.mp]:=WL.sc rfl (WL.sc rfl (ywX (zgl hk) (WL.sc rfl (WL.sc rfl yMX))))
section
variable {P : Program} {s : St} {K : KC} {α : Type} {f : Nat -> α -> List AV} {sz : Nat}
theorem zgk (hf:∀i x,(f i x).length=sz) (o:α) {l:List α} {T:TypeId} {b j k n off:Nat} {v:AV} {e:TypeId} {q:Nat} {a:Bool} (cs c c':List AV) (hcl:c.length=sz) (hoff:off=j*sz+k) (hn:zeH v=true) (hT:tyS P T= .ok (a,n)) (hcs:v.cells=cs) (hl:cs.length=n) (h1:za8 cs=true) (hr:s.h.get b=some (.row (flatI (zfS f j c) 0 l) e q)) (hj:j<l.length) (hk:k+n<=sz)
  (hc:c.take k++(cs++c.drop (k+n))=c') (hk2:(s.set b (.row (flatI (zfS f j c') 0 l) e q)).nfK λs=>K AV.undef s):zdQ (zcY P s T (.ptr b off) v) K:=by
 refine zaV (zcW hf hcl) o cs c' hoff hn hT hcs hl h1 hr hj hk (by rw[zbR];exact hc) ?_;rw[zsu];exact hk2
end
end Ck
namespace Go.Proofs.YtgcjejajljhnaaaGreatDoor
open Go.Ex Ck
set_option maxRecDepth 100000
set_option maxHeartbeats 16000000
theorem zpu :Ex.zyT Tryz.prog zlM 2000 140 [.slice none 0 0] (.slice none 0 0)=true:=by decide+kernel
theorem ztS (l:List Int) (hl:l.length<=100000):PureC Tryz.prog 140 [LS 1 aI 0 l] (LS 1 aI 0 l):=by
 by_cases h0:l.length=0
 ·obtain rfl:l=[]:=yeX h0;refine mt2 zal (λs=>yvY (args:=[.slice none 0 0]) λw=>yOY zed zc2 (args:=[.slice none 0 0]) zpu w) (λa cap=> ?_)
  ·(conv=>whnf);repeat((refine Ex.g ?_;conv=>whnf))
   refine .z [0] ?_;exact yzZ rfl (by simp) rfl (yhX _) (λi hi=>absurd hi (ypX _)) rfl (λi hi=>absurd hi (ypX _))
 ·have hb:Nat.ble (0+l.length) 0=false:=by cases h:Nat.ble (0+l.length) 0 with|false=>rfl|true=>have:=ynX h;omega
  refine ytX zal rfl ?_
  (conv=>whnf);repeat(first|refine Ex.g ?_|refine Need.mk (λ_ _=>rfl) ?_|refine RK.of (zeY rfl rfl (Nat.pos_of_ne_zero h0)) ?_);conv=>whnf
  refine .z [1] ?_;exact Wz.list (λ_=>rfl) (λ_=>rfl) rfl (by simp) (ylX _) (by exact zaA aI 0 l)
theorem zpt :Ex.zyT Tryz.prog zlM 2000 142 [.slice none 0 0] (.slice none 0 0)=true:=by decide+kernel
theorem zot :PureC Tryz.prog 142 [LS 2 aSm Sm.o []] (LS 2 aSm Sm.o []):=by
 refine mt2 zal (λs=>yvY (args:=[.slice none 0 0]) λw=>yOY zed zc2 (args:=[.slice none 0 0]) zpt w) (λa cap=> ?_)
 (conv=>whnf);repeat((refine Ex.g ?_;conv=>whnf))
 refine .z [0] ?_;exact yzZ rfl (by simp) rfl (yhX _) (λi hi=>absurd hi (ypX _)) rfl (λi hi=>absurd hi (ypX _))
theorem zi4 (l:List Sm) (hl:l.length<=100000) (h0:0<l.length):HC Tryz.prog 0 142 [LS 2 aSm Sm.o l] [] (.so 0 0 l.length 0) [.row (l.flatMap aSm) 80 2]:=by
 have hb:Nat.ble (0+l.length) 0=false:=by cases h:Nat.ble (0+l.length) 0 with|false=>rfl|true=>have:=ynX h;omega
 refine HC.of zal (yhX 0) ?_
 (conv=>whnf);repeat(first|refine Ex.g ?_|refine Need.mk (λ_ _=>rfl) ?_|refine RK.of (zeY rfl rfl h0) ?_);conv=>whnf
 have e:([]++(List.range l.length).flatMap λi=>aSm (at_ Sm.o l i))=l.flatMap aSm:=by exact zaA aSm Sm.o l
 rw[e];refine⟨[1],[],rfl,⟨⟨rfl,rfl,Or.inr ⟨rfl,zay (λ_=>rfl) _⟩⟩,zT⟩,?_⟩
 (repeat' first|exact zT|exact rfl|refine zA ?_ ?_)
 exact ylX _
theorem zpw (l:List Rc) (hl:l.length<=100000) (h0:0<l.length):HC Tryz.prog 0 141 [LS 10 aRc Rc.o l] [] (.so 0 0 l.length 0) [.row (l.flatMap aRc) 66 10]:=by
 have hb:Nat.ble (0+l.length) 0=false:=by cases h:Nat.ble (0+l.length) 0 with|false=>rfl|true=>have:=ynX h;omega
 refine HC.of zal (yhX 0) ?_
 (conv=>whnf);repeat(first|refine Ex.g ?_|refine Need.mk (λ_ _=>rfl) ?_|refine RK.of (zeY rfl rfl h0) ?_);conv=>whnf
 have e:([]++(List.range l.length).flatMap λi=>aRc (at_ Rc.o l i))=l.flatMap aRc:=by exact zaA aRc Rc.o l
 rw[e];refine⟨[1],[],rfl,⟨⟨rfl,rfl,Or.inr ⟨rfl,zay (λ_=>rfl) _⟩⟩,zT⟩,?_⟩
 (repeat' first|exact zT|exact rfl|refine zA ?_ ?_)
 exact ylX _
end Go.Proofs.YtgcjejajljhnaaaGreatDoor
namespace Ck
open Go Go.Ex
def gX (v:Pt) (d j:Nat):Option AO:=if j/2<d∨j=2*d+1 then gP false ⟨v,[],[]⟩ j else none
theorem zhQ (v:Pt) (d:Nat):∀j o,gX v d j=some o->zaZ o:=λj o h=>by
 unfold gX at h;split at h
 ·exact yQX _ _ j o h
 ·cases h
theorem gP_x {v:Pt} {d:Nat} {x:Rc} (hlt:d<v.rs.length) (h96:v.rs.length<=96) (hxd:at_ Rc.o v.rs d=x):∀j,j/2=d->gP false ⟨v,[],[]⟩ j=if j%2=0 then(if x.ss=[] then none else some (.row (x.ss.flatMap aSm) 80 2)) else(if x.es=[] then none else some (.row (x.es.flatMap aEn) 73 4)):=λj hj=>by
 rw[zcQ zo,hj,show(Pt.rs v)[d]? =some x by rw[ysX hlt,←zaS Rc.o _ _ hlt,hxd]];simp
theorem zuo {v:Pt} {d:Nat} {ov:List (Nat×Nat)} (hn:(∀p∈ov,2*d+1≠p.1)->gP false ⟨v,[],[]⟩ (2*d+1)=none):∀j o1,gX v d j=some o1->(∀p∈ov,j≠p.1)->gC v d j=some o1/\zaZ o1:=λj o1 ho hj=>by
 refine⟨?_,zhQ _ _ j o1 ho⟩;unfold gX at ho;unfold gC;split at ho
 ·rename_i h
  rcases h with h|h
  ·rw[ygX h];exact ho
  ·subst h;rw[hn hj] at ho;cases ho
 ·cases ho
theorem zx1 {v:Pt} {d:Nat} {ov:List (Nat×Nat)} (hn:(∀p∈ov,2*d≠p.1)->gP false ⟨v,[],[]⟩ (2*d)=none):∀j o1,gC v (d+1) j=some o1->(∀p∈ov,j≠p.1)->gX v d j=some o1/\zaZ o1:=λj o1 ho hj=>by
 refine⟨?_,zd6 _ _ j o1 ho⟩;unfold gC at ho;unfold gX;split at ho
 ·rename_i h;by_cases h2:j=2*d
  ·subst h2;rw[hn hj] at ho;cases ho
  ·rw[ygX zo];exact ho
 ·cases ho
theorem ziP {α:Type} (f:Nat->α->List AV) (x:α):∀(l:List α) (i:Nat),flatI f i (l++[x])=flatI f i l++f (i+l.length) x
 |[],i=>by simp[flatI]
 |y::l,i=>by
  show f i y++flatI f (i+1) (l++[x])=(f i y++flatI f (i+1) l)++_;rw[ziP f x l (i+1),yVX,yGX,show i+1+l.length=i+(l.length+1) by omega]
theorem zgR {v:Pt} {d:Nat} {x:Rc} (hlt:d<v.rs.length) (hxd:at_ Rc.o v.rs d=x):flatI (rcP false 20) 0 (v.rs.take (d+1))=flatI (rcP false 20) 0 (v.rs.take d)++rcP false 20 d x:=by
 have e:v.rs.take (d+1)=v.rs.take d++[x]:=by
  rw[←hxd,zaS _ _ _ hlt];exact(List.take_append_getElem hlt).symm
 rw[e,ziP,yYX,ylX,yWZ zo]
section
variable {h : T AO} {z : List Nat} {A : Nat} {ov : List (Nat × Nat)} {r : List Nat}
theorem zgp {rs:List Rc} (hn:rs.length<=96) (hp:∀p∈ov,∀k,k<rs.length->2*k≠p.1/\2*k+1≠p.1):WL h z (RG A ov r) (flatI (rcP false 20) 0 rs) (flatI (rcP false A) 0 rs):=
 WL.flatI Rc.o rs rs 0 rfl λj hj=>by rw[ylX];exact zcv zo λp hq=>hp p hq j hj
theorem zig {R:Nat->Option Nat} {n sz:Nat} {f:Nat->List AV} {v:AV} (hw:Wv h z (RD R) (.lst sz n f) v):NmP (RS R) (.lst sz n f)/\Wv h z (RD R) (.lst sz n f) v:=⟨by unfold NmP;trivial,hw⟩
theorem zjk {R:Nat->Option Nat} {i b n':Nat} {x:Rc} {e:TypeId} {q:Nat} (hx:x.es=[]) (hn:n'=x.es.length) (hb:h.get b=some (.row [] e q)) (hz:b∈z):NmP (RS R) (seE 20 i x)/\Wv h z (RD R) (seE 20 i x) (.sl b 0 n' 0):=by
 rw[zbM hx];have hw:=Wv.mt (enc:=aEn) (o:=En.o) (r:=RD R) (sz:=4) hx hn hb hz;rw[hx] at hw;exact zig hw
theorem zjj {i k n':Nat} {x:Rc} (hx:x.es≠[]) (hn:n'=x.es.length) (hi:i<96):NmP (RS (RG A ((2*i+1,k)::ov) r)) (seE 20 i x)/\Wv h z (RD (RG A ((2*i+1,k)::ov) r)) (seE 20 i x) (.so k 0 n' 0):=by
 rw[zbB hx,hn];exact zkO zo
theorem zgN {i:Nat} {x:Rc} {v:AV} (hv:seE 20 i x=v) (hi:i<96) (hp:∀p∈ov,2*i+1≠p.1):NmP (RS (RG 20 ov r)) (seE 20 i x)/\Wv h z (RD (RG 20 ov r)) (seE 20 i x) v:=by
 subst hv;exact zmd hi hp
theorem znn {R:Nat->Option Nat} {i:Nat} {x:Rc} (hx:x.ss=[]):NmP (RS R) (seS false 20 i x)/\Wv h z (RD R) (seS false 20 i x) (.sc (.slice none 0 0)):=by
 rw[zir (.inr hx),hx];exact zig (Wv.nil (enc:=aSm) (o:=Sm.o) (l:=[]) rfl)
theorem zp9 {i k n':Nat} {x:Rc} (hx:x.ss≠[]) (hn:n'=x.ss.length) (hi:i<96):NmP (RS (RG A ((2*i,k)::ov) r)) (seS false 20 i x)/\Wv h z (RD (RG A ((2*i,k)::ov) r)) (seS false 20 i x) (.so k 0 n' 0):=by
 rw[ze9 hx,hn];exact zkO zo
theorem zsz {R:Nat->Option Nat} {l:List Sm} {k:Nat} (hk:k<l.length) {c:List AV} (hc:c=(l.take k).flatMap aSm++aSm (at_ Sm.o l k)):WRowG h z R ((l.take (k+1)).flatMap aSm) c:=by
 subst hc;have e:(l.take (k+1)).flatMap aSm=(l.take k).flatMap aSm++aSm (at_ Sm.o l k):=zcG aSm Sm.o l k hk;exact .same e (by rw[←e];exact zhb _)
end
noncomputable def cpR (v:Pt) (d:Nat):List AO:=match d with
 |0=>[.row (aPt v) 26 0, .row [ib 0, .sc (.slice none 0 0), .sc (.slice none 0 0), .sc (.slice none 0 0),tb []] 26 0, .row [ib v.c,LS 2 zaP Run.o v.al, .sc (.slice none 0 0),LS 1 aI 0 v.ds,tb v.mp] 26 0]
 |d'+1=>[.row (aPt v) 26 0, .row [ib 0, .sc (.slice none 0 0), .sc (.slice none 0 0), .sc (.slice none 0 0),tb []] 26 0, .row [ib v.c,LS 2 zaP Run.o v.al, .so 3 0 (d'+1) 0,LS 1 aI 0 v.ds,tb v.mp] 26 0, .row (flatI (rcP false 20) 0 (v.rs.take (d'+1))) 66 10]
theorem zrM {v:Pt} {d:Nat} (h:d≠0):cpR v d=[.row (aPt v) 26 0, .row [ib 0, .sc (.slice none 0 0), .sc (.slice none 0 0), .sc (.slice none 0 0),tb []] 26 0, .row [ib v.c,LS 2 zaP Run.o v.al, .so 3 0 d 0,LS 1 aI 0 v.ds,tb v.mp] 26 0, .row (flatI (rcP false 20) 0 (v.rs.take d)) 66 10]:=by
 cases d with
 |zero=>exact absurd rfl h
 |succ k=>rfl
end Ck
namespace Go.Proofs.YtgcjejajljhnaaaGreatDoor
open Go.Ex Ck
set_option maxRecDepth 100000
set_option maxHeartbeats 32000000
theorem zvf (v:Pt) (h96:v.rs.length<=96) (h0:0<v.rs.length) (hal:v.al.length<=100000) (hds:v.ds.length<=100000) (hx:∀x∈v.rs,x.ns.length<=100000/\x.ss.length<=100000/\x.es.length<=100000/\∀y∈x.ss,y.r.length<=100000):HG Tryz.prog 0 20 220 13 [zbF v] (λ_=>none) [] (.agg [ib v.c,LS 2 zaP Run.o v.al, .so 0 0 v.rs.length 0,LS 1 aI 0 v.ds,tb v.mp])
  (gP false ⟨v,[],[]⟩) [.row (flatI (rcP false 20) 0 v.rs) 66 10]:=by
 refine HG.of zal zo ?_;have hrl:v.rs.length<=100000:=zo
 (conv=>whnf);repeat(first|refine yaX (zbr v.al hal) ?_|refine yaX (zi3 v.ds hds) ?_);conv=>whnf
 refine Ex.wl v.rs.length (λd=>zag [(1, .ptr 0 0),(2, .ptr 1 0),(3, .ptr 2 0),(4,ib d)] 79) (λd=>zaw 20 220 (gC v d) (cpR v d)) ?_ ?_
 ·refine yCX [220,221,222] [] [] rfl rfl rfl rfl ?_ ?_ ?_ ?_
  ·exact⟨⟨rfl,rfl, .same rfl rfl⟩,⟨rfl,rfl, .same rfl rfl⟩,⟨rfl,rfl, .same rfl rfl⟩,zT⟩
  ·intro j o1 ho _;unfold gC at ho;rw[yfX zo] at ho;cases ho
  ·exact zN
  ·(repeat' first|exact zT|exact rfl|refine zA ?_ ?_)
 intro d hd;by_cases hlt:d<v.rs.length
 ·have hlt2:((d:Nat):Int)<(v.rs.length:Nat):=zo;have hd96:d<96:=zo
  have hd0:(0:Int)<=(d:Nat)/\((d:Nat):Int)<(v.rs.length:Nat):=⟨zo,zo⟩
  obtain⟨b1,b2,b3,b4⟩:=hx _ (at_mem Rc.o v.rs d hlt)
  obtain⟨x,hxd⟩:∃x,at_ Rc.o v.rs d=x:=⟨_,rfl⟩
  have hxi:at_ Rc.o v.rs ((d:Nat):Int).toNat=x:=by rw[yrX];exact hxd
  rw[hxd] at b1 b2 b3 b4;have hgx:=gP_x hlt h96 hxd
  have hgE:x.es=[]->gP false ⟨v,[],[]⟩ (2*d+1)=none:=λe=>by rw[hgx _ zo,yfX zo,ygX e]
  have hgS:x.ss=[]->gP false ⟨v,[],[]⟩ (2*d)=none:=λe=>by rw[hgx _ zo,ygX zo,ygX e]
  have hgE2:x.es≠[]->gX v d (2*d+1)=some (.row (x.es.flatMap aEn) 73 4):=λe=>by unfold gX;rw[ygX (.inr rfl),hgx _ zo,yfX zo,yfX e]
  have hgS2:x.ss≠[]->gC v (d+1) (2*d)=some (.row (x.ss.flatMap aSm) 80 2):=λe=>by unfold gC;rw[ygX zo,hgx _ zo,ygX zo,yfX e]
  have htk:(v.rs.take d).length=d:=by rw[yYX];omega
  have htl:(flatI (rcP false 20) 0 (v.rs.take d)).length=0+d*10:=by rw[zbE (zab false 20),htk,ylX]
  have hsd:Small ((d:Nat)+1):=⟨zo,zo⟩
  by_cases hz:d=0
  ·rw[show cpR v d=[.row (aPt v) 26 0, .row [ib 0, .sc (.slice none 0 0), .sc (.slice none 0 0), .sc (.slice none 0 0),tb []] 26 0, .row [ib v.c,LS 2 zaP Run.o v.al, .sc (.slice none 0 0),LS 1 aI 0 v.ds,tb v.mp] 26 0] by rw[hz];rfl];by_cases hn:x.ns.length=0<;>by_cases he:x.es.length=0;have hb:x.ns=[]:=yeX hn
   have hc:Nat.ble (0+x.ns.length) 0=true:=by rw[hb];rfl
   have hb2:x.es=[]:=yeX he
   have hc2:Nat.ble (0+x.es.length) 0=true:=by rw[hb2];rfl
   (conv=>whnf);repeat(first|refine Need.mk (λ_ _=>rfl) ?_|refine KIf.t (ybX hlt2) ?_|rw[hxi]|refine Need.mk ?_ ?_;exact hd0|refine RK.of (zaK (zbe hn) rfl) ?_|refine RK.of (zaK (zbe he) rfl) ?_|refine Ex.g ?_);conv=>whnf
   refine Ex.wl x.ss.length (λk=>zag [(1, .ptr 0 0),(2, .ptr 1 0),(3, .ptr 2 0),(4,ib d),(5, .ptr 3 0),(6,ib k)] 79) (λk=>zaw 20 220 (gX v d) (match k with
    |0=>[.row (aPt v) 26 0, .row [ib 0, .sc (.slice none 0 0), .sc (.slice none 0 0), .sc (.slice none 0 0),tb []] 26 0, .row [ib v.c,LS 2 zaP Run.o v.al, .sc (.slice none 0 0),LS 1 aI 0 v.ds,tb v.mp] 26 0, .row [bb x.u,ib x.q,ib x.k,ib x.b.r,ib x.b.q,ib x.ln,ib x.ds,LS 3 aNm Nm.o x.ns, .sc (.slice none 0 0),seE 20 d x] 66 0]
    |k+1=>[.row (aPt v) 26 0, .row [ib 0, .sc (.slice none 0 0), .sc (.slice none 0 0), .sc (.slice none 0 0),tb []] 26 0, .row [ib v.c,LS 2 zaP Run.o v.al, .sc (.slice none 0 0),LS 1 aI 0 v.ds,tb v.mp] 26 0, .row [bb x.u,ib x.q,ib x.k,ib x.b.r,ib x.b.q,ib x.ln,ib x.ds,LS 3 aNm Nm.o x.ns, .so 4 0 (k+1) 0,seE 20 d x] 66 0, .row ((x.ss.take (k+1)).flatMap aSm) 80 2])) ?_ ?_
   ·refine yCX [0,1,2,220] [221,222] [] rfl rfl rfl rfl ?_ ?_ ?_ ?_
    ·exact⟨⟨rfl,rfl, .same rfl rfl⟩,⟨rfl,rfl, .same rfl rfl⟩,⟨rfl,rfl, .same rfl rfl⟩,⟨rfl,rfl,yzX (WL.sc rfl (WL.sc rfl (WL.sc rfl (WL.sc rfl (WL.sc rfl (WL.sc rfl (WL.sc rfl (ywX (zig (Wv.mt hb (ylX _) rfl (by simp))) (WL.sc rfl (ywX (zjk hb2 (ylX _) rfl (by simp)) yMX))))))))))⟩,zT⟩
    ·exact zuo (λ_=>hgE hb2)
    ·exact zN
    ·(repeat' first|exact zT|exact rfl|refine zA ?_ ?_)
   have hse:seE 20 d x=LS 4 aEn En.o []:=zbM hb2;clear hn he hb2 hc hc2
   rotate_left
   have hb:x.ns=[]:=yeX hn
   have hc:Nat.ble (0+x.ns.length) 0=true:=by rw[hb];rfl
   have hb2:x.es≠[]:=λe=>he (by rw[e];rfl)
   have hc2:Nat.ble (0+x.es.length) 0=false:=by cases h:Nat.ble (0+x.es.length) 0 with|false=>rfl|true=>have:=ynX h;omega
   (conv=>whnf);repeat(first|refine Need.mk (λ_ _=>rfl) ?_|refine KIf.t (ybX hlt2) ?_|rw[hxi]|refine Need.mk ?_ ?_;exact hd0|refine RK.of (zaK (zbe hn) rfl) ?_|refine Ex.g ?_);conv=>whnf
   refine Ex.wl x.ss.length (λk=>zag [(1, .ptr 0 0),(2, .ptr 1 0),(3, .ptr 2 0),(4,ib d),(5, .ptr 3 0),(6,ib k)] 79) (λk=>zaw 20 220 (gX v d) (match k with
    |0=>[.row (aPt v) 26 0, .row [ib 0, .sc (.slice none 0 0), .sc (.slice none 0 0), .sc (.slice none 0 0),tb []] 26 0, .row [ib v.c,LS 2 zaP Run.o v.al, .sc (.slice none 0 0),LS 1 aI 0 v.ds,tb v.mp] 26 0, .row [bb x.u,ib x.q,ib x.k,ib x.b.r,ib x.b.q,ib x.ln,ib x.ds,LS 3 aNm Nm.o x.ns, .sc (.slice none 0 0),seE 20 d x] 66 0]
    |k+1=>[.row (aPt v) 26 0, .row [ib 0, .sc (.slice none 0 0), .sc (.slice none 0 0), .sc (.slice none 0 0),tb []] 26 0, .row [ib v.c,LS 2 zaP Run.o v.al, .sc (.slice none 0 0),LS 1 aI 0 v.ds,tb v.mp] 26 0, .row [bb x.u,ib x.q,ib x.k,ib x.b.r,ib x.b.q,ib x.ln,ib x.ds,LS 3 aNm Nm.o x.ns, .so 4 0 (k+1) 0,seE 20 d x] 66 0, .row ((x.ss.take (k+1)).flatMap aSm) 80 2])) ?_ ?_
   ·refine yCX [0,1,2,220] [221] [(2*d+1,223)] rfl rfl rfl rfl ?_ ?_ ?_ ?_
    ·exact⟨⟨rfl,rfl, .same rfl rfl⟩,⟨rfl,rfl, .same rfl rfl⟩,⟨rfl,rfl, .same rfl rfl⟩,⟨rfl,rfl,yzX (WL.sc rfl (WL.sc rfl (WL.sc rfl (WL.sc rfl (WL.sc rfl (WL.sc rfl (WL.sc rfl (ywX (zig (Wv.mt hb (ylX _) rfl (by simp))) (WL.sc rfl (ywX (zjj hb2 (ylX _) hd96) yMX))))))))))⟩,zT⟩
    ·exact zuo (λh=>absurd rfl (h (2*d+1,223) (by simp)))
    ·intro p hp o1 ho
     rcases yiX.1 hp with rfl
     have ho:gX v d (2*d+1)=some o1:=ho;rw[hgE2 hb2] at ho;cases ho;exact⟨_,rfl,rfl,rfl, .inr ⟨[],by rw[yKX];exact zaA aEn En.o x.es,zbp _⟩⟩
    ·(repeat' first|exact zT|exact rfl|refine zA ?_ ?_)
   have hse:seE 20 d x= .so (fam 20 (2*d+1)) 0 x.es.length 0:=zbB hb2;clear hn he hb2 hc hc2
   rotate_left
   have hc:Nat.ble (0+x.ns.length) 0=false:=by cases h:Nat.ble (0+x.ns.length) 0 with|false=>rfl|true=>have:=ynX h;omega
   have hb2:x.es=[]:=yeX he
   have hc2:Nat.ble (0+x.es.length) 0=true:=by rw[hb2];rfl
   (conv=>whnf);repeat(first|refine Need.mk (λ_ _=>rfl) ?_|refine KIf.t (ybX hlt2) ?_|rw[hxi]|refine Need.mk ?_ ?_;exact hd0|refine RK.of (zaK (zbe he) rfl) ?_|refine Ex.g ?_);conv=>whnf
   refine Ex.wl x.ss.length (λk=>zag [(1, .ptr 0 0),(2, .ptr 1 0),(3, .ptr 2 0),(4,ib d),(5, .ptr 3 0),(6,ib k)] 79) (λk=>zaw 20 220 (gX v d) (match k with
    |0=>[.row (aPt v) 26 0, .row [ib 0, .sc (.slice none 0 0), .sc (.slice none 0 0), .sc (.slice none 0 0),tb []] 26 0, .row [ib v.c,LS 2 zaP Run.o v.al, .sc (.slice none 0 0),LS 1 aI 0 v.ds,tb v.mp] 26 0, .row [bb x.u,ib x.q,ib x.k,ib x.b.r,ib x.b.q,ib x.ln,ib x.ds,LS 3 aNm Nm.o x.ns, .sc (.slice none 0 0),seE 20 d x] 66 0]
    |k+1=>[.row (aPt v) 26 0, .row [ib 0, .sc (.slice none 0 0), .sc (.slice none 0 0), .sc (.slice none 0 0),tb []] 26 0, .row [ib v.c,LS 2 zaP Run.o v.al, .sc (.slice none 0 0),LS 1 aI 0 v.ds,tb v.mp] 26 0, .row [bb x.u,ib x.q,ib x.k,ib x.b.r,ib x.b.q,ib x.ln,ib x.ds,LS 3 aNm Nm.o x.ns, .so 4 0 (k+1) 0,seE 20 d x] 66 0, .row ((x.ss.take (k+1)).flatMap aSm) 80 2])) ?_ ?_
   ·refine yCX [0,1,2,220] [222,223] [] rfl rfl rfl rfl ?_ ?_ ?_ ?_
    ·exact⟨⟨rfl,rfl, .same rfl rfl⟩,⟨rfl,rfl, .same rfl rfl⟩,⟨rfl,rfl, .same rfl rfl⟩,⟨rfl,rfl,yzX (WL.sc rfl (WL.sc rfl (WL.sc rfl (WL.sc rfl (WL.sc rfl (WL.sc rfl (WL.sc rfl (ywX (zig (yjZ (λ_=>rfl) (λ_=>rfl) rfl (by simp) (ylX _) (zaA _ _ _))) (WL.sc rfl (ywX (zjk hb2 (ylX _) rfl (by simp)) yMX))))))))))⟩,zT⟩
    ·exact zuo (λ_=>hgE hb2)
    ·exact zN
    ·(repeat' first|exact zT|exact rfl|refine zA ?_ ?_)
   have hse:seE 20 d x=LS 4 aEn En.o []:=zbM hb2;clear hn he hb2 hc hc2
   rotate_left
   have hc:Nat.ble (0+x.ns.length) 0=false:=by cases h:Nat.ble (0+x.ns.length) 0 with|false=>rfl|true=>have:=ynX h;omega
   have hb2:x.es≠[]:=λe=>he (by rw[e];rfl)
   have hc2:Nat.ble (0+x.es.length) 0=false:=by cases h:Nat.ble (0+x.es.length) 0 with|false=>rfl|true=>have:=ynX h;omega
   (conv=>whnf);repeat(first|refine Need.mk (λ_ _=>rfl) ?_|refine KIf.t (ybX hlt2) ?_|rw[hxi]|refine Need.mk ?_ ?_;exact hd0|refine Ex.g ?_);conv=>whnf
   refine Ex.wl x.ss.length (λk=>zag [(1, .ptr 0 0),(2, .ptr 1 0),(3, .ptr 2 0),(4,ib d),(5, .ptr 3 0),(6,ib k)] 79) (λk=>zaw 20 220 (gX v d) (match k with
    |0=>[.row (aPt v) 26 0, .row [ib 0, .sc (.slice none 0 0), .sc (.slice none 0 0), .sc (.slice none 0 0),tb []] 26 0, .row [ib v.c,LS 2 zaP Run.o v.al, .sc (.slice none 0 0),LS 1 aI 0 v.ds,tb v.mp] 26 0, .row [bb x.u,ib x.q,ib x.k,ib x.b.r,ib x.b.q,ib x.ln,ib x.ds,LS 3 aNm Nm.o x.ns, .sc (.slice none 0 0),seE 20 d x] 66 0]
    |k+1=>[.row (aPt v) 26 0, .row [ib 0, .sc (.slice none 0 0), .sc (.slice none 0 0), .sc (.slice none 0 0),tb []] 26 0, .row [ib v.c,LS 2 zaP Run.o v.al, .sc (.slice none 0 0),LS 1 aI 0 v.ds,tb v.mp] 26 0, .row [bb x.u,ib x.q,ib x.k,ib x.b.r,ib x.b.q,ib x.ln,ib x.ds,LS 3 aNm Nm.o x.ns, .so 4 0 (k+1) 0,seE 20 d x] 66 0, .row ((x.ss.take (k+1)).flatMap aSm) 80 2])) ?_ ?_
   ·refine yCX [0,1,2,220] [222] [(2*d+1,224)] rfl rfl rfl rfl ?_ ?_ ?_ ?_
    ·exact⟨⟨rfl,rfl, .same rfl rfl⟩,⟨rfl,rfl, .same rfl rfl⟩,⟨rfl,rfl, .same rfl rfl⟩,⟨rfl,rfl,yzX (WL.sc rfl (WL.sc rfl (WL.sc rfl (WL.sc rfl (WL.sc rfl (WL.sc rfl (WL.sc rfl (ywX (zig (yjZ (λ_=>rfl) (λ_=>rfl) rfl (by simp) (ylX _) (zaA _ _ _))) (WL.sc rfl (ywX (zjj hb2 (ylX _) hd96) yMX))))))))))⟩,zT⟩
    ·exact zuo (λh=>absurd rfl (h (2*d+1,224) (by simp)))
    ·intro p hp o1 ho
     rcases yiX.1 hp with rfl
     have ho:gX v d (2*d+1)=some o1:=ho;rw[hgE2 hb2] at ho;cases ho;exact⟨_,rfl,rfl,rfl, .inr ⟨[],by rw[yKX];exact zaA aEn En.o x.es,zbp _⟩⟩
    ·(repeat' first|exact zT|exact rfl|refine zA ?_ ?_)
   have hse:seE 20 d x= .so (fam 20 (2*d+1)) 0 x.es.length 0:=zbB hb2;clear hn he hb2 hc hc2
   rotate_left
   all_goals
    intro k hk
    cases k with
    |zero=>
     dsimp only;by_cases hk2:0<x.ss.length
     ·have hk3:((0:Nat):Int)<(x.ss.length:Nat):=zo
      have hk0:(0:Int)<=((0:Nat):Int)/\((0:Nat):Int)<(x.ss.length:Nat):=⟨zo,zo⟩
      have h7:=b4 _ (at_mem Sm.o x.ss 0 hk2)
      (conv=>whnf);repeat(first|refine Need.mk ?_ ?_;(focus(first|exact hd0|exact hk0))|rw[hxi]|refine KIf.t (ybX hk3) ?_|refine yxX (zbr _ h7) ?_|refine Ex.g ?_);conv=>whnf
      refine Exists.intro 1 (zA hk2 (zA (by dsimp only;omega) ?_));refine yCX [0,1,2,3,222] [] [] rfl rfl rfl rfl ?_ ?_ ?_ ?_
      ·exact⟨⟨rfl,rfl, .same rfl rfl⟩,⟨rfl,rfl, .same rfl rfl⟩,⟨rfl,rfl, .same rfl rfl⟩,⟨rfl,rfl,yzX (WL.sc rfl (WL.sc rfl (WL.sc rfl (WL.sc rfl (WL.sc rfl (WL.sc rfl (WL.sc rfl (WL.sc rfl (ywX (zdn ⟨rfl,rfl⟩) (ywX (zmd hd96 zN) yMX))))))))))⟩,⟨rfl,rfl,zsz hk2 rfl⟩,zT⟩
      ·exact λj o1 h _=>⟨h,zhQ _ _ j o1 h⟩
      ·exact zN
      ·(repeat' first|exact zT|exact rfl|refine zA ?_ ?_)
     ·have hs0:x.ss=[]:=yeX zo;have hk3:¬((0:Nat):Int)<(x.ss.length:Nat):=zo
      (conv=>whnf);repeat(first|refine Need.mk ?_ ?_;exact hd0|rw[hxi]|refine KIf.f (ycX hk3) ?_|rw[hse]|refine Ex.g ?_);conv=>whnf
      refine⟨d+1,hlt,by dsimp only;omega,?_⟩;subst hz;refine yCX [0,1,2,221] [] [] rfl rfl rfl rfl ?_ ?_ ?_ ?_
      ·exact⟨⟨rfl,rfl, .same rfl rfl⟩,⟨rfl,rfl, .same rfl rfl⟩,⟨rfl,rfl,yzX (WL.sc rfl (WL.sc rfl (ywX (zdn ⟨rfl,rfl⟩) (WL.sc rfl (WL.sc rfl yMX)))))⟩,⟨rfl,rfl,(by rw[zgR hlt hxd];exact yzX (WL.sc rfl (WL.sc rfl (WL.sc rfl (WL.sc rfl (WL.sc rfl (WL.sc rfl (WL.sc rfl (WL.sc rfl (ywX (znn hs0) (ywX (zgN hse hd96 zN) yMX)))))))))))⟩,zT⟩
      ·exact zx1 (λ_=>hgS hs0)
      ·exact zN
      ·(repeat' first|exact zT|exact rfl|refine zA ?_ ?_)
    |succ k=>
     dsimp only;have htk2:=Ex.take_len (enc:=aSm) (sz:=2) (l:=x.ss) (λ_=>rfl) hk;by_cases hk2:k+1<x.ss.length
     ·have hk3:((k+1:Nat):Int)<(x.ss.length:Nat):=zo
      have hk0:(0:Int)<=((k+1:Nat):Int)/\((k+1:Nat):Int)<(x.ss.length:Nat):=⟨zo,zo⟩
      have h7:=b4 _ (at_mem Sm.o x.ss (k+1) hk2)
      (conv=>whnf);repeat(first|refine Need.mk ?_ ?_;(focus(first|exact hd0|exact hk0|exact htk2))|rw[hxi]|refine KIf.t (ybX hk3) ?_|refine yxX (zbr _ h7) ?_|refine Ex.g ?_);conv=>whnf
      refine Exists.intro (k+2) (zA hk2 (zA (by dsimp only;omega) ?_));refine yCX [0,1,2,3,222] [] [] rfl rfl rfl rfl ?_ ?_ ?_ ?_
      ·exact⟨⟨rfl,rfl, .same rfl rfl⟩,⟨rfl,rfl, .same rfl rfl⟩,⟨rfl,rfl, .same rfl rfl⟩,⟨rfl,rfl,yzX (WL.sc rfl (WL.sc rfl (WL.sc rfl (WL.sc rfl (WL.sc rfl (WL.sc rfl (WL.sc rfl (WL.sc rfl (ywX (zdn ⟨rfl,rfl⟩) (ywX (zmd hd96 zN) yMX))))))))))⟩,⟨rfl,rfl,zsz hk2 rfl⟩,zT⟩
      ·exact λj o1 h _=>⟨h,zhQ _ _ j o1 h⟩
      ·exact zN
      ·(repeat' first|exact zT|exact rfl|refine zA ?_ ?_)
     ·have hk3:¬((k+1:Nat):Int)<(x.ss.length:Nat):=zo;have hk4:k+1=x.ss.length:=zo
      have hs0:x.ss≠[]:=λe=>by rw[e] at hk4;cases hk4
      (conv=>whnf);repeat(first|refine Need.mk ?_ ?_;exact hd0|rw[hxi]|refine KIf.f (ycX hk3) ?_|rw[hse]|refine Ex.g ?_);conv=>whnf
      refine⟨d+1,hlt,by dsimp only;omega,?_⟩;subst hz;refine yCX [0,1,2,221] [] [(2*0,4)] rfl rfl rfl rfl ?_ ?_ ?_ ?_
      ·exact⟨⟨rfl,rfl, .same rfl rfl⟩,⟨rfl,rfl, .same rfl rfl⟩,⟨rfl,rfl,yzX (WL.sc rfl (WL.sc rfl (ywX (zdn ⟨rfl,rfl⟩) (WL.sc rfl (WL.sc rfl yMX)))))⟩,⟨rfl,rfl,(by rw[zgR hlt hxd];exact yzX (WL.sc rfl (WL.sc rfl (WL.sc rfl (WL.sc rfl (WL.sc rfl (WL.sc rfl (WL.sc rfl (WL.sc rfl (ywX (zp9 hs0 hk4 hd96) (ywX (zgN hse hd96 (λp hp=>by rcases yiX.1 hp with rfl;dsimp only;omega)) yMX)))))))))))⟩,zT⟩
      ·exact zx1 (λh=>absurd rfl (h (2*0,4) (by simp)))
      ·intro p hp o1 ho
       rcases yiX.1 hp with rfl
       have ho:gC v (0+1) (2*0)=some o1:=ho;rw[hgS2 hs0] at ho;cases ho;exact⟨_,rfl,rfl,rfl, .inr ⟨[],by rw[yKX,hk4,yCY],zhb _⟩⟩
      ·(repeat' first|exact zT|exact rfl|refine zA ?_ ?_)
  ·rw[zrM hz];by_cases hn:x.ns.length=0<;>by_cases he:x.es.length=0;have hb:x.ns=[]:=yeX hn
   have hc:Nat.ble (0+x.ns.length) 0=true:=by rw[hb];rfl
   have hb2:x.es=[]:=yeX he
   have hc2:Nat.ble (0+x.es.length) 0=true:=by rw[hb2];rfl
   (conv=>whnf);repeat(first|refine Need.mk (λ_ _=>rfl) ?_|refine KIf.t (ybX hlt2) ?_|rw[hxi]|refine Need.mk ?_ ?_;exact hd0|refine RK.of (zaK (zbe hn) rfl) ?_|refine RK.of (zaK (zbe he) rfl) ?_|refine Ex.g ?_);conv=>whnf
   refine Ex.wl x.ss.length (λk=>zag [(1, .ptr 0 0),(2, .ptr 1 0),(3, .ptr 2 0),(4,ib d),(5, .ptr 4 0),(6,ib k)] 79) (λk=>zaw 20 220 (gX v d) (match k with
    |0=>[.row (aPt v) 26 0, .row [ib 0, .sc (.slice none 0 0), .sc (.slice none 0 0), .sc (.slice none 0 0),tb []] 26 0, .row [ib v.c,LS 2 zaP Run.o v.al, .so 3 0 d 0,LS 1 aI 0 v.ds,tb v.mp] 26 0, .row (flatI (rcP false 20) 0 (v.rs.take d)) 66 10, .row [bb x.u,ib x.q,ib x.k,ib x.b.r,ib x.b.q,ib x.ln,ib x.ds,LS 3 aNm Nm.o x.ns, .sc (.slice none 0 0),seE 20 d x] 66 0]
    |k+1=>[.row (aPt v) 26 0, .row [ib 0, .sc (.slice none 0 0), .sc (.slice none 0 0), .sc (.slice none 0 0),tb []] 26 0, .row [ib v.c,LS 2 zaP Run.o v.al, .so 3 0 d 0,LS 1 aI 0 v.ds,tb v.mp] 26 0, .row (flatI (rcP false 20) 0 (v.rs.take d)) 66 10, .row [bb x.u,ib x.q,ib x.k,ib x.b.r,ib x.b.q,ib x.ln,ib x.ds,LS 3 aNm Nm.o x.ns, .so 5 0 (k+1) 0,seE 20 d x] 66 0, .row ((x.ss.take (k+1)).flatMap aSm) 80 2])) ?_ ?_
   ·refine yCX [0,1,2,3,220] [221,222] [] rfl rfl rfl rfl ?_ ?_ ?_ ?_
    ·exact⟨⟨rfl,rfl, .same rfl rfl⟩,⟨rfl,rfl, .same rfl rfl⟩,⟨rfl,rfl,yzX (WL.sc rfl (WL.sc rfl (ywX (zdn ⟨rfl,rfl⟩) (WL.sc rfl (WL.sc rfl yMX)))))⟩,⟨rfl,rfl,yzX (zgp zo zN)⟩,⟨rfl,rfl,yzX (WL.sc rfl (WL.sc rfl (WL.sc rfl (WL.sc rfl (WL.sc rfl (WL.sc rfl (WL.sc rfl (ywX (zig (Wv.mt hb (ylX _) rfl (by simp))) (WL.sc rfl (ywX (zjk hb2 (ylX _) rfl (by simp)) yMX))))))))))⟩,zT⟩
    ·exact zuo (λ_=>hgE hb2)
    ·exact zN
    ·(repeat' first|exact zT|exact rfl|refine zA ?_ ?_)
   have hse:seE 20 d x=LS 4 aEn En.o []:=zbM hb2;clear hn he hb2 hc hc2
   rotate_left
   have hb:x.ns=[]:=yeX hn
   have hc:Nat.ble (0+x.ns.length) 0=true:=by rw[hb];rfl
   have hb2:x.es≠[]:=λe=>he (by rw[e];rfl)
   have hc2:Nat.ble (0+x.es.length) 0=false:=by cases h:Nat.ble (0+x.es.length) 0 with|false=>rfl|true=>have:=ynX h;omega
   (conv=>whnf);repeat(first|refine Need.mk (λ_ _=>rfl) ?_|refine KIf.t (ybX hlt2) ?_|rw[hxi]|refine Need.mk ?_ ?_;exact hd0|refine RK.of (zaK (zbe hn) rfl) ?_|refine Ex.g ?_);conv=>whnf
   refine Ex.wl x.ss.length (λk=>zag [(1, .ptr 0 0),(2, .ptr 1 0),(3, .ptr 2 0),(4,ib d),(5, .ptr 4 0),(6,ib k)] 79) (λk=>zaw 20 220 (gX v d) (match k with
    |0=>[.row (aPt v) 26 0, .row [ib 0, .sc (.slice none 0 0), .sc (.slice none 0 0), .sc (.slice none 0 0),tb []] 26 0, .row [ib v.c,LS 2 zaP Run.o v.al, .so 3 0 d 0,LS 1 aI 0 v.ds,tb v.mp] 26 0, .row (flatI (rcP false 20) 0 (v.rs.take d)) 66 10, .row [bb x.u,ib x.q,ib x.k,ib x.b.r,ib x.b.q,ib x.ln,ib x.ds,LS 3 aNm Nm.o x.ns, .sc (.slice none 0 0),seE 20 d x] 66 0]
    |k+1=>[.row (aPt v) 26 0, .row [ib 0, .sc (.slice none 0 0), .sc (.slice none 0 0), .sc (.slice none 0 0),tb []] 26 0, .row [ib v.c,LS 2 zaP Run.o v.al, .so 3 0 d 0,LS 1 aI 0 v.ds,tb v.mp] 26 0, .row (flatI (rcP false 20) 0 (v.rs.take d)) 66 10, .row [bb x.u,ib x.q,ib x.k,ib x.b.r,ib x.b.q,ib x.ln,ib x.ds,LS 3 aNm Nm.o x.ns, .so 5 0 (k+1) 0,seE 20 d x] 66 0, .row ((x.ss.take (k+1)).flatMap aSm) 80 2])) ?_ ?_
   ·refine yCX [0,1,2,3,220] [221] [(2*d+1,223)] rfl rfl rfl rfl ?_ ?_ ?_ ?_
    ·exact⟨⟨rfl,rfl, .same rfl rfl⟩,⟨rfl,rfl, .same rfl rfl⟩,⟨rfl,rfl,yzX (WL.sc rfl (WL.sc rfl (ywX (zdn ⟨rfl,rfl⟩) (WL.sc rfl (WL.sc rfl yMX)))))⟩,⟨rfl,rfl,yzX (zgp zo (λp hp k hk=>by rcases yiX.1 hp with rfl;dsimp only;omega))⟩,⟨rfl,rfl,yzX (WL.sc rfl (WL.sc rfl (WL.sc rfl (WL.sc rfl (WL.sc rfl (WL.sc rfl (WL.sc rfl (ywX (zig (Wv.mt hb (ylX _) rfl (by simp))) (WL.sc rfl (ywX (zjj hb2 (ylX _) hd96) yMX))))))))))⟩,zT⟩
    ·exact zuo (λh=>absurd rfl (h (2*d+1,223) (by simp)))
    ·intro p hp o1 ho
     rcases yiX.1 hp with rfl
     have ho:gX v d (2*d+1)=some o1:=ho;rw[hgE2 hb2] at ho;cases ho;exact⟨_,rfl,rfl,rfl, .inr ⟨[],by rw[yKX];exact zaA aEn En.o x.es,zbp _⟩⟩
    ·(repeat' first|exact zT|exact rfl|refine zA ?_ ?_)
   have hse:seE 20 d x= .so (fam 20 (2*d+1)) 0 x.es.length 0:=zbB hb2;clear hn he hb2 hc hc2
   rotate_left
   have hc:Nat.ble (0+x.ns.length) 0=false:=by cases h:Nat.ble (0+x.ns.length) 0 with|false=>rfl|true=>have:=ynX h;omega
   have hb2:x.es=[]:=yeX he
   have hc2:Nat.ble (0+x.es.length) 0=true:=by rw[hb2];rfl
   (conv=>whnf);repeat(first|refine Need.mk (λ_ _=>rfl) ?_|refine KIf.t (ybX hlt2) ?_|rw[hxi]|refine Need.mk ?_ ?_;exact hd0|refine RK.of (zaK (zbe he) rfl) ?_|refine Ex.g ?_);conv=>whnf
   refine Ex.wl x.ss.length (λk=>zag [(1, .ptr 0 0),(2, .ptr 1 0),(3, .ptr 2 0),(4,ib d),(5, .ptr 4 0),(6,ib k)] 79) (λk=>zaw 20 220 (gX v d) (match k with
    |0=>[.row (aPt v) 26 0, .row [ib 0, .sc (.slice none 0 0), .sc (.slice none 0 0), .sc (.slice none 0 0),tb []] 26 0, .row [ib v.c,LS 2 zaP Run.o v.al, .so 3 0 d 0,LS 1 aI 0 v.ds,tb v.mp] 26 0, .row (flatI (rcP false 20) 0 (v.rs.take d)) 66 10, .row [bb x.u,ib x.q,ib x.k,ib x.b.r,ib x.b.q,ib x.ln,ib x.ds,LS 3 aNm Nm.o x.ns, .sc (.slice none 0 0),seE 20 d x] 66 0]
    |k+1=>[.row (aPt v) 26 0, .row [ib 0, .sc (.slice none 0 0), .sc (.slice none 0 0), .sc (.slice none 0 0),tb []] 26 0, .row [ib v.c,LS 2 zaP Run.o v.al, .so 3 0 d 0,LS 1 aI 0 v.ds,tb v.mp] 26 0, .row (flatI (rcP false 20) 0 (v.rs.take d)) 66 10, .row [bb x.u,ib x.q,ib x.k,ib x.b.r,ib x.b.q,ib x.ln,ib x.ds,LS 3 aNm Nm.o x.ns, .so 5 0 (k+1) 0,seE 20 d x] 66 0, .row ((x.ss.take (k+1)).flatMap aSm) 80 2])) ?_ ?_
   ·refine yCX [0,1,2,3,220] [222,223] [] rfl rfl rfl rfl ?_ ?_ ?_ ?_
    ·exact⟨⟨rfl,rfl, .same rfl rfl⟩,⟨rfl,rfl, .same rfl rfl⟩,⟨rfl,rfl,yzX (WL.sc rfl (WL.sc rfl (ywX (zdn ⟨rfl,rfl⟩) (WL.sc rfl (WL.sc rfl yMX)))))⟩,⟨rfl,rfl,yzX (zgp zo zN)⟩,⟨rfl,rfl,yzX (WL.sc rfl (WL.sc rfl (WL.sc rfl (WL.sc rfl (WL.sc rfl (WL.sc rfl (WL.sc rfl (ywX (zig (yjZ (λ_=>rfl) (λ_=>rfl) rfl (by simp) (ylX _) (zaA _ _ _))) (WL.sc rfl (ywX (zjk hb2 (ylX _) rfl (by simp)) yMX))))))))))⟩,zT⟩
    ·exact zuo (λ_=>hgE hb2)
    ·exact zN
    ·(repeat' first|exact zT|exact rfl|refine zA ?_ ?_)
   have hse:seE 20 d x=LS 4 aEn En.o []:=zbM hb2;clear hn he hb2 hc hc2
   rotate_left
   have hc:Nat.ble (0+x.ns.length) 0=false:=by cases h:Nat.ble (0+x.ns.length) 0 with|false=>rfl|true=>have:=ynX h;omega
   have hb2:x.es≠[]:=λe=>he (by rw[e];rfl)
   have hc2:Nat.ble (0+x.es.length) 0=false:=by cases h:Nat.ble (0+x.es.length) 0 with|false=>rfl|true=>have:=ynX h;omega
   (conv=>whnf);repeat(first|refine Need.mk (λ_ _=>rfl) ?_|refine KIf.t (ybX hlt2) ?_|rw[hxi]|refine Need.mk ?_ ?_;exact hd0|refine Ex.g ?_);conv=>whnf
   refine Ex.wl x.ss.length (λk=>zag [(1, .ptr 0 0),(2, .ptr 1 0),(3, .ptr 2 0),(4,ib d),(5, .ptr 4 0),(6,ib k)] 79) (λk=>zaw 20 220 (gX v d) (match k with
    |0=>[.row (aPt v) 26 0, .row [ib 0, .sc (.slice none 0 0), .sc (.slice none 0 0), .sc (.slice none 0 0),tb []] 26 0, .row [ib v.c,LS 2 zaP Run.o v.al, .so 3 0 d 0,LS 1 aI 0 v.ds,tb v.mp] 26 0, .row (flatI (rcP false 20) 0 (v.rs.take d)) 66 10, .row [bb x.u,ib x.q,ib x.k,ib x.b.r,ib x.b.q,ib x.ln,ib x.ds,LS 3 aNm Nm.o x.ns, .sc (.slice none 0 0),seE 20 d x] 66 0]
    |k+1=>[.row (aPt v) 26 0, .row [ib 0, .sc (.slice none 0 0), .sc (.slice none 0 0), .sc (.slice none 0 0),tb []] 26 0, .row [ib v.c,LS 2 zaP Run.o v.al, .so 3 0 d 0,LS 1 aI 0 v.ds,tb v.mp] 26 0, .row (flatI (rcP false 20) 0 (v.rs.take d)) 66 10, .row [bb x.u,ib x.q,ib x.k,ib x.b.r,ib x.b.q,ib x.ln,ib x.ds,LS 3 aNm Nm.o x.ns, .so 5 0 (k+1) 0,seE 20 d x] 66 0, .row ((x.ss.take (k+1)).flatMap aSm) 80 2])) ?_ ?_
   ·refine yCX [0,1,2,3,220] [222] [(2*d+1,224)] rfl rfl rfl rfl ?_ ?_ ?_ ?_
    ·exact⟨⟨rfl,rfl, .same rfl rfl⟩,⟨rfl,rfl, .same rfl rfl⟩,⟨rfl,rfl,yzX (WL.sc rfl (WL.sc rfl (ywX (zdn ⟨rfl,rfl⟩) (WL.sc rfl (WL.sc rfl yMX)))))⟩,⟨rfl,rfl,yzX (zgp zo (λp hp k hk=>by rcases yiX.1 hp with rfl;dsimp only;omega))⟩,⟨rfl,rfl,yzX (WL.sc rfl (WL.sc rfl (WL.sc rfl (WL.sc rfl (WL.sc rfl (WL.sc rfl (WL.sc rfl (ywX (zig (yjZ (λ_=>rfl) (λ_=>rfl) rfl (by simp) (ylX _) (zaA _ _ _))) (WL.sc rfl (ywX (zjj hb2 (ylX _) hd96) yMX))))))))))⟩,zT⟩
    ·exact zuo (λh=>absurd rfl (h (2*d+1,224) (by simp)))
    ·intro p hp o1 ho
     rcases yiX.1 hp with rfl
     have ho:gX v d (2*d+1)=some o1:=ho;rw[hgE2 hb2] at ho;cases ho;exact⟨_,rfl,rfl,rfl, .inr ⟨[],by rw[yKX];exact zaA aEn En.o x.es,zbp _⟩⟩
    ·(repeat' first|exact zT|exact rfl|refine zA ?_ ?_)
   have hse:seE 20 d x= .so (fam 20 (2*d+1)) 0 x.es.length 0:=zbB hb2;clear hn he hb2 hc hc2
   rotate_left
   all_goals
    intro k hk
    cases k with
    |zero=>
     dsimp only;by_cases hk2:0<x.ss.length
     ·have hk3:((0:Nat):Int)<(x.ss.length:Nat):=zo
      have hk0:(0:Int)<=((0:Nat):Int)/\((0:Nat):Int)<(x.ss.length:Nat):=⟨zo,zo⟩
      have h7:=b4 _ (at_mem Sm.o x.ss 0 hk2)
      (conv=>whnf);repeat(first|refine Need.mk ?_ ?_;(focus(first|exact hd0|exact hk0))|rw[hxi]|refine KIf.t (ybX hk3) ?_|refine yxX (zbr _ h7) ?_|refine Ex.g ?_);conv=>whnf
      refine Exists.intro 1 (zA hk2 (zA (by dsimp only;omega) ?_));refine yCX [0,1,2,3,4,222] [] [] rfl rfl rfl rfl ?_ ?_ ?_ ?_
      ·exact⟨⟨rfl,rfl, .same rfl rfl⟩,⟨rfl,rfl, .same rfl rfl⟩,⟨rfl,rfl,yzX (WL.sc rfl (WL.sc rfl (ywX (zdn ⟨rfl,rfl⟩) (WL.sc rfl (WL.sc rfl yMX)))))⟩,⟨rfl,rfl,yzX (zgp zo zN)⟩,⟨rfl,rfl,yzX (WL.sc rfl (WL.sc rfl (WL.sc rfl (WL.sc rfl (WL.sc rfl (WL.sc rfl (WL.sc rfl (WL.sc rfl (ywX (zdn ⟨rfl,rfl⟩) (ywX (zmd hd96 zN) yMX))))))))))⟩,⟨rfl,rfl,zsz hk2 rfl⟩,zT⟩
      ·exact λj o1 h _=>⟨h,zhQ _ _ j o1 h⟩
      ·exact zN
      ·(repeat' first|exact zT|exact rfl|refine zA ?_ ?_)
     ·have hs0:x.ss=[]:=yeX zo;have hk3:¬((0:Nat):Int)<(x.ss.length:Nat):=zo
      (conv=>whnf);repeat(first|refine Need.mk ?_ ?_;(focus(first|exact hd0|exact htl))|rw[hxi]|refine KIf.f (ycX hk3) ?_|rw[hse]|refine Ex.g ?_);conv=>whnf
      refine⟨d+1,hlt,by dsimp only;omega,?_⟩;refine yCX [0,1,2,221] [] [] rfl rfl rfl rfl ?_ ?_ ?_ ?_
      ·exact⟨⟨rfl,rfl, .same rfl rfl⟩,⟨rfl,rfl, .same rfl rfl⟩,⟨rfl,rfl,yzX (WL.sc rfl (WL.sc rfl (ywX (zdn ⟨rfl,rfl⟩) (WL.sc rfl (WL.sc rfl yMX)))))⟩,⟨rfl,rfl,(by rw[zgR hlt hxd];exact yzX (WL.append (zgp zo zN) (WL.sc rfl (WL.sc rfl (WL.sc rfl (WL.sc rfl (WL.sc rfl (WL.sc rfl (WL.sc rfl (WL.sc rfl (ywX (znn hs0) (ywX (zgN hse hd96 zN) yMX))))))))))))⟩,zT⟩
      ·exact zx1 (λ_=>hgS hs0)
      ·exact zN
      ·(repeat' first|exact zT|exact rfl|refine zA ?_ ?_)
    |succ k=>
     dsimp only;have htk2:=Ex.take_len (enc:=aSm) (sz:=2) (l:=x.ss) (λ_=>rfl) hk;by_cases hk2:k+1<x.ss.length
     ·have hk3:((k+1:Nat):Int)<(x.ss.length:Nat):=zo
      have hk0:(0:Int)<=((k+1:Nat):Int)/\((k+1:Nat):Int)<(x.ss.length:Nat):=⟨zo,zo⟩
      have h7:=b4 _ (at_mem Sm.o x.ss (k+1) hk2)
      (conv=>whnf);repeat(first|refine Need.mk ?_ ?_;(focus(first|exact hd0|exact hk0|exact htk2))|rw[hxi]|refine KIf.t (ybX hk3) ?_|refine yxX (zbr _ h7) ?_|refine Ex.g ?_);conv=>whnf
      refine Exists.intro (k+2) (zA hk2 (zA (by dsimp only;omega) ?_));refine yCX [0,1,2,3,4,222] [] [] rfl rfl rfl rfl ?_ ?_ ?_ ?_
      ·exact⟨⟨rfl,rfl, .same rfl rfl⟩,⟨rfl,rfl, .same rfl rfl⟩,⟨rfl,rfl,yzX (WL.sc rfl (WL.sc rfl (ywX (zdn ⟨rfl,rfl⟩) (WL.sc rfl (WL.sc rfl yMX)))))⟩,⟨rfl,rfl,yzX (zgp zo zN)⟩,⟨rfl,rfl,yzX (WL.sc rfl (WL.sc rfl (WL.sc rfl (WL.sc rfl (WL.sc rfl (WL.sc rfl (WL.sc rfl (WL.sc rfl (ywX (zdn ⟨rfl,rfl⟩) (ywX (zmd hd96 zN) yMX))))))))))⟩,⟨rfl,rfl,zsz hk2 rfl⟩,zT⟩
      ·exact λj o1 h _=>⟨h,zhQ _ _ j o1 h⟩
      ·exact zN
      ·(repeat' first|exact zT|exact rfl|refine zA ?_ ?_)
     ·have hk3:¬((k+1:Nat):Int)<(x.ss.length:Nat):=zo;have hk4:k+1=x.ss.length:=zo
      have hs0:x.ss≠[]:=λe=>by rw[e] at hk4;cases hk4
      (conv=>whnf);repeat(first|refine Need.mk ?_ ?_;(focus(first|exact hd0|exact htl))|rw[hxi]|refine KIf.f (ycX hk3) ?_|rw[hse]|refine Ex.g ?_);conv=>whnf
      refine⟨d+1,hlt,by dsimp only;omega,?_⟩;refine yCX [0,1,2,221] [] [(2*d,5)] rfl rfl rfl rfl ?_ ?_ ?_ ?_
      ·exact⟨⟨rfl,rfl, .same rfl rfl⟩,⟨rfl,rfl, .same rfl rfl⟩,⟨rfl,rfl,yzX (WL.sc rfl (WL.sc rfl (ywX (zdn ⟨rfl,rfl⟩) (WL.sc rfl (WL.sc rfl yMX)))))⟩,⟨rfl,rfl,(by rw[zgR hlt hxd];exact yzX (WL.append (zgp zo (λp hp k hk=>by rcases yiX.1 hp with rfl;rw[htk] at hk;dsimp only;omega)) (WL.sc rfl (WL.sc rfl (WL.sc rfl (WL.sc rfl (WL.sc rfl (WL.sc rfl (WL.sc rfl (WL.sc rfl (ywX (zp9 hs0 hk4 hd96) (ywX (zgN hse hd96 (λp hp=>by rcases yiX.1 hp with rfl;dsimp only;omega)) yMX))))))))))))⟩,zT⟩
      ·exact zx1 (λh=>absurd rfl (h (2*d,5) (by simp)))
      ·intro p hp o1 ho
       rcases yiX.1 hp with rfl
       have ho:gC v (d+1) (2*d)=some o1:=ho;rw[hgS2 hs0] at ho;cases ho;exact⟨_,rfl,rfl,rfl, .inr ⟨[],by rw[yKX,hk4,yCY],zhb _⟩⟩
      ·(repeat' first|exact zT|exact rfl|refine zA ?_ ?_)
 ·have hde:d=v.rs.length:=zo;have hlt2:¬((d:Nat):Int)<(v.rs.length:Nat):=zo;rw[zrM zo]
  (conv=>whnf);repeat((refine KIf.f (ycX hlt2) ?_;conv=>whnf))
  rw[hde,yCY,zul];refine⟨?_⟩;refine yCX [3] [] [] rfl rfl rfl rfl ?_ ?_ ?_ ?_
  ·exact⟨rQ h96,zT⟩
  ·exact λj o1 h _=>⟨h,yQX _ _ j o1 h⟩
  ·exact zN
  ·exact⟨za2 (WL.sc rfl (WL.sc rfl (ywX (zdn ⟨rfl,rfl⟩) (WL.sc rfl (WL.sc rfl yMX))))),zT⟩
set_option maxHeartbeats 16000000
theorem ztx (v:Pt) (h96:v.rs.length<=96) (h0:0<v.rs.length) (hal:v.al.length<=100000) (hds:v.ds.length<=100000) (hx:∀x∈v.rs,x.ns.length<=100000/\x.ss.length<=100000/\x.es.length<=100000/\∀y∈x.ss,y.r.length<=100000):HG Tryz.prog 0 20 220 103 [zbF v] (λ_=>none) [] (.agg [ib v.c,LS 2 zaP Run.o v.al, .so 0 0 v.rs.length 0,LS 1 aI 0 v.ds,tb v.mp])
  (gP false ⟨v,[],[]⟩) [.row (flatI (rcP false 20) 0 v.rs) 66 10]:=by
 refine HG.of zal zo ?_;have hrl:v.rs.length<=100000:=zo
 (conv=>whnf);repeat(first|refine yxX (zfO v.al hal) ?_|refine yxX (ztS v.ds hds) ?_|refine yTZ [] [] (.so 222 0 v.rs.length 0) [.row (v.rs.flatMap aRc) 66 10] (zpw v.rs hrl h0) rfl trivial ⟨rfl,ydX rfl,zT⟩ ⟨(by unfold Rn;rfl),rfl,⟨rfl,rfl, .inr ⟨rfl,zay (λ_=>rfl) _⟩⟩,zT⟩ ?_|refine Ex.g ?_);conv=>whnf
 refine Ex.wl v.rs.length (λd=>zag [(1, .ptr 0 0),(2, .ptr 2 0),(20,ib v.rs.length),(21,ib d)] 79) (λd=>zaw 20 220 (gC v d) [.row [ib v.c,LS 2 zaP Run.o v.al, .so 1 0 v.rs.length 0,LS 1 aI 0 v.ds,tb v.mp] 26 0, .row (flatI (rcC d 20) 0 v.rs) 66 10, .row [ib 0, .sc (.slice none 0 0), .sc (.slice none 0 0), .sc (.slice none 0 0),tb []] 26 0]) ?_ ?_
 ·rw[zo1];refine yCX [220,222,221] [] [] rfl rfl rfl rfl ?_ ?_ ?_ ?_
  ·exact⟨⟨rfl,rfl,yzX (zqv ⟨rfl,rfl⟩)⟩,⟨rfl,rfl, .same rfl (zay (λ_=>rfl) _)⟩,⟨rfl,rfl, .same rfl rfl⟩,zT⟩
  ·intro j o1 ho _;unfold gC at ho;rw[yfX zo] at ho;cases ho
  ·exact zN
  ·(repeat' first|exact zT|exact rfl|refine zA ?_ ?_)
 ·intro d hd;refine Ex.go ?_;refine yPX (λh=> ?_) (λh=> ?_)
  ·have hlt:d<v.rs.length:=zo;have hd96:d<96:=zo
   have hd0:(0:Int)<=(d:Nat)/\((d:Nat):Int)<(v.rs.length:Nat):=⟨zo,zo⟩
   have hoff7:0+((d:Nat):Int).toNat*10+7=d*10+7:=by simp
   have hoff8:0+((d:Nat):Int).toNat*10+8=d*10+8:=by simp
   have hoff9:0+((d:Nat):Int).toNat*10+9=d*10+9:=by simp
   obtain⟨b1,b2,b3,b4⟩:=hx _ (at_mem Rc.o v.rs d hlt)
   obtain⟨x,hxd⟩:∃x,at_ Rc.o v.rs d=x:=⟨_,rfl⟩
   rw[hxd] at b1 b2 b3 b4
   have hv7:(rcC d 20 d (at_ Rc.o v.rs d))[7]? =some (LS 3 aNm Nm.o x.ns):=by rw[zhp,hxd];rfl
   have hv8:(rcC d 20 d (at_ Rc.o v.rs d))[8]? =some (LS 2 aSm Sm.o x.ss):=by rw[zhp,hxd];rfl
   have hv9:(rcC d 20 d (at_ Rc.o v.rs d))[9]? =some (LS 4 aEn En.o x.es):=by rw[zhp,hxd];rfl
   have hw8:(rcC (d+1) 20 d (at_ Rc.o v.rs d))[8]? =some (seS false 20 d x):=by rw[zho (ysZ d),hxd];rfl
   have hgx:∀j,j/2=d->gP false ⟨v,[],[]⟩ j=if j%2=0 then(if x.ss=[] then none else some (.row (x.ss.flatMap aSm) 80 2)) else(if x.es=[] then none else some (.row (x.es.flatMap aEn) 73 4)):=λj hj=>by
    rw[zcQ zo,hj,show(Pt.rs v)[d]? =some x by rw[ysX hlt,←zaS Rc.o _ _ hlt,hxd]];simp
   by_cases hs:x.ss=[]
   ·by_cases he:x.es=[]
    ·rw[hs] at hv8;rw[he] at hv9
     have hst:(rcC d 20 d (at_ Rc.o v.rs d)).take 7++([LS 3 aNm Nm.o x.ns]++(rcC d 20 d (at_ Rc.o v.rs d)).drop (7+1))=[bb x.u,ib x.q,ib x.k,ib x.b.r,ib x.b.q,ib x.ln,ib x.ds,LS 3 aNm Nm.o x.ns,LS 2 aSm Sm.o x.ss,LS 4 aEn En.o x.es]:=by rw[zhp,hxd];rfl
     have hu8:(zfS (rcC d 20) d ([bb x.u,ib x.q,ib x.k,ib x.b.r,ib x.b.q,ib x.ln,ib x.ds,LS 3 aNm Nm.o x.ns,LS 2 aSm Sm.o [],LS 4 aEn En.o []]) d (at_ Rc.o v.rs d))[8]? =some (LS 2 aSm Sm.o []):=by rw[zbR];rfl
     (conv=>whnf);repeat(first|refine Need.mk ?_ ?_;exact hd0|refine yxX (zkG x.ns b1) ?_|refine RK.of (zam (zaN d 20) Rc.o (k:=7) hoff7 rfl rfl hlt (by decide) hv7) ?_|refine RK.of (zam (zaN d 20) Rc.o (k:=8) hoff8 rfl rfl hlt (by decide) hv8) ?_|refine RK.of (zam (zaN d 20) Rc.o (k:=9) hoff9 rfl rfl hlt (by decide) hv9) ?_|refine yxX (zot) ?_|refine yxX (zkH) ?_|refine zaV (zaN d 20) Rc.o (k:=7) [LS 3 aNm Nm.o x.ns] ([bb x.u,ib x.q,ib x.k,ib x.b.r,ib x.b.q,ib x.ln,ib x.ds,LS 3 aNm Nm.o x.ns,LS 2 aSm Sm.o x.ss,LS 4 aEn En.o x.es]) hoff7 rfl rfl rfl rfl rfl rfl hlt (by decide) hst ?_|refine zgk (zaN d 20) Rc.o (k:=8) [LS 2 aSm Sm.o []] ([bb x.u,ib x.q,ib x.k,ib x.b.r,ib x.b.q,ib x.ln,ib x.ds,LS 3 aNm Nm.o x.ns,LS 2 aSm Sm.o x.ss,LS 4 aEn En.o x.es]) ([bb x.u,ib x.q,ib x.k,ib x.b.r,ib x.b.q,ib x.ln,ib x.ds,LS 3 aNm Nm.o x.ns,LS 2 aSm Sm.o [],LS 4 aEn En.o x.es]) rfl hoff8 rfl rfl rfl rfl rfl rfl hlt (by decide) rfl ?_|refine zgk (zaN d 20) Rc.o (k:=9) [LS 4 aEn En.o []] ([bb x.u,ib x.q,ib x.k,ib x.b.r,ib x.b.q,ib x.ln,ib x.ds,LS 3 aNm Nm.o x.ns,LS 2 aSm Sm.o [],LS 4 aEn En.o x.es]) ([bb x.u,ib x.q,ib x.k,ib x.b.r,ib x.b.q,ib x.ln,ib x.ds,LS 3 aNm Nm.o x.ns,LS 2 aSm Sm.o [],LS 4 aEn En.o []]) rfl hoff9 rfl rfl rfl rfl rfl rfl hlt (by decide) rfl ?_|refine RK.of (zam (zcW (zaN d 20) (show([bb x.u,ib x.q,ib x.k,ib x.b.r,ib x.b.q,ib x.ln,ib x.ds,LS 3 aNm Nm.o x.ns,LS 2 aSm Sm.o [],LS 4 aEn En.o []]).length=10 from rfl)) Rc.o (k:=8) hoff8 rfl rfl hlt (by decide) hu8) ?_|refine Ex.g ?_);conv=>whnf
     have hpv:∀p∈([]:List (Nat×Nat)),∀k,k≠d->2*k≠p.1/\2*k+1≠p.1:=λp hp=>by cases hp
     refine yFX zal (D:=Unit) (λ_=>0) (λ_=>True) (λ_=>zag [(1, .ptr 0 0),(2, .ptr 2 0),(4, .ptr 1 (0+((d:Nat):Int).toNat*10)),(20,ib v.rs.length),(21,ib d),(56,ib (0:Nat)),(57,ib (0:Nat))] 79) (λ_=>zaw 20 220 (gC v (d+1)) [.row [ib v.c,LS 2 zaP Run.o v.al, .so 1 0 v.rs.length 0,LS 1 aI 0 v.ds,tb v.mp] 26 0, .row (flatI (rcC (d+1) 20) 0 v.rs) 66 10, .row [ib 0, .sc (.slice none 0 0), .sc (.slice none 0 0), .sc (.slice none 0 0),tb []] 26 0]) () trivial ?_ ?_
     ·refine yCX [0,1,2] [] [] rfl rfl rfl rfl ?_ ?_ ?_ ?_
      ·refine⟨⟨rfl,rfl,yzX (zqv ⟨rfl,rfl⟩)⟩,⟨rfl,rfl,yzX (znv h96 (hpv) ?_)⟩,⟨rfl,rfl, .same rfl rfl⟩,zT⟩;rw[hxd];unfold rcP;rw[zir (.inr hs),hs,zbM he]
       repeat refine WL.sc rfl ?_
       exact yMX
      ·refine famC (λj hj hp=> ?_);rw[hgx j hj];rw[ygX hs,ygX he];split<;>rfl
      ·exact zN
      ·(repeat' first|exact zT|exact rfl|refine zA ?_ ?_)
     ·intro _ _
      (conv=>whnf);repeat(((refine Ex.g ?_;conv=>whnf)))
      refine⟨d+1,zo,by dsimp only;omega,?_⟩;refine yCX [0,1,2] [] [] rfl rfl rfl rfl ?_ ?_ ?_ ?_
      ·exact⟨⟨rfl,rfl,yzX (zqv ⟨rfl,rfl⟩)⟩,⟨rfl,rfl,yzX (zis h96)⟩,⟨rfl,rfl, .same rfl rfl⟩,zT⟩
      ·exact(λj o1 h _=>⟨h,zd6 _ _ j o1 h⟩)
      ·exact zN
      ·(repeat' first|exact zT|exact rfl|refine zA ?_ ?_)
    ·rw[hs] at hv8
     have hst:(rcC d 20 d (at_ Rc.o v.rs d)).take 7++([LS 3 aNm Nm.o x.ns]++(rcC d 20 d (at_ Rc.o v.rs d)).drop (7+1))=[bb x.u,ib x.q,ib x.k,ib x.b.r,ib x.b.q,ib x.ln,ib x.ds,LS 3 aNm Nm.o x.ns,LS 2 aSm Sm.o x.ss,LS 4 aEn En.o x.es]:=by rw[zhp,hxd];rfl
     have hu8:(zfS (rcC d 20) d ([bb x.u,ib x.q,ib x.k,ib x.b.r,ib x.b.q,ib x.ln,ib x.ds,LS 3 aNm Nm.o x.ns,LS 2 aSm Sm.o [], .so 220 0 x.es.length 0]) d (at_ Rc.o v.rs d))[8]? =some (LS 2 aSm Sm.o []):=by rw[zbR];rfl
     (conv=>whnf);repeat(first|refine Need.mk ?_ ?_;exact hd0|refine yxX (zkG x.ns b1) ?_|refine RK.of (zam (zaN d 20) Rc.o (k:=7) hoff7 rfl rfl hlt (by decide) hv7) ?_|refine RK.of (zam (zaN d 20) Rc.o (k:=8) hoff8 rfl rfl hlt (by decide) hv8) ?_|refine RK.of (zam (zaN d 20) Rc.o (k:=9) hoff9 rfl rfl hlt (by decide) hv9) ?_|refine yxX (zot) ?_|refine yTZ [] [] (.so 220 0 x.es.length 0) [.row (x.es.flatMap aEn) 73 4] (zgi x.es b3 (yXX.2 he)) rfl trivial ⟨rfl,ydX rfl,zT⟩ ⟨(by unfold Rn;rfl),rfl,⟨rfl,rfl, .inr ⟨rfl,zay (λ_=>rfl) _⟩⟩,zT⟩ ?_|refine zaV (zaN d 20) Rc.o (k:=7) [LS 3 aNm Nm.o x.ns] ([bb x.u,ib x.q,ib x.k,ib x.b.r,ib x.b.q,ib x.ln,ib x.ds,LS 3 aNm Nm.o x.ns,LS 2 aSm Sm.o x.ss,LS 4 aEn En.o x.es]) hoff7 rfl rfl rfl rfl rfl rfl hlt (by decide) hst ?_|refine zgk (zaN d 20) Rc.o (k:=8) [LS 2 aSm Sm.o []] ([bb x.u,ib x.q,ib x.k,ib x.b.r,ib x.b.q,ib x.ln,ib x.ds,LS 3 aNm Nm.o x.ns,LS 2 aSm Sm.o x.ss,LS 4 aEn En.o x.es]) ([bb x.u,ib x.q,ib x.k,ib x.b.r,ib x.b.q,ib x.ln,ib x.ds,LS 3 aNm Nm.o x.ns,LS 2 aSm Sm.o [],LS 4 aEn En.o x.es]) rfl hoff8 rfl rfl rfl rfl rfl rfl hlt (by decide) rfl ?_|refine zgk (zaN d 20) Rc.o (k:=9) [.so 220 0 x.es.length 0] ([bb x.u,ib x.q,ib x.k,ib x.b.r,ib x.b.q,ib x.ln,ib x.ds,LS 3 aNm Nm.o x.ns,LS 2 aSm Sm.o [],LS 4 aEn En.o x.es]) ([bb x.u,ib x.q,ib x.k,ib x.b.r,ib x.b.q,ib x.ln,ib x.ds,LS 3 aNm Nm.o x.ns,LS 2 aSm Sm.o [], .so 220 0 x.es.length 0]) rfl hoff9 rfl rfl rfl rfl rfl rfl hlt (by decide) rfl ?_|refine RK.of (zam (zcW (zaN d 20) (show([bb x.u,ib x.q,ib x.k,ib x.b.r,ib x.b.q,ib x.ln,ib x.ds,LS 3 aNm Nm.o x.ns,LS 2 aSm Sm.o [], .so 220 0 x.es.length 0]).length=10 from rfl)) Rc.o (k:=8) hoff8 rfl rfl hlt (by decide) hu8) ?_|refine Ex.g ?_);conv=>whnf
     have hpv:∀p∈[(2*d+1,220)],∀k,k≠d->2*k≠p.1/\2*k+1≠p.1:=λp hp k hk=>by
      rcases yiX.1 hp with rfl
      dsimp only;omega
     refine yFX zal (D:=Unit) (λ_=>0) (λ_=>True) (λ_=>zag [(1, .ptr 0 0),(2, .ptr 2 0),(4, .ptr 1 (0+((d:Nat):Int).toNat*10)),(20,ib v.rs.length),(21,ib d),(56,ib (0:Nat)),(57,ib (0:Nat))] 79) (λ_=>zaw 20 220 (gC v (d+1)) [.row [ib v.c,LS 2 zaP Run.o v.al, .so 1 0 v.rs.length 0,LS 1 aI 0 v.ds,tb v.mp] 26 0, .row (flatI (rcC (d+1) 20) 0 v.rs) 66 10, .row [ib 0, .sc (.slice none 0 0), .sc (.slice none 0 0), .sc (.slice none 0 0),tb []] 26 0]) () trivial ?_ ?_
     ·refine yCX [0,1,2] [] [(2*d+1,220)] rfl rfl rfl rfl ?_ ?_ ?_ ?_
      ·refine⟨⟨rfl,rfl,yzX (zqv ⟨rfl,rfl⟩)⟩,⟨rfl,rfl,yzX (znv h96 (hpv) ?_)⟩,⟨rfl,rfl, .same rfl rfl⟩,zT⟩;rw[hxd];unfold rcP;rw[zir (.inr hs),hs,zbB he]
       repeat refine WL.sc rfl ?_
       exact ywX (zkO zo) yMX
      ·refine famC (λj hj hp=> ?_);rw[hgx j hj];have:j≠2*d+1:=hp (2*d+1,220) (by simp);rw[ygX zo,ygX hs]
      ·intro p hp o1 ho
       ·rcases yiX.1 hp with rfl
        have ho:gC v (d+1) (2*d+1)=some o1:=ho;unfold gC at ho;rw[ygX zo,hgx _ zo,yfX zo,yfX he] at ho;cases ho;exact⟨_,rfl,rfl,rfl, .same rfl (zbp _)⟩
      ·(repeat' first|exact zT|exact rfl|refine zA ?_ ?_)
     ·intro _ _
      (conv=>whnf);repeat(((refine Ex.g ?_;conv=>whnf)))
      refine⟨d+1,zo,by dsimp only;omega,?_⟩;refine yCX [0,1,2] [] [] rfl rfl rfl rfl ?_ ?_ ?_ ?_
      ·exact⟨⟨rfl,rfl,yzX (zqv ⟨rfl,rfl⟩)⟩,⟨rfl,rfl,yzX (zis h96)⟩,⟨rfl,rfl, .same rfl rfl⟩,zT⟩
      ·exact(λj o1 h _=>⟨h,zd6 _ _ j o1 h⟩)
      ·exact zN
      ·(repeat' first|exact zT|exact rfl|refine zA ?_ ?_)
   ·by_cases he:x.es=[]
    ·rw[he] at hv9
     have hst:(rcC d 20 d (at_ Rc.o v.rs d)).take 7++([LS 3 aNm Nm.o x.ns]++(rcC d 20 d (at_ Rc.o v.rs d)).drop (7+1))=[bb x.u,ib x.q,ib x.k,ib x.b.r,ib x.b.q,ib x.ln,ib x.ds,LS 3 aNm Nm.o x.ns,LS 2 aSm Sm.o x.ss,LS 4 aEn En.o x.es]:=by rw[zhp,hxd];rfl
     have hu8:(zfS (rcC d 20) d ([bb x.u,ib x.q,ib x.k,ib x.b.r,ib x.b.q,ib x.ln,ib x.ds,LS 3 aNm Nm.o x.ns, .so 220 0 x.ss.length 0,LS 4 aEn En.o []]) d (at_ Rc.o v.rs d))[8]? =some (.so 220 0 x.ss.length 0):=by rw[zbR];rfl
     (conv=>whnf);repeat(first|refine Need.mk ?_ ?_;exact hd0|refine yxX (zkG x.ns b1) ?_|refine RK.of (zam (zaN d 20) Rc.o (k:=7) hoff7 rfl rfl hlt (by decide) hv7) ?_|refine RK.of (zam (zaN d 20) Rc.o (k:=8) hoff8 rfl rfl hlt (by decide) hv8) ?_|refine RK.of (zam (zaN d 20) Rc.o (k:=9) hoff9 rfl rfl hlt (by decide) hv9) ?_|refine yTZ [] [] (.so 220 0 x.ss.length 0) [.row (x.ss.flatMap aSm) 80 2] (zi4 x.ss b2 (yXX.2 hs)) rfl trivial ⟨rfl,ydX rfl,zT⟩ ⟨(by unfold Rn;rfl),rfl,⟨rfl,rfl, .inr ⟨rfl,zay (λ_=>rfl) _⟩⟩,zT⟩ ?_|refine yxX (zkH) ?_|refine zaV (zaN d 20) Rc.o (k:=7) [LS 3 aNm Nm.o x.ns] ([bb x.u,ib x.q,ib x.k,ib x.b.r,ib x.b.q,ib x.ln,ib x.ds,LS 3 aNm Nm.o x.ns,LS 2 aSm Sm.o x.ss,LS 4 aEn En.o x.es]) hoff7 rfl rfl rfl rfl rfl rfl hlt (by decide) hst ?_|refine zgk (zaN d 20) Rc.o (k:=8) [.so 220 0 x.ss.length 0] ([bb x.u,ib x.q,ib x.k,ib x.b.r,ib x.b.q,ib x.ln,ib x.ds,LS 3 aNm Nm.o x.ns,LS 2 aSm Sm.o x.ss,LS 4 aEn En.o x.es]) ([bb x.u,ib x.q,ib x.k,ib x.b.r,ib x.b.q,ib x.ln,ib x.ds,LS 3 aNm Nm.o x.ns, .so 220 0 x.ss.length 0,LS 4 aEn En.o x.es]) rfl hoff8 rfl rfl rfl rfl rfl rfl hlt (by decide) rfl ?_|refine zgk (zaN d 20) Rc.o (k:=9) [LS 4 aEn En.o []] ([bb x.u,ib x.q,ib x.k,ib x.b.r,ib x.b.q,ib x.ln,ib x.ds,LS 3 aNm Nm.o x.ns, .so 220 0 x.ss.length 0,LS 4 aEn En.o x.es]) ([bb x.u,ib x.q,ib x.k,ib x.b.r,ib x.b.q,ib x.ln,ib x.ds,LS 3 aNm Nm.o x.ns, .so 220 0 x.ss.length 0,LS 4 aEn En.o []]) rfl hoff9 rfl rfl rfl rfl rfl rfl hlt (by decide) rfl ?_|refine RK.of (zam (zcW (zaN d 20) (show([bb x.u,ib x.q,ib x.k,ib x.b.r,ib x.b.q,ib x.ln,ib x.ds,LS 3 aNm Nm.o x.ns, .so 220 0 x.ss.length 0,LS 4 aEn En.o []]).length=10 from rfl)) Rc.o (k:=8) hoff8 rfl rfl hlt (by decide) hu8) ?_|refine Ex.g ?_);conv=>whnf
     have hpv:∀p∈[(2*d,220)],∀k,k≠d->2*k≠p.1/\2*k+1≠p.1:=λp hp k hk=>by
      rcases yiX.1 hp with rfl
      dsimp only;omega
     refine Ex.wl x.ss.length (λk=>zag [(1, .ptr 0 0),(2, .ptr 2 0),(4, .ptr 1 (0+((d:Nat):Int).toNat*10)),(20,ib v.rs.length),(21,ib d),(56,ib x.ss.length),(57,ib k)] 79) (λ_=>zaw 20 220 (gC v (d+1)) [.row [ib v.c,LS 2 zaP Run.o v.al, .so 1 0 v.rs.length 0,LS 1 aI 0 v.ds,tb v.mp] 26 0, .row (flatI (rcC (d+1) 20) 0 v.rs) 66 10, .row [ib 0, .sc (.slice none 0 0), .sc (.slice none 0 0), .sc (.slice none 0 0),tb []] 26 0]) ?_ ?_
     ·refine yCX [0,1,2] [] [(2*d,220)] rfl rfl rfl rfl ?_ ?_ ?_ ?_
      ·refine⟨⟨rfl,rfl,yzX (zqv ⟨rfl,rfl⟩)⟩,⟨rfl,rfl,yzX (znv h96 (hpv) ?_)⟩,⟨rfl,rfl, .same rfl rfl⟩,zT⟩;rw[hxd];unfold rcP;rw[ze9 hs,zbM he]
       repeat refine WL.sc rfl ?_
       exact ywX (zkO zo) (ywX (zdh rfl) yMX)
      ·refine famC (λj hj hp=> ?_);rw[hgx j hj];have:j≠2*d:=hp (2*d,220) (by simp);rw[yfX zo,ygX he]
      ·intro p hp o1 ho
       ·rcases yiX.1 hp with rfl
        have ho:gC v (d+1) (2*d)=some o1:=ho;unfold gC at ho;rw[ygX zo,hgx _ zo,ygX zo,yfX hs] at ho;cases ho;exact⟨_,rfl,rfl,rfl, .same rfl (zhb _)⟩
      ·(repeat' first|exact zT|exact rfl|refine zA ?_ ?_)
     ·intro k hk;have e1:seS false 20 d x= .so (fam 20 (2*d)) 0 x.ss.length 0:=ze9 hs;rw[e1] at hw8;have h9:2*d<220-20:=zo
      have hge:gC v (d+1) (2*d)=some (.row (x.ss.flatMap aSm) 80 2):=by
       unfold gC;rw[ygX zo,hgx _ zo,ygX zo,yfX hs]
      refine Ex.go ?_;refine yPX (λhkl=> ?_) (λhkl=> ?_)
      ·have hkx:k<x.ss.length:=zo
       have hk0:(0:Int)<=(k:Nat)/\((k:Nat):Int)<(x.ss.length:Nat):=⟨zo,zo⟩
       have hoffk:0+((k:Nat):Int).toNat*2+0=k*2+0:=by simp
       obtain⟨y,hy⟩:∃y,at_ Sm.o x.ss k=y:=⟨_,rfl⟩
       have hyr:y.r.length<=100000:=by rw[←hy];exact b4 _ (at_mem Sm.o x.ss k hkx)
       have hv0:(aSm (at_ Sm.o x.ss k))[0]? =some (LS 2 zaP Run.o y.r):=by rw[hy];rfl
       have hset:x.ss.set k y=x.ss:=by rw[←hy,zaS _ _ _ hkx,List.set_getElem_self]
       (conv=>whnf);repeat(first|refine Need.mk ?_ ?_;exact hk0|refine RK.of (zam (zaN (d+1) 20) Rc.o (k:=8) hoff8 rfl rfl hlt (by decide) hw8) ?_|refine RK.of (ziI (enc:=aSm) (sz:=2) (λ_=>rfl) Sm.o hoffk rfl ((zah h9).trans hge) hkx (by decide) hv0) ?_|refine yxX (zfO y.r hyr) ?_|refine ze4 (enc:=aSm) (sz:=2) (λ_=>rfl) Sm.o (k:=0) y hoffk rfl rfl rfl (λy hy=>by rcases yiX.1 hy with rfl;rfl) ((zah h9).trans hge) hkx (by decide) (by rw[hy];rfl) ?_;(conv=>whnf);rw[zbT (j:=2*d) h9]|refine Ex.g ?_);conv=>whnf
       refine⟨k+1,zo,by dsimp only;omega,?_⟩;rw[hset,←hge];refine yCX [0,1,2] [] [] rfl rfl rfl rfl ?_ ?_ ?_ ?_
       ·exact⟨⟨rfl,rfl,yzX (zqv ⟨rfl,rfl⟩)⟩,⟨rfl,rfl,yzX (zis h96)⟩,⟨rfl,rfl, .same rfl rfl⟩,zT⟩
       ·intro j o1 ho _;refine⟨?_,zd6 _ _ j o1 ho⟩;by_cases hj:j=2*d
        ·rw[zcF,ygX hj,←hj];exact ho
        ·rw[zbm hj];exact ho
       ·exact zN
       ·(repeat' first|exact zT|exact rfl|refine zA ?_ ?_)
      ·(conv=>whnf);repeat(((refine Ex.g ?_;conv=>whnf)))
       refine⟨d+1,zo,by dsimp only;omega,?_⟩;refine yCX [0,1,2] [] [] rfl rfl rfl rfl ?_ ?_ ?_ ?_
       ·exact⟨⟨rfl,rfl,yzX (zqv ⟨rfl,rfl⟩)⟩,⟨rfl,rfl,yzX (zis h96)⟩,⟨rfl,rfl, .same rfl rfl⟩,zT⟩
       ·exact(λj o1 h _=>⟨h,zd6 _ _ j o1 h⟩)
       ·exact zN
       ·(repeat' first|exact zT|exact rfl|refine zA ?_ ?_)
    ·have hst:(rcC d 20 d (at_ Rc.o v.rs d)).take 7++([LS 3 aNm Nm.o x.ns]++(rcC d 20 d (at_ Rc.o v.rs d)).drop (7+1))=[bb x.u,ib x.q,ib x.k,ib x.b.r,ib x.b.q,ib x.ln,ib x.ds,LS 3 aNm Nm.o x.ns,LS 2 aSm Sm.o x.ss,LS 4 aEn En.o x.es]:=by rw[zhp,hxd];rfl
     have hu8:(zfS (rcC d 20) d ([bb x.u,ib x.q,ib x.k,ib x.b.r,ib x.b.q,ib x.ln,ib x.ds,LS 3 aNm Nm.o x.ns, .so 220 0 x.ss.length 0, .so 221 0 x.es.length 0]) d (at_ Rc.o v.rs d))[8]? =some (.so 220 0 x.ss.length 0):=by rw[zbR];rfl
     (conv=>whnf);repeat(first|refine Need.mk ?_ ?_;exact hd0|refine yxX (zkG x.ns b1) ?_|refine RK.of (zam (zaN d 20) Rc.o (k:=7) hoff7 rfl rfl hlt (by decide) hv7) ?_|refine RK.of (zam (zaN d 20) Rc.o (k:=8) hoff8 rfl rfl hlt (by decide) hv8) ?_|refine RK.of (zam (zaN d 20) Rc.o (k:=9) hoff9 rfl rfl hlt (by decide) hv9) ?_|refine yTZ [] [] (.so 220 0 x.ss.length 0) [.row (x.ss.flatMap aSm) 80 2] (zi4 x.ss b2 (yXX.2 hs)) rfl trivial ⟨rfl,ydX rfl,zT⟩ ⟨(by unfold Rn;rfl),rfl,⟨rfl,rfl, .inr ⟨rfl,zay (λ_=>rfl) _⟩⟩,zT⟩ ?_|refine yTZ [] [] (.so 221 0 x.es.length 0) [.row (x.es.flatMap aEn) 73 4] (zgi x.es b3 (yXX.2 he)) rfl trivial ⟨rfl,ydX rfl,zT⟩ ⟨(by unfold Rn;rfl),rfl,⟨rfl,rfl, .inr ⟨rfl,zay (λ_=>rfl) _⟩⟩,zT⟩ ?_|refine zaV (zaN d 20) Rc.o (k:=7) [LS 3 aNm Nm.o x.ns] ([bb x.u,ib x.q,ib x.k,ib x.b.r,ib x.b.q,ib x.ln,ib x.ds,LS 3 aNm Nm.o x.ns,LS 2 aSm Sm.o x.ss,LS 4 aEn En.o x.es]) hoff7 rfl rfl rfl rfl rfl rfl hlt (by decide) hst ?_|refine zgk (zaN d 20) Rc.o (k:=8) [.so 220 0 x.ss.length 0] ([bb x.u,ib x.q,ib x.k,ib x.b.r,ib x.b.q,ib x.ln,ib x.ds,LS 3 aNm Nm.o x.ns,LS 2 aSm Sm.o x.ss,LS 4 aEn En.o x.es]) ([bb x.u,ib x.q,ib x.k,ib x.b.r,ib x.b.q,ib x.ln,ib x.ds,LS 3 aNm Nm.o x.ns, .so 220 0 x.ss.length 0,LS 4 aEn En.o x.es]) rfl hoff8 rfl rfl rfl rfl rfl rfl hlt (by decide) rfl ?_|refine zgk (zaN d 20) Rc.o (k:=9) [.so 221 0 x.es.length 0] ([bb x.u,ib x.q,ib x.k,ib x.b.r,ib x.b.q,ib x.ln,ib x.ds,LS 3 aNm Nm.o x.ns, .so 220 0 x.ss.length 0,LS 4 aEn En.o x.es]) ([bb x.u,ib x.q,ib x.k,ib x.b.r,ib x.b.q,ib x.ln,ib x.ds,LS 3 aNm Nm.o x.ns, .so 220 0 x.ss.length 0, .so 221 0 x.es.length 0]) rfl hoff9 rfl rfl rfl rfl rfl rfl hlt (by decide) rfl ?_|refine RK.of (zam (zcW (zaN d 20) (show([bb x.u,ib x.q,ib x.k,ib x.b.r,ib x.b.q,ib x.ln,ib x.ds,LS 3 aNm Nm.o x.ns, .so 220 0 x.ss.length 0, .so 221 0 x.es.length 0]).length=10 from rfl)) Rc.o (k:=8) hoff8 rfl rfl hlt (by decide) hu8) ?_|refine Ex.g ?_);conv=>whnf
     have hpv:∀p∈[(2*d,220),(2*d+1,221)],∀k,k≠d->2*k≠p.1/\2*k+1≠p.1:=λp hp k hk=>by
      simp only[yAX,List.not_mem_nil,or_false] at hp
      rcases hp with rfl|rfl<;>(dsimp only;omega)
     refine Ex.wl x.ss.length (λk=>zag [(1, .ptr 0 0),(2, .ptr 2 0),(4, .ptr 1 (0+((d:Nat):Int).toNat*10)),(20,ib v.rs.length),(21,ib d),(56,ib x.ss.length),(57,ib k)] 79) (λ_=>zaw 20 220 (gC v (d+1)) [.row [ib v.c,LS 2 zaP Run.o v.al, .so 1 0 v.rs.length 0,LS 1 aI 0 v.ds,tb v.mp] 26 0, .row (flatI (rcC (d+1) 20) 0 v.rs) 66 10, .row [ib 0, .sc (.slice none 0 0), .sc (.slice none 0 0), .sc (.slice none 0 0),tb []] 26 0]) ?_ ?_
     ·refine yCX [0,1,2] [] [(2*d,220),(2*d+1,221)] rfl rfl rfl rfl ?_ ?_ ?_ ?_
      ·refine⟨⟨rfl,rfl,yzX (zqv ⟨rfl,rfl⟩)⟩,⟨rfl,rfl,yzX (znv h96 (hpv) ?_)⟩,⟨rfl,rfl, .same rfl rfl⟩,zT⟩;rw[hxd];unfold rcP;rw[ze9 hs,zbB he]
       repeat refine WL.sc rfl ?_
       exact ywX (zkO zo) (ywX (zpU zo zo) yMX)
      ·refine famC (λj hj hp=> ?_);rw[hgx j hj];have:j≠2*d:=hp (2*d,220) (by simp);have:j≠2*d+1:=hp (2*d+1,221) (by simp);omega
      ·intro p hp o1 ho
       rcases yAX.1 hp with rfl|hp
       ·have ho:gC v (d+1) (2*d)=some o1:=ho;unfold gC at ho;rw[ygX zo,hgx _ zo,ygX zo,yfX hs] at ho;cases ho;exact⟨_,rfl,rfl,rfl, .same rfl (zhb _)⟩
       ·rcases yiX.1 hp with rfl
        have ho:gC v (d+1) (2*d+1)=some o1:=ho;unfold gC at ho;rw[ygX zo,hgx _ zo,yfX zo,yfX he] at ho;cases ho;exact⟨_,rfl,rfl,rfl, .same rfl (zbp _)⟩
      ·(repeat' first|exact zT|exact rfl|refine zA ?_ ?_)
     ·intro k hk;have e1:seS false 20 d x= .so (fam 20 (2*d)) 0 x.ss.length 0:=ze9 hs;rw[e1] at hw8;have h9:2*d<220-20:=zo
      have hge:gC v (d+1) (2*d)=some (.row (x.ss.flatMap aSm) 80 2):=by
       unfold gC;rw[ygX zo,hgx _ zo,ygX zo,yfX hs]
      refine Ex.go ?_;refine yPX (λhkl=> ?_) (λhkl=> ?_)
      ·have hkx:k<x.ss.length:=zo
       have hk0:(0:Int)<=(k:Nat)/\((k:Nat):Int)<(x.ss.length:Nat):=⟨zo,zo⟩
       have hoffk:0+((k:Nat):Int).toNat*2+0=k*2+0:=by simp
       obtain⟨y,hy⟩:∃y,at_ Sm.o x.ss k=y:=⟨_,rfl⟩
       have hyr:y.r.length<=100000:=by rw[←hy];exact b4 _ (at_mem Sm.o x.ss k hkx)
       have hv0:(aSm (at_ Sm.o x.ss k))[0]? =some (LS 2 zaP Run.o y.r):=by rw[hy];rfl
       have hset:x.ss.set k y=x.ss:=by rw[←hy,zaS _ _ _ hkx,List.set_getElem_self]
       (conv=>whnf);repeat(first|refine Need.mk ?_ ?_;exact hk0|refine RK.of (zam (zaN (d+1) 20) Rc.o (k:=8) hoff8 rfl rfl hlt (by decide) hw8) ?_|refine RK.of (ziI (enc:=aSm) (sz:=2) (λ_=>rfl) Sm.o hoffk rfl ((zah h9).trans hge) hkx (by decide) hv0) ?_|refine yxX (zfO y.r hyr) ?_|refine ze4 (enc:=aSm) (sz:=2) (λ_=>rfl) Sm.o (k:=0) y hoffk rfl rfl rfl (λy hy=>by rcases yiX.1 hy with rfl;rfl) ((zah h9).trans hge) hkx (by decide) (by rw[hy];rfl) ?_;(conv=>whnf);rw[zbT (j:=2*d) h9]|refine Ex.g ?_);conv=>whnf
       refine⟨k+1,zo,by dsimp only;omega,?_⟩;rw[hset,←hge];refine yCX [0,1,2] [] [] rfl rfl rfl rfl ?_ ?_ ?_ ?_
       ·exact⟨⟨rfl,rfl,yzX (zqv ⟨rfl,rfl⟩)⟩,⟨rfl,rfl,yzX (zis h96)⟩,⟨rfl,rfl, .same rfl rfl⟩,zT⟩
       ·intro j o1 ho _;refine⟨?_,zd6 _ _ j o1 ho⟩;by_cases hj:j=2*d
        ·rw[zcF,ygX hj,←hj];exact ho
        ·rw[zbm hj];exact ho
       ·exact zN
       ·(repeat' first|exact zT|exact rfl|refine zA ?_ ?_)
      ·(conv=>whnf);repeat(((refine Ex.g ?_;conv=>whnf)))
       refine⟨d+1,zo,by dsimp only;omega,?_⟩;refine yCX [0,1,2] [] [] rfl rfl rfl rfl ?_ ?_ ?_ ?_
       ·exact⟨⟨rfl,rfl,yzX (zqv ⟨rfl,rfl⟩)⟩,⟨rfl,rfl,yzX (zis h96)⟩,⟨rfl,rfl, .same rfl rfl⟩,zT⟩
       ·exact(λj o1 h _=>⟨h,zd6 _ _ j o1 h⟩)
       ·exact zN
       ·(repeat' first|exact zT|exact rfl|refine zA ?_ ?_)
  ·conv=>whnf
   obtain rfl:d=v.rs.length:=zo;rw[zvh,zul];refine⟨?_⟩;refine yCX [1] [] [] rfl rfl rfl rfl ?_ ?_ ?_ ?_
   ·exact⟨rQ h96,zT⟩
   ·exact λj o1 h _=>⟨h,yQX _ _ j o1 h⟩
   ·exact zN
   ·(repeat' first|exact zT|exact rfl|(intro _ _;exact rfl)|refine zA ?_ ?_)
set_option maxHeartbeats 8000000
theorem zwV (n M:Nat) (p:Ck.Rp) (hf:Rb n M (p,Ck.taken p.v)) (hM:M=p.v.c.toNat) (hn:n<=96) (hc:0<=p.v.c/\p.v.c<=100000) (hal:zwm p.v) (hall:p.v.al.length<=100000) (hb:p.fd.length<=100000):HG Tryz.prog 2 20 220 105 [.ptr 0 0] (gP false p) [.row (zaC 20 1 p) 106 0, .row (flatI (rcP false 20) 0 p.v.rs) 66 10] (.tup [])
  (gP false (badRuns p)) [.row (zaC 20 1 (badRuns p)) 106 0, .row (flatI (rcP false 20) 0 (badRuns p).v.rs) 66 10]:=by
 have hpn:p.v.rs.length=n:=hf.rf.n;have h96:p.v.rs.length<=96:=zo;have htk:=zuN false p h96 hc hal hall;rw[←hM] at htk
 obtain⟨B,hB⟩:∃B,B=1000:=⟨_,rfl⟩
 subst hpn;refine HG.of zal zo ?_
 (conv=>whnf);repeat((refine KCall.lK [0,1] (.sl 220 0 M M) [.row (zaC 20 1 p) 106 0, .row (flatI (rcP false 20) 0 p.v.rs) 66 10, .row ((Ck.taken p.v).map bb) 4 0] (htk) (⟨pF FR.L ⟨rfl,rfl⟩,rF FR.L h96,zT⟩) (⟨⟨rfl,rfl, .inl (zvm FN.L rfl)⟩,⟨rfl,rfl, .inl (zcm FN.L h96)⟩,⟨rfl,rfl, .inr ⟨rfl,y4X (enc:=bb) (λ_=>rfl) _⟩⟩,zT⟩) ?_ (hargs:=by((repeat' first|exact zT|exact rfl|refine zA ?_ ?_))) (h1:=(by unfold Rn;rfl));conv=>whnf))
 obtain⟨s0,hs0⟩:∃s0:Ck.Rp×List Bool,s0=(p,Ck.taken p.v):=⟨_,rfl⟩
 have hs1:p=s0.1:=by rw[hs0]
 have hs2:Ck.taken p.v=s0.2:=by rw[hs0]
 rw[←hs0] at hf
 have hend:badRuns p=(it zac s0 p.v.rs.length).1:=by rw[hs0];rfl
 refine Ex.wl p.v.rs.length (λd=>zag [(0, .ptr 0 0),(2, .sl 2 0 M M),(18, .so 1 0 p.v.rs.length 0),(19,ib p.v.rs.length),(20,ib d)] 80) (λd=>zaw 20 220 (gP false (it zac s0 d).1) [.row (zaC 20 1 (it zac s0 d).1) 106 0, .row (flatI (rcP false 20) 0 (it zac s0 d).1.v.rs) 66 10, .row ((it zac s0 d).2.map bb) 4 0]) ?_ ?_
 ·subst hs0
  (exact Ex.wG [0,1,220] [] [] (⟨pQ rfl rfl,rQ h96,⟨rfl,rfl, .same rfl (y4X (enc:=bb) (λ_=>rfl) _)⟩,zT⟩))
 ·intro d hd;obtain⟨h1,h2⟩:=zgO hB hf d hd;have hst:it zac s0 (d+1)=zac (it zac s0 d) d:=rfl
  have hfin:d=p.v.rs.length->(it zac s0 d).1=badRuns p:=λe=>by rw[hend,e]
  have hmul:d*B<=96*B:=yEX _ zo
  have hb0:s0.1.fd.length<=100000:=by rw[←hs1];exact hb
  generalize it zac s0 d=q0 at*
  have hqn:q0.1.v.rs.length=p.v.rs.length:=h1.rf.n;have hq96:q0.1.v.rs.length<=96:=zo
  have stay:∀{t:Tm} {s:St} {q':Ck.Rp×List Bool},zac q0 d=q'->Weak 2 t s (zag [(0, .ptr 0 0),(2, .sl 2 0 M M),(18, .so 1 0 p.v.rs.length 0),(19,ib p.v.rs.length),(20,ib (d+1:Nat))] 80) (zaw 20 220 (gP false q'.1) [.row (zaC 20 1 q'.1) 106 0, .row (flatI (rcP false 20) 0 q'.1.v.rs) 66 10, .row (q'.2.map bb) 4 0])->
    Weak 2 t s (zag [(0, .ptr 0 0),(2, .sl 2 0 M M),(18, .so 1 0 p.v.rs.length 0),(19,ib p.v.rs.length),(20,ib (d+1:Nat))] 80) (zaw 20 220 (gP false (it zac s0 (d+1)).1) [.row (zaC 20 1 (it zac s0 (d+1)).1) 106 0, .row (flatI (rcP false 20) 0 (it zac s0 (d+1)).1.v.rs) 66 10, .row ((it zac s0 (d+1)).2.map bb) 4 0]):=λhe hw=>by rw[hst,he];exact hw
  refine Ex.go ?_;refine yPX (λh=> ?_) (λh=> ?_)
  ·have hltp:d<p.v.rs.length:=zo;have hltq:d<q0.1.v.rs.length:=zo
   have hoff:0+((d:Nat):Int).toNat*10=d*10:=by simp
   have hls:zac q0 d=if(at_ Rc.o q0.1.v.rs d).u then it (zaq d) q0 (at_ Rc.o q0.1.v.rs d).ss.length else q0:=by unfold zac;simp only[zae]
   have hin:=zlB h1 hltp;have hL:(at_ Rc.o q0.1.v.rs d).ss.length<=1000:=(h1.at hltp).1
   obtain⟨x0,hx0⟩:∃x,at_ Rc.o q0.1.v.rs d=x:=⟨_,rfl⟩
   rw[hx0] at hls hin hL
   obtain⟨u,hu⟩:∃u,x0.u=u:=⟨_,rfl⟩
   rw[hu] at hls
   (conv=>whnf);repeat(first|refine RK.of (zch (zab false 20) Rc.o hoff rfl rfl hltq rfl) ?_|rw[hx0]|refine zct rfl rfl rfl rfl ?_|rw[hu]|refine Ex.g ?_);conv=>whnf
   cases u
   ·(conv=>whnf);repeat(((refine Ex.g ?_;conv=>whnf)))
    refine⟨d+1,zo,by dsimp only;omega,stay (q':=q0) (by rw[hls];rfl) ?_⟩;exact Ex.wG [0,1,2] [] [] ⟨pQ rfl rfl,rQ hq96,bR,zT⟩
   ·have hls2:zac q0 d=it (zaq d) q0 x0.ss.length:=by rw[hls];rfl
    have hd96:d<96:=zo
    by_cases he0:x0.ss=[]
    ·have e1:seS false 20 d x0=LS 2 aSm Sm.o []:=by rw[zir (.inr he0),he0]
     have hls3:zac q0 d=q0:=by rw[hls2,he0];rfl
     (conv=>whnf);repeat(first|rw[e1]|refine Ex.g ?_);conv=>whnf
     refine yFX zal (D:=Unit) (λ_=>0) (λ_=>True) (λ_=>zag [(0, .ptr 0 0),(2, .sl 2 0 M M),(18, .so 1 0 p.v.rs.length 0),(19,ib p.v.rs.length),(20,ib d),(30,ib (0:Nat)),(31,ib (0:Nat))] 80)
      (λ_=>zaw 20 220 (gP false q0.1) [.row (zaC 20 1 q0.1) 106 0, .row (flatI (rcP false 20) 0 q0.1.v.rs) 66 10, .row (q0.2.map bb) 4 0]) () trivial ?_ ?_
     ·exact Ex.wG [0,1,2] [] [] ⟨pQ rfl rfl,rQ hq96,bR,zT⟩
     ·intro _ _
      (conv=>whnf);repeat(((refine Ex.g ?_;conv=>whnf)))
      refine⟨d+1,zo,by dsimp only;omega,stay hls3 ?_⟩;exact Ex.wG [0,1,2] [] [] ⟨pQ rfl rfl,rQ hq96,bR,zT⟩
    ·have e1:seS false 20 d x0= .so (fam 20 (2*d)) 0 x0.ss.length 0:=ze9 he0
     (conv=>whnf);repeat(first|rw[e1]|refine Ex.g ?_);conv=>whnf
     refine Ex.wl x0.ss.length (λk=>zag [(0, .ptr 0 0),(2, .sl 2 0 M M),(3,ib d),(4, .ptr 3 0),(18, .so 1 0 p.v.rs.length 0),(19,ib p.v.rs.length),(20,ib d),(30,ib x0.ss.length),(31,ib k)] 80) (λk=>zaw 20 220 (gP false (it (zaq d) q0 k).1) [.row (zaC 20 1 (it (zaq d) q0 k).1) 106 0, .row (flatI (rcP false 20) 0 (it (zaq d) q0 k).1.v.rs) 66 10, .row ((it (zaq d) q0 k).2.map bb) 4 0, .row (rcP false 20 d x0) 66 0]) ?_ ?_
     ·exact Ex.wG [0,1,2,220] [] [] ⟨pQ rfl rfl,rQ hq96,bR,⟨rfl,rfl,yzX (zcv hd96 zN)⟩,zT⟩
     ·intro k hk;obtain⟨h3,h4,h5⟩:=hin k;have hst2:it (zaq d) q0 (k+1)=zaq d (it (zaq d) q0 k) k:=rfl
      have hfin2:k=x0.ss.length->it (zaq d) q0 k=zac q0 d:=λe=>by rw[hls2,e]
      generalize it (zaq d) q0 k=q at*
      have hqqn:q.1.v.rs.length=p.v.rs.length:=h3.rf.n;have hqq96:q.1.v.rs.length<=96:=zo;have hqd:d<q.1.v.rs.length:=zo;have hne:(at_ Rc.o q.1.v.rs d).ss≠[]:=λe=>he0 (yeX (by rw[←h5,e];rfl));have hge:gP false q.1 (2*d)=some (.row ((at_ Rc.o q.1.v.rs d).ss.flatMap aSm) 80 2):=zoZ hqd hd96 hne;have h9:2*d<200:=zo;refine Ex.go ?_;refine yPX (λhkl=> ?_) (λhkl=> ?_)
      ·have hkx:k<(at_ Rc.o q.1.v.rs d).ss.length:=by rw[h5];omega
       have hk0:(0:Int)<=(k:Nat)/\((k:Nat):Int)<(x0.ss.length:Nat):=⟨zo,zo⟩
       have hoffk:0+((k:Nat):Int).toNat*2+0=k*2+0:=by simp
       obtain⟨y,hy⟩:∃y,at_ Sm.o (at_ Rc.o q.1.v.rs d).ss k=y:=⟨_,rfl⟩
       have hsm:=h3.sm hltp k;rw[hy] at hsm
       have hv0:(aSm (at_ Sm.o (at_ Rc.o q.1.v.rs d).ss k))[0]? =some (LS 2 zaP Run.o y.r):=by rw[hy];rfl
       have hcut:=zyB false q.1 y.r q.2 M hsm.1 hsm.2.2.2 h3.tl zo
       obtain⟨t',hc1⟩:∃t',(Ck.cut y.r q.2).1=t':=⟨_,rfl⟩
       obtain⟨o,hc2⟩:∃o,(Ck.cut y.r q.2).2=o:=⟨_,rfl⟩
       have hc3:Ck.cut y.r q.2=(t',o):=by rw[←hc1,←hc2]
       rw[hc1,hc2] at hcut
       (conv=>whnf);repeat(first|refine Need.mk ?_ ?_;exact hk0|rw[e1]|refine RK.of (ziI (enc:=aSm) (sz:=2) (λ_=>rfl) Sm.o hoffk rfl ((zah (show 2*d<220-20 from h9)).trans hge) hkx (by decide) hv0) ?_|refine KCall.lK [2] (.tup [LS 2 zaP Run.o (zy2 y.r o),bb o.isSome]) [.row (t'.map bb) 4 0] (hcut) (⟨bR,zT⟩) (⟨⟨rfl,rfl, .inr ⟨rfl,y4X (enc:=bb) (λ_=>rfl) _⟩⟩,zT⟩) ?_ (hargs:=by((repeat' first|exact zT|exact rfl|(intro _ _;exact rfl)|refine zA ?_ ?_))) (h1:=(by unfold Rn Rnl;exact⟨Rn.lst,by unfold Rnl;exact⟨Rn.sc,by unfold Rnl;trivial⟩⟩)));conv=>whnf
       have stay2:∀{t:Tm} {s:St} {q':Ck.Rp×List Bool},zaq d q k=q'->Weak 2 t s (zag [(0, .ptr 0 0),(2, .sl 2 0 M M),(3,ib d),(4, .ptr 3 0),(18, .so 1 0 p.v.rs.length 0),(19,ib p.v.rs.length),(20,ib d),(30,ib x0.ss.length),(31,ib (k+1:Nat))] 80) (zaw 20 220 (gP false q'.1) [.row (zaC 20 1 q'.1) 106 0, .row (flatI (rcP false 20) 0 q'.1.v.rs) 66 10, .row (q'.2.map bb) 4 0, .row (rcP false 20 d x0) 66 0])->
        Weak 2 t s (zag [(0, .ptr 0 0),(2, .sl 2 0 M M),(3,ib d),(4, .ptr 3 0),(18, .so 1 0 p.v.rs.length 0),(19,ib p.v.rs.length),(20,ib d),(30,ib x0.ss.length),(31,ib (k+1:Nat))] 80) (zaw 20 220 (gP false (it (zaq d) q0 (k+1)).1) [.row (zaC 20 1 (it (zaq d) q0 (k+1)).1) 106 0, .row (flatI (rcP false 20) 0 (it (zaq d) q0 (k+1)).1.v.rs) 66 10, .row ((it (zaq d) q0 (k+1)).2.map bb) 4 0, .row (rcP false 20 d x0) 66 0]):=λhe hw=>by rw[hst2,he];exact hw
       cases o with
       |none=>
        have hcs:zaq d q k=(q.1,t'):=by
         unfold zaq;simp only[zae];rw[hy,hc3]
        (conv=>whnf);repeat(((refine Ex.g ?_;conv=>whnf)))
        refine⟨k+1,zo,by dsimp only;omega,stay2 (q':=(q.1,t')) hcs ?_⟩;exact Ex.wG [0,1,2,3] [] [] ⟨pQ rfl rfl,rQ hqq96,bR,⟨rfl,rfl,yzX (zcv hd96 zN)⟩,zT⟩
       |some l=>
        have hcs:zaq d q k=((q.1.note 1 d k).setR d {at_ Rc.o q.1.v.rs d with ss:=(at_ Rc.o q.1.v.rs d).ss.set k ⟨l,min y.z (za0 l*256)⟩},t'):=by
         unfold zaq;simp only[zae];rw[hy,hc3]
        have hb9:q.1.fd.length<=1000000:=zo;have hnk:=znJ false q.1 1 d k hqq96 h3.rf.fl hb9
        (conv=>whnf);repeat(first|refine yBZ [0,1] (.tup []) [.row (ziB 1 239 240 (q.1.note 1 d k)) 106 0, .row (flatI (rcP false 20) 0 (q.1).v.rs) 66 10, .row (((q.1.note 1 d k)).fd.flatMap aFd) 86 3, .row (((q.1.note 1 d k)).fl.map ib) 3 1] (hnk) rfl (yQX _ _) zba ?_ ?_ ?_ ?_;exact⟨pF FR.L ⟨rfl,rfl⟩,rF FR.L hqq96,zT⟩;(focus((repeat' first|exact zT|exact rfl|refine zA ?_ ?_)));exact⟨(by unfold Rn Rnl;trivial),rfl,⟨rfl,rfl, .inl (zgr rfl rfl rfl)⟩,⟨rfl,rfl, .inl (zcm FN.L hqq96)⟩,⟨rfl,rfl, .inr ⟨rfl,zbW _⟩⟩,⟨rfl,rfl, .inr ⟨rfl,zbV _⟩⟩,zT⟩|refine Ex.g ?_);conv=>whnf
        have hlo:=(zrJ y.r q.2 hsm.2.2.2).2 l hc2;refine Ex.wl l.length (λj=>zag [(0, .ptr 0 0),(2, .sl 2 0 M M),(3,ib d),(4, .ptr 3 0),(6, .ptr (fam 20 (2*d)) (0+((k:Nat):Int).toNat*2)),(7,LS 2 zaP Run.o l),(9,ib (it (λn i=>n+(at_ Run.o l i).l) (0:Int) j)),(18, .so 1 0 p.v.rs.length 0),(19,ib p.v.rs.length),(20,ib d),(30,ib x0.ss.length),(31,ib k),(53,LS 2 zaP Run.o l),(54,ib l.length),(55,ib j)] 80) (λj=>zaw 20 220 (zih (gP false q.1)) [.row (ziB 1 4 5 (q.1.note 1 d k)) 106 0, .row (flatI (rcP false 20) 0 q.1.v.rs) 66 10, .row (t'.map bb) 4 0, .row (rcP false 20 d x0) 66 0, .row ((q.1.note 1 d k).fd.flatMap aFd) 86 3, .row ((q.1.note 1 d k).fl.map ib) 3 1]) ?_ ?_
        ·refine yCX [0,1,2,3,239,240] [] [] rfl rfl rfl rfl ?_ ?_ ?_ ?_
         ·exact⟨⟨rfl,rfl,yzX (zue ⟨rfl,rfl⟩ ⟨rfl,rfl⟩ ⟨rfl,rfl⟩)⟩,rQ hqq96,bR,⟨rfl,rfl,yzX (zcv hd96 zN)⟩,⟨rfl,rfl, .same rfl (zbW _)⟩,⟨rfl,rfl, .same rfl (zbV _)⟩,zT⟩
         ·exact(λj o1 h _=>⟨h,zba j o1 h⟩)
         ·exact zN
         ·(repeat' first|exact zT|exact zw5 h9 zN|exact rfl|(intro _ _;exact rfl)|refine zA ?_ ?_)
        ·intro j hj;obtain⟨hc5,hc6⟩:=zdA l hlo.2 j hj;have hll:l.length<=100000:=yBX hlo.1 hsm.1;refine Ex.go ?_;refine yPX (λhjl=> ?_) (λhjl=> ?_)
         ·have hj0:(0:Int)<=(j:Nat)/\((j:Nat):Int)<(l.length:Nat):=⟨zo,zo⟩
          obtain⟨hc7,hc8⟩:=zdA l hlo.2 (j+1) zo
          have hsm2:Small (it (λn i=>n+(at_ Run.o l i).l) (0:Int) j+(at_ Run.o l j).l):=by
           have e:it (λn i=>n+(at_ Run.o l i).l) (0:Int) (j+1)=it (λn i=>n+(at_ Run.o l i).l) (0:Int) j+(at_ Run.o l j).l:=rfl;rw[e] at hc7 hc8;exact⟨zo,zo⟩
          (conv=>whnf);repeat(first|refine Need.mk ?_ ?_;(focus(first|exact hj0|exact hsm2))|refine Ex.g ?_);conv=>whnf
          refine⟨j+1,zo,by dsimp only;omega,?_⟩;refine yCX [0,1,2,3,4,5] [] [] rfl rfl rfl rfl ?_ ?_ ?_ ?_
          ·exact⟨⟨rfl,rfl,yzX (zue ⟨rfl,rfl⟩ ⟨rfl,rfl⟩ ⟨rfl,rfl⟩)⟩,rQ hqq96,bR,⟨rfl,rfl,yzX (zcv hd96 zN)⟩,⟨rfl,rfl, .same rfl (zbW _)⟩,⟨rfl,rfl, .same rfl (zbV _)⟩,zT⟩
          ·exact(λj o1 h _=>⟨h,zba j o1 h⟩)
          ·exact zN
          ·(repeat' first|exact zT|exact zw5 h9 zN|exact rfl|(intro _ _;exact rfl)|refine zA ?_ ?_)
         ·have hjl2:j=l.length:=zo
          have hcl:za0 l=it (λn i=>n+(at_ Run.o l i).l) (0:Int) j:=by rw[hjl2];rfl
          have hmul2:Small (it (λn i=>n+(at_ Run.o l i).l) (0:Int) j*256):=⟨zo,zo⟩
          have hgh:zih (gP false q.1) (2*d)=some (.row ((at_ Rc.o q.1.v.rs d).ss.flatMap aSm) 80 2):=(zev zo zo).trans hge
          have hv1:(aSm (at_ Sm.o (at_ Rc.o q.1.v.rs d).ss k))[1]? =some (ib y.z):=by rw[hy];rfl
          have hoff1:0+((k:Nat):Int).toNat*2+1=k*2+1:=by simp
          have hkx2:k<((at_ Rc.o q.1.v.rs d).ss.set k {y with r:=l}).length:=by rw[yoX];exact hkx
          have hat2:at_ Sm.o ((at_ Rc.o q.1.v.rs d).ss.set k {y with r:=l}) k={y with r:=l}:=zaj _ _ _ _ hkx;have h10:2*d<220-20:=h9
          (conv=>whnf);repeat(first|refine Need.mk ?_ ?_;exact hmul2|refine RK.of (ziI (enc:=aSm) (sz:=2) (λ_=>rfl) Sm.o hoff1 rfl ((zah h10).trans hgh) hkx (by decide) hv1) ?_|refine ze4 (enc:=aSm) (sz:=2) (λ_=>rfl) Sm.o (k:=0) {y with r:=l} hoffk rfl rfl rfl (λy hy=>by rcases yiX.1 hy with rfl;rfl) ((zah h10).trans hgh) hkx (by decide) (by rw[hy];rfl) ?_;(conv=>whnf);rw[zbT (j:=2*d) h10]|refine ze4 (enc:=aSm) (sz:=2) (λ_=>rfl) Sm.o (k:=1) (l:=(at_ Rc.o q.1.v.rs d).ss.set k {y with r:=l}) ⟨l,zfu y.z (it (λn i=>n+(at_ Run.o l i).l) (0:Int) j*256)⟩ hoff1 rfl rfl rfl (λy hy=>by rcases yiX.1 hy with rfl;rfl) ((zah h10).trans (by rw[zcF,ygX rfl])) hkx2 (by decide) (by rw[hat2];rfl) ?_;(conv=>whnf);rw[zbT (j:=2*d) h10]|refine Ex.g ?_);conv=>whnf
          have hp2:∀p∈[(192,4),(193,5)],2*d≠p.1/\2*d+1≠p.1:=by simp;omega
          have hp1:∀p∈[(192,4),(193,5)],2*d≠p.1:=λp hp=>(hp2 p hp).1
          have hp3:∀p∈[(192,4),(193,5)],191<p.1:=by simp
          have hmin:zfu y.z (it (λn i=>n+(at_ Run.o l i).l) (0:Int) j*256)=min y.z (za0 l*256):=by rw[zqR,hcl]
          rw[hmin,List.set_set]
          obtain⟨ss',hss⟩:∃ss',(at_ Rc.o q.1.v.rs d).ss.set k ⟨l,min y.z (za0 l*256)⟩=ss':=⟨_,rfl⟩
          have hssl:ss'.length=(at_ Rc.o q.1.v.rs d).ss.length:=by rw[←hss];exact yoX
          have hssn:ss'≠[]:=λe=>by rw[e] at hssl;exact hne (yeX hssl.symm)
          rw[hss] at hcs⊢;have hgs:=zmH (q:=q.1.note 1 d k) (d:=d) (ss:=ss') hqd hd96 hssn;refine⟨k+1,zo,by dsimp only;omega,stay2 hcs ?_⟩;refine yCX [0,1,2,3] [] [(192,4),(193,5)] rfl rfl rfl rfl ?_ ?_ ?_ ?_
          ·refine⟨⟨rfl,rfl,yzX (zud ⟨rfl,rfl⟩ ⟨rfl,rfl,(yoX).symm,rfl,rfl⟩ rfl rfl rfl rfl)⟩,⟨rfl,rfl,?_⟩,bR,⟨rfl,rfl,yzX (zcv hd96 hp2)⟩,zT⟩;show WRowG _ _ _ (flatI (rcP false 20) 0 (q.1.v.rs.set d _)) _;rw[zcD (rcP false 20) Rc.o q.1.v.rs 0 d _ (by rw[ylX];exact zqp hssl)];exact yzX (zb3 hqq96 hp3)
          ·intro j o1 ho hj;have e1:j≠192:=hj (192,4) (by simp);have e2:j≠193:=hj (193,5) (by simp);refine⟨?_,yQX _ _ j o1 ho⟩;rw[←ho];refine Eq.trans ?_ (ywZ hgs j).symm;by_cases h1:j=2*d
           ·rw[zcF,ygX h1,zcF,ygX h1]
           ·rw[zbm h1,zbm h1,zbm h1,zev e1 e2];exact(zj7 (ph:=false) (p:=q.1) (q:=q.1.note 1 d k) rfl e1 e2).symm
          ·intro p9 hp9 o1 ho;refine note_ov (ph:=false) (p:=q.1) (k:=1) (r0:=d) (i:=k) rfl (yJX ..) rfl (yJY ..) p9 hp9 o1 ?_;rw[←ho];refine Eq.trans ?_ (ywZ hgs _).symm;rw[zbm (hp1 p9 hp9).symm]
          ·(repeat' first|exact zT|exact rfl|refine zA ?_ ?_)
      ·(conv=>whnf);repeat(((refine Ex.g ?_;conv=>whnf)))
       refine⟨d+1,zo,by dsimp only;omega,stay (q':=q) ((hfin2 zo).symm) ?_⟩;exact Ex.wG [0,1,2] [] [] ⟨pQ rfl rfl,rQ hqq96,bR,zT⟩
  ·conv=>whnf
   rw[←hfin zo];refine⟨?_⟩
   (exact Ex.wG [0,1] [] [] (⟨pQ rfl rfl,rQ hq96,zT⟩))
set_option maxHeartbeats 16000000
theorem zry (n:Nat) (p:Ck.Rp) (hf:Rk n p) (hn:n<=96) (hb:p.fd.length<=100000):HG Tryz.prog 2 20 220 107 [.ptr 0 0] (gP false p) [.row (zaC 20 1 p) 106 0, .row (flatI (rcP false 20) 0 p.v.rs) 66 10] (.tup [])
  (gP false (badEntries p)) [.row (zaC 20 1 (badEntries p)) 106 0, .row (flatI (rcP false 20) 0 (badEntries p).v.rs) 66 10]:=by
 have hpn:p.v.rs.length=n:=hf.rf.n;have h96:p.v.rs.length<=96:=zo
 obtain⟨B,hB⟩:∃B,B=1000:=⟨_,rfl⟩
 subst hpn;refine HG.of zal zo ?_;refine Ex.go ?_;refine Ex.wl p.v.rs.length (λd=>zag [(0, .ptr 0 0),(12, .so 1 0 p.v.rs.length 0),(13,ib p.v.rs.length),(14,ib d)] 92) (λd=>zaw 20 220 (gP false (it zaa p d)) [.row (zaC 20 1 (it zaa p d)) 106 0, .row (flatI (rcP false 20) 0 (it zaa p d).v.rs) 66 10]) ?_ ?_
 ·(exact Ex.wG [0,1] [] [] (⟨pQ rfl rfl,rQ h96,zT⟩))
 ·intro d hd;obtain⟨h1,h2⟩:=zdy hB hf d hd;have hst:it zaa p (d+1)=zaa (it zaa p d) d:=rfl
  have hfin:d=p.v.rs.length->it zaa p d=badEntries p:=λe=>by rw[e];rfl
  have hmul:d*B<=96*B:=yEX _ zo
  generalize it zaa p d=q0 at*
  have hqn:q0.v.rs.length=p.v.rs.length:=h1.rf.n;have hq96:q0.v.rs.length<=96:=zo
  have stay:∀{t:Tm} {s:St} {q':Ck.Rp},zaa q0 d=q'->Weak 2 t s (zag [(0, .ptr 0 0),(12, .so 1 0 p.v.rs.length 0),(13,ib p.v.rs.length),(14,ib (d+1:Nat))] 92) (zaw 20 220 (gP false q') [.row (zaC 20 1 q') 106 0, .row (flatI (rcP false 20) 0 q'.v.rs) 66 10])->
    Weak 2 t s (zag [(0, .ptr 0 0),(12, .so 1 0 p.v.rs.length 0),(13,ib p.v.rs.length),(14,ib (d+1:Nat))] 92) (zaw 20 220 (gP false (it zaa p (d+1))) [.row (zaC 20 1 (it zaa p (d+1))) 106 0, .row (flatI (rcP false 20) 0 (it zaa p (d+1)).v.rs) 66 10]):=λhe hw=>by rw[hst,he];exact hw
  refine Ex.go ?_;refine yPX (λh=> ?_) (λh=> ?_)
  ·have hltp:d<p.v.rs.length:=zo;have hltq:d<q0.v.rs.length:=zo;have hd96:d<96:=zo
   have hoff:0+((d:Nat):Int).toNat*10=d*10:=by simp
   have hoff9:0+((d:Nat):Int).toNat*10+9=d*10+9:=by simp
   have hd0:(0:Int)<=(d:Nat)/\((d:Nat):Int)<(q0.v.rs.length:Nat):=⟨zo,zo⟩
   obtain⟨x0,hx0⟩:∃x,at_ Rc.o q0.v.rs d=x:=⟨_,rfl⟩
   obtain⟨a1,a2,a3,a4⟩:=h1.at hltp;rw[hx0] at a1 a2 a3 a4
   have hls:zaa q0 d=if dir x0 then(it (entryStep d x0.es) (q0,[]) x0.es.length).1.setR d {(it (entryStep d x0.es) (q0,[]) x0.es.length).1.rc d with es:=(it (entryStep d x0.es) (q0,[]) x0.es.length).2} else q0:=by unfold zaa;simp only[zae];rw[hx0]
   obtain⟨ob,hob⟩:∃b,dir x0=b:=⟨_,rfl⟩
   have hdir:=zmD x0;rw[hob] at hdir hls
   (conv=>whnf);repeat(first|refine RK.of (zch (zab false 20) Rc.o hoff rfl rfl hltq rfl) ?_|rw[hx0]|refine zct rfl rfl rfl rfl ?_|refine yoY ([]) (hdir) (zgq) ?_|refine Ex.g ?_);conv=>whnf
   cases ob
   ·refine Ex.go ?_;refine⟨d+1,zo,by dsimp only;omega,stay (q':=q0) (by rw[hls];rfl) ?_⟩
    (exact Ex.wG [0,1] [] [] (⟨pQ rfl rfl,rQ hq96,zT⟩))
   ·by_cases he0:x0.es=[]
    ·have e1:seE 20 d x0=LS 4 aEn En.o []:=zbM he0
     have hls3:zaa q0 d=q0:=by
      rw[hls,he0];show q0.setR d {q0.rc d with es:=[]}=q0;rw[zae,hx0]
      have e2:({x0 with es:=[]}:Rc)=x0:=by cases x0;simp only at he0;subst he0;rfl
      rw[e2,←hx0];unfold Rp.setR;rw[zgM _ _ hltq]
     (conv=>whnf);repeat(first|rw[e1]|refine Ex.g ?_);conv=>whnf
     refine yFX zal (D:=Unit) (λ_=>0) (λ_=>True) (λ_=>zag [(0, .ptr 0 0),(2,ib d),(4, .sc (.slice none 0 0)),(12, .so 1 0 p.v.rs.length 0),(13,ib p.v.rs.length),(14,ib d),(24,ib (0:Nat)),(25,ib (0:Nat))] 92)
      (λ_=>zaw 20 220 (gP false q0) [.row (zaC 20 1 q0) 106 0, .row (flatI (rcP false 20) 0 q0.v.rs) 66 10]) () trivial ?_ ?_
     ·(exact Ex.wG [0,1] [] [] (⟨pQ rfl rfl,rQ hq96,zT⟩))
     ·intro _ _
      (conv=>whnf);repeat(first|refine Need.mk ?_ ?_;exact hd0|refine zaV (zab false 20) Rc.o (k:=9) [.sc (.slice none 0 0)] (rcE 20 d (at_ Rc.o q0.v.rs d) (.sc (.slice none 0 0))) hoff9 rfl rfl rfl rfl rfl rfl hltq (by decide) rfl ?_|refine Ex.g ?_);conv=>whnf
      refine⟨d+1,zo,by dsimp only;omega,stay hls3 ?_⟩;refine yCX [0,1] [] [] rfl rfl rfl rfl ?_ ?_ ?_ ?_
      ·refine⟨pQ rfl rfl,⟨rfl,rfl,yzX (zaI (i:=d) hq96 rfl (λ_ _=>rfl) zN ?_)⟩,zT⟩;rw[hx0];unfold rcE rcP;rw[e1]
       repeat refine WL.sc rfl ?_
       exact ywX (zmc hd96 zN) (ywX ⟨trivial,Wv.nil rfl⟩ yMX)
      ·exact gQ
      ·exact zN
      ·(repeat' first|exact zT|exact rfl|refine zA ?_ ?_)
    ·have e1:seE 20 d x0= .so (fam 20 (2*d+1)) 0 x0.es.length 0:=zbB he0;have h9:2*d+1<200:=zo
     (conv=>whnf);repeat(first|rw[e1]|refine Ex.g ?_);conv=>whnf
     have hls2:zaa q0 d=(it (entryStep d x0.es) (q0,[]) x0.es.length).1.setR d {(it (entryStep d x0.es) (q0,[]) x0.es.length).1.rc d with es:=(it (entryStep d x0.es) (q0,[]) x0.es.length).2}:=by rw[hls];rfl
     have hin:=zey (i:=d) (es:=x0.es) (q:=q0) h1.rf.fl;refine Ex.wl x0.es.length (λk=>zag [(0, .ptr 0 0),(2,ib d),(3, .ptr 2 0),(4,stS 3 (it (entryStep d x0.es) (q0,[]) k).2),(12, .so 1 0 p.v.rs.length 0),(13,ib p.v.rs.length),(14,ib d),(23, .so (fam 20 (2*d+1)) 0 x0.es.length 0),(24,ib x0.es.length),(25,ib k)] 92) (λk=>zaw 20 220 (gP false (it (entryStep d x0.es) (q0,[]) k).1) (stR (.row (zaC 20 1 (it (entryStep d x0.es) (q0,[]) k).1) 106 0) (.row (flatI (rcP false 20) 0 (it (entryStep d x0.es) (q0,[]) k).1.v.rs) 66 10) (.row (rcP false 20 d x0) 66 0) (it (entryStep d x0.es) (q0,[]) k).2)) ?_ ?_
     ·refine yCX [0,1,220] [] [] rfl rfl rfl rfl ?_ ?_ ?_ ?_
      ·exact⟨pQ rfl rfl,rQ hq96,⟨rfl,rfl,yzX (zcv hd96 zN)⟩,zT⟩
      ·exact gQ
      ·exact zN
      ·(repeat' first|exact zT|exact zio h9 zN|exact rfl|refine zA ?_ ?_)
     ·intro k hk;obtain⟨h3,h4,h5,h6,h7⟩:=hin k hk;have hst2:it (entryStep d x0.es) (q0,[]) (k+1)=entryStep d x0.es (it (entryStep d x0.es) (q0,[]) k) k:=rfl
      have hfin2:k=x0.es.length->zaa q0 d=(it (entryStep d x0.es) (q0,[]) k).1.setR d {(it (entryStep d x0.es) (q0,[]) k).1.rc d with es:=(it (entryStep d x0.es) (q0,[]) k).2}:=λe=>by rw[hls2,e]
      generalize it (entryStep d x0.es) (q0,[]) k=s2 at*
      obtain⟨q,st⟩:=s2;dsimp only at h3 h4 h5 h6 h7 hst2 hfin2;have hqk:Rk p.v.rs.length q:=h1.of_v h3 h4;have hqqn:q.v.rs.length=p.v.rs.length:=hqk.rf.n;have hqq96:q.v.rs.length<=96:=zo;have hqd:d<q.v.rs.length:=zo
      have hqx:at_ Rc.o q.v.rs d=x0:=by rw[h3];exact hx0
      have hge:gP false q (2*d+1)=some (.row (x0.es.flatMap aEn) 73 4):=by rw[←hqx];exact zfA hqd hd96 (by rw[hqx];exact he0)
      have hstl:st.length<=1000:=zo;have hstn:∀e∈st,zdm e.n:=λe he=>a2.2 e (h7 e he)
      have stay2:∀{t:Tm} {s:St} {q':Ck.Rp} {st':List En},entryStep d x0.es (q,st) k=(q',st')->Weak 2 t s (zag [(0, .ptr 0 0),(2,ib d),(3, .ptr 2 0),(4,stS 3 st'),(12, .so 1 0 p.v.rs.length 0),(13,ib p.v.rs.length),(14,ib d),(23, .so (fam 20 (2*d+1)) 0 x0.es.length 0),(24,ib x0.es.length),(25,ib (k+1:Nat))] 92) (zaw 20 220 (gP false q') (stR (.row (zaC 20 1 q') 106 0) (.row (flatI (rcP false 20) 0 q'.v.rs) 66 10) (.row (rcP false 20 d x0) 66 0) st'))->
       Weak 2 t s (zag [(0, .ptr 0 0),(2,ib d),(3, .ptr 2 0),(4,stS 3 (it (entryStep d x0.es) (q0,[]) (k+1)).2),(12, .so 1 0 p.v.rs.length 0),(13,ib p.v.rs.length),(14,ib d),(23, .so (fam 20 (2*d+1)) 0 x0.es.length 0),(24,ib x0.es.length),(25,ib (k+1:Nat))] 92) (zaw 20 220 (gP false (it (entryStep d x0.es) (q0,[]) (k+1)).1) (stR (.row (zaC 20 1 (it (entryStep d x0.es) (q0,[]) (k+1)).1) 106 0) (.row (flatI (rcP false 20) 0 (it (entryStep d x0.es) (q0,[]) (k+1)).1.v.rs) 66 10) (.row (rcP false 20 d x0) 66 0) (it (entryStep d x0.es) (q0,[]) (k+1)).2)):=λhe hw=>by rw[hst2,he];exact hw
      dsimp only
      cases st with
      |nil=>
       refine Ex.go ?_;refine yPX (λhkl=> ?_) (λhkl=> ?_)
       ·have hkx:k<x0.es.length:=zo
        have hk0:(0:Int)<=(k:Nat)/\((k:Nat):Int)<(x0.es.length:Nat):=⟨zo,zo⟩
        have hoffk:0+((k:Nat):Int).toNat*4=k*4:=by simp
        have hxm:=at_mem En.o x0.es k hkx
        obtain⟨x,hx⟩:∃x,at_ En.o x0.es k=x:=⟨_,rfl⟩
        rw[hx] at hxm;have hen:=zll q d [] x hqk.na hqd (a2.2 x hxm) hstl hstn;have hxf:=a3 x hxm
        obtain⟨b,hb⟩:∃b,Ck.zdu q d [] x=b:=⟨_,rfl⟩
        rw[hb] at hen
        have hes:entryStep d x0.es (q,[]) k=if b=true then(q,[]++[x]) else(if x.f.r<(q.v.rs.length:Nat)/\(at_ Rc.o q.v.rs x.f.r.toNat).q=x.f.q then{q.note 3 d ([]:List En).length with fl:=setLast (q.note 3 d ([]:List En).length).fl x.f.r} else q.note 3 d ([]:List En).length,[]):=by
         unfold entryStep;dsimp only;rw[hx,hb];rfl
        (conv=>whnf);repeat(first|refine Need.mk ?_ ?_;exact hk0|refine RK.of (zcP (enc:=aEn) (sz:=4) (λ_=>rfl) En.o hoffk rfl ((zah (show 2*d+1<220-20 from h9)).trans hge) hkx) ?_|rw[hx]|refine yoY (zF 20 [0,1]) (hen) (Wzc (zif (Lies.mk (λj hj=>za3 hj) (λj hj=>zah zo)) hqq96 rfl (zbt (by simp)) rfl (zbt (by simp))) (Wzc (ydX rfl) (Wzc (by unfold Wz;rfl) (Wzc (ydX rfl) Wzn)))) ?_);conv=>whnf
        cases b
        ·have hb9:q.fd.length<=1000000:=zo;have hnk:=znJ false q 3 d ([]:List En).length hqq96 hqk.rf.fl hb9
         have hp2:∀p∈[(192,221),(193,222)],2*d≠p.1/\2*d+1≠p.1:=by simp;omega
         have hp1:∀p∈[(192,221),(193,222)],2*d+1≠p.1:=λp hp=>(hp2 p hp).2
         have hp3:∀p∈[(192,221),(193,222)],191<p.1:=by simp
         have hne1:(q.note 3 d ([]:List En).length).fd≠[]:=by unfold Rp.note;simp
         have hne2:(q.note 3 d ([]:List En).length).fl≠[]:=by unfold Rp.note;simp
         have hd9:True:=trivial
         by_cases hc1:x.f.r<(q.v.rs.length:Nat)
         ·have hfl:x.f.r.toNat<q.v.rs.length:=zo
          have hfi:(0:Int)<=x.f.r/\x.f.r<(q.v.rs.length:Nat):=⟨hxf,hc1⟩
          have hoffs:0+x.f.r.toNat*10+1=x.f.r.toNat*10+1:=by simp
          by_cases hc2:(at_ Rc.o q.v.rs x.f.r.toNat).q=x.f.q
          ·have hes2:entryStep d x0.es (q,[]) k=({q.note 3 d ([]:List En).length with fl:=setLast (q.note 3 d ([]:List En).length).fl x.f.r},[]):=by rw[hes,yfX yFY,ygX ⟨hc1,hc2⟩]
           obtain⟨m,hm⟩:∃m,(q.note 3 d ([]:List En).length).fl=m:=⟨_,rfl⟩
           have hml:m.length=q.fl.length+1:=by rw[←hm];unfold Rp.note;simp
           have hfd5:q.fl.length<=1000000:=by rw[hqk.rf.fl];exact hb9
           have hsm:Small ((m.length:Nat)-1):=⟨zo,zo⟩
           have hix:(0:Int)<=(m.length:Nat)-1/\((m.length:Nat):Int)-1<(m.length:Nat):=⟨zo,zo⟩
           have hoffl:0+(((m.length:Nat):Int)-1).toNat*1=m.length-1:=zo;have hjl:m.length-1<m.length:=zo
           have hne3:m.set (m.length-1) x.f.r≠[]:=λe=>by have:=yqX List.length e;simp at this;rw[this] at hml;simp at hml
           rw[hm] at hes2 hne2
           (conv=>whnf);repeat(first|refine yBZ [0,1] (.tup []) [.row (ziB 1 221 222 (q.note 3 d ([]:List En).length)) 106 0, .row (flatI (rcP false 20) 0 (q).v.rs) 66 10, .row (((q.note 3 d ([]:List En).length)).fd.flatMap aFd) 86 3, .row (((q.note 3 d ([]:List En).length)).fl.map ib) 3 1] (hnk) rfl (yQX _ _) zba ?_ ?_ ?_ ?_;exact⟨pF FR.L ⟨rfl,rfl⟩,rF FR.L hqq96,zT⟩;(focus((repeat' first|exact zT|exact rfl|refine zA ?_ ?_)));exact⟨(by unfold Rn Rnl;trivial),rfl,⟨rfl,rfl, .inl (zgr rfl rfl rfl)⟩,⟨rfl,rfl, .inl (zcm FN.L hqq96)⟩,⟨rfl,rfl, .inr ⟨rfl,zbW _⟩⟩,⟨rfl,rfl, .inr ⟨rfl,zbV _⟩⟩,zT⟩|rw[hm]|refine KIf.t (ybX hc1) ?_|refine Need.mk ?_ ?_;(focus(first|exact hfi|exact hsm|exact hix))|refine RK.of (zam (zab false 20) Rc.o (k:=1) hoffs rfl rfl hfl (by decide) rfl) ?_|refine KIf.t (ybX hc2) ?_|refine ytY ib x.f.r rfl hoffl rfl rfl rfl rfl rfl hjl ?_|refine Ex.g ?_);conv=>whnf
           refine⟨k+1,zo,by dsimp only;omega,stay2 hes2 ?_⟩;refine yCX [0,1,2] [] [(192,221),(193,222)] rfl rfl rfl rfl ?_ ?_ ?_ ?_
           ·exact⟨⟨rfl,rfl,yzX (zfX ⟨rfl,rfl⟩ ⟨rfl,rfl,rfl,rfl,rfl⟩ rfl (by rw[hm];exact zeP _ _) hne1 (hne3))⟩,⟨rfl,rfl,yzX (zb3 hqq96 hp3)⟩,⟨rfl,rfl,yzX (zcv hd96 hp2)⟩,zT⟩
           ·exact zws rfl
           ·exact ovN rfl rfl rfl rfl hne1 (hne3)
           ·(repeat' first|exact zT|exact zio h9 hp1|exact rfl|refine zA ?_ ?_)
          ·have hes2:entryStep d x0.es (q,[]) k=(q.note 3 d ([]:List En).length,[]):=by rw[hes,yfX yFY,yfX (λh=>hc2 h.2)]
           (conv=>whnf);repeat(first|refine yBZ [0,1] (.tup []) [.row (ziB 1 221 222 (q.note 3 d ([]:List En).length)) 106 0, .row (flatI (rcP false 20) 0 (q).v.rs) 66 10, .row (((q.note 3 d ([]:List En).length)).fd.flatMap aFd) 86 3, .row (((q.note 3 d ([]:List En).length)).fl.map ib) 3 1] (hnk) rfl (yQX _ _) zba ?_ ?_ ?_ ?_;exact⟨pF FR.L ⟨rfl,rfl⟩,rF FR.L hqq96,zT⟩;(focus((repeat' first|exact zT|exact rfl|refine zA ?_ ?_)));exact⟨(by unfold Rn Rnl;trivial),rfl,⟨rfl,rfl, .inl (zgr rfl rfl rfl)⟩,⟨rfl,rfl, .inl (zcm FN.L hqq96)⟩,⟨rfl,rfl, .inr ⟨rfl,zbW _⟩⟩,⟨rfl,rfl, .inr ⟨rfl,zbV _⟩⟩,zT⟩|refine KIf.t (ybX hc1) ?_|refine Need.mk ?_ ?_;exact hfi|refine RK.of (zam (zab false 20) Rc.o (k:=1) hoffs rfl rfl hfl (by decide) rfl) ?_|refine KIf.f (ycX hc2) ?_|refine Ex.g ?_);conv=>whnf
           refine⟨k+1,zo,by dsimp only;omega,stay2 hes2 ?_⟩;refine yCX [0,1,2] [] [(192,221),(193,222)] rfl rfl rfl rfl ?_ ?_ ?_ ?_
           ·exact⟨⟨rfl,rfl,yzX (zfX ⟨rfl,rfl⟩ ⟨rfl,rfl,rfl,rfl,rfl⟩ rfl (rfl) hne1 (hne2))⟩,⟨rfl,rfl,yzX (zb3 hqq96 hp3)⟩,⟨rfl,rfl,yzX (zcv hd96 hp2)⟩,zT⟩
           ·exact zws rfl
           ·exact ovN rfl rfl rfl rfl hne1 (hne2)
           ·(repeat' first|exact zT|exact zio h9 hp1|exact rfl|refine zA ?_ ?_)
         ·have hes2:entryStep d x0.es (q,[]) k=(q.note 3 d ([]:List En).length,[]):=by rw[hes,yfX yFY,yfX (λh=>hc1 h.1)]
          (conv=>whnf);repeat(first|refine yBZ [0,1] (.tup []) [.row (ziB 1 221 222 (q.note 3 d ([]:List En).length)) 106 0, .row (flatI (rcP false 20) 0 (q).v.rs) 66 10, .row (((q.note 3 d ([]:List En).length)).fd.flatMap aFd) 86 3, .row (((q.note 3 d ([]:List En).length)).fl.map ib) 3 1] (hnk) rfl (yQX _ _) zba ?_ ?_ ?_ ?_;exact⟨pF FR.L ⟨rfl,rfl⟩,rF FR.L hqq96,zT⟩;(focus((repeat' first|exact zT|exact rfl|refine zA ?_ ?_)));exact⟨(by unfold Rn Rnl;trivial),rfl,⟨rfl,rfl, .inl (zgr rfl rfl rfl)⟩,⟨rfl,rfl, .inl (zcm FN.L hqq96)⟩,⟨rfl,rfl, .inr ⟨rfl,zbW _⟩⟩,⟨rfl,rfl, .inr ⟨rfl,zbV _⟩⟩,zT⟩|refine KIf.f (ycX hc1) ?_|refine Ex.g ?_);conv=>whnf
          refine⟨k+1,zo,by dsimp only;omega,stay2 hes2 ?_⟩;refine yCX [0,1,2] [] [(192,221),(193,222)] rfl rfl rfl rfl ?_ ?_ ?_ ?_
          ·exact⟨⟨rfl,rfl,yzX (zfX ⟨rfl,rfl⟩ ⟨rfl,rfl,rfl,rfl,rfl⟩ rfl (rfl) hne1 (hne2))⟩,⟨rfl,rfl,yzX (zb3 hqq96 hp3)⟩,⟨rfl,rfl,yzX (zcv hd96 hp2)⟩,zT⟩
          ·exact zws rfl
          ·exact ovN rfl rfl rfl rfl hne1 (hne2)
          ·(repeat' first|exact zT|exact zio h9 hp1|exact rfl|refine zA ?_ ?_)
        ·have hes2:entryStep d x0.es (q,[]) k=(q,[x]):=hes
         (conv=>whnf);repeat(((refine Ex.g ?_;conv=>whnf)))
         refine⟨k+1,zo,by dsimp only;omega,stay2 hes2 ?_⟩;refine yCX [0,1,2,222] [] [] rfl rfl rfl rfl ?_ ?_ ?_ ?_
         ·exact⟨pQ rfl rfl,rQ hqq96,⟨rfl,rfl,yzX (zcv hd96 zN)⟩,⟨rfl,rfl, .same rfl rfl⟩,zT⟩
         ·exact gQ
         ·exact zN
         ·(repeat' first|exact zT|exact zio h9 zN|exact rfl|refine zA ?_ ?_)
       ·have hke:k=x0.es.length:=zo;have hls4:=hfin2 hke;rw[zae,hqx] at hls4
        have hd1:(0:Int)<=(d:Nat)/\((d:Nat):Int)<(q.v.rs.length:Nat):=⟨zo,zo⟩
        rw[←hqx] at hls4
        (conv=>whnf);repeat(first|refine Need.mk ?_ ?_;exact hd1|refine zaV (zab false 20) Rc.o (k:=9) [.sc (.slice none 0 0)] (rcE 20 d (at_ Rc.o q.v.rs d) (.sc (.slice none 0 0))) hoff9 rfl rfl rfl rfl rfl rfl hqd (by decide) rfl ?_|refine Ex.g ?_);conv=>whnf
        refine⟨d+1,zo,by dsimp only;omega,stay hls4 ?_⟩;refine yCX [0,1] [] [] rfl rfl rfl rfl ?_ ?_ ?_ ?_
        ·refine⟨⟨rfl,rfl,by rw[zbC];exact yzX (zdY ⟨rfl,rfl⟩ zN)⟩,⟨rfl,rfl,yzX (zaI (i:=d) hqq96 yoX (λk hk=>zap _ _ _ _ _ (Ne.symm hk)) zN ?_)⟩,zT⟩;show WL _ _ _ (rcP false 20 d (at_ Rc.o (q.v.rs.set d _) d)) _;rw[zaj _ _ _ _ hqd];exact zvg (ywX (zmc hd96 zN) yMX)
        ·exact zyy hqd
        ·exact zN
        ·(repeat' first|exact zT|exact rfl|refine zA ?_ ?_)
      |cons y st=>
       refine Ex.go ?_;refine yPX (λhkl=> ?_) (λhkl=> ?_)
       ·have hkx:k<x0.es.length:=zo
        have hk0:(0:Int)<=(k:Nat)/\((k:Nat):Int)<(x0.es.length:Nat):=⟨zo,zo⟩
        have hoffk:0+((k:Nat):Int).toNat*4=k*4:=by simp
        have hxm:=at_mem En.o x0.es k hkx
        obtain⟨x,hx⟩:∃x,at_ En.o x0.es k=x:=⟨_,rfl⟩
        rw[hx] at hxm;have hen:=zll q d (y::st) x hqk.na hqd (a2.2 x hxm) hstl hstn;have hxf:=a3 x hxm
        obtain⟨b,hb⟩:∃b,Ck.zdu q d (y::st) x=b:=⟨_,rfl⟩
        rw[hb] at hen
        have hes:entryStep d x0.es (q,(y::st)) k=if b=true then(q,(y::st)++[x]) else(if x.f.r<(q.v.rs.length:Nat)/\(at_ Rc.o q.v.rs x.f.r.toNat).q=x.f.q then{q.note 3 d ((y::st):List En).length with fl:=setLast (q.note 3 d ((y::st):List En).length).fl x.f.r} else q.note 3 d ((y::st):List En).length,(y::st)):=by
         unfold entryStep;dsimp only;rw[hx,hb];rfl
        (conv=>whnf);repeat(first|refine Need.mk ?_ ?_;exact hk0|refine RK.of (zcP (enc:=aEn) (sz:=4) (λ_=>rfl) En.o hoffk rfl ((zah (show 2*d+1<220-20 from h9)).trans hge) hkx) ?_|rw[hx]|refine yoY (zF 20 [0,1,3]) (hen) (Wzc (zif (Lies.mk (λj hj=>za3 hj) (λj hj=>zah zo)) hqq96 rfl (zbt (by simp)) rfl (zbt (by simp))) (Wzc (ydX rfl) (Wzc (zqV rfl (zbt (by simp)) rfl) (Wzc (ydX rfl) Wzn)))) ?_);conv=>whnf
        cases b
        ·have hb9:q.fd.length<=1000000:=zo;have hnk:=znJ false q 3 d ((y::st):List En).length hqq96 hqk.rf.fl hb9
         have hp2:∀p∈[(192,221),(193,222)],2*d≠p.1/\2*d+1≠p.1:=by simp;omega
         have hp1:∀p∈[(192,221),(193,222)],2*d+1≠p.1:=λp hp=>(hp2 p hp).2
         have hp3:∀p∈[(192,221),(193,222)],191<p.1:=by simp
         have hne1:(q.note 3 d ((y::st):List En).length).fd≠[]:=by unfold Rp.note;simp
         have hne2:(q.note 3 d ((y::st):List En).length).fl≠[]:=by unfold Rp.note;simp
         have hd9:True:=trivial
         by_cases hc1:x.f.r<(q.v.rs.length:Nat)
         ·have hfl:x.f.r.toNat<q.v.rs.length:=zo
          have hfi:(0:Int)<=x.f.r/\x.f.r<(q.v.rs.length:Nat):=⟨hxf,hc1⟩
          have hoffs:0+x.f.r.toNat*10+1=x.f.r.toNat*10+1:=by simp
          by_cases hc2:(at_ Rc.o q.v.rs x.f.r.toNat).q=x.f.q
          ·have hes2:entryStep d x0.es (q,(y::st)) k=({q.note 3 d ((y::st):List En).length with fl:=setLast (q.note 3 d ((y::st):List En).length).fl x.f.r},(y::st)):=by rw[hes,yfX yFY,ygX ⟨hc1,hc2⟩]
           obtain⟨m,hm⟩:∃m,(q.note 3 d ((y::st):List En).length).fl=m:=⟨_,rfl⟩
           have hml:m.length=q.fl.length+1:=by rw[←hm];unfold Rp.note;simp
           have hfd5:q.fl.length<=1000000:=by rw[hqk.rf.fl];exact hb9
           have hsm:Small ((m.length:Nat)-1):=⟨zo,zo⟩
           have hix:(0:Int)<=(m.length:Nat)-1/\((m.length:Nat):Int)-1<(m.length:Nat):=⟨zo,zo⟩
           have hoffl:0+(((m.length:Nat):Int)-1).toNat*1=m.length-1:=zo;have hjl:m.length-1<m.length:=zo
           have hne3:m.set (m.length-1) x.f.r≠[]:=λe=>by have:=yqX List.length e;simp at this;rw[this] at hml;simp at hml
           rw[hm] at hes2 hne2
           (conv=>whnf);repeat(first|refine yBZ [0,1] (.tup []) [.row (ziB 1 221 222 (q.note 3 d ((y::st):List En).length)) 106 0, .row (flatI (rcP false 20) 0 (q).v.rs) 66 10, .row (((q.note 3 d ((y::st):List En).length)).fd.flatMap aFd) 86 3, .row (((q.note 3 d ((y::st):List En).length)).fl.map ib) 3 1] (hnk) rfl (yQX _ _) zba ?_ ?_ ?_ ?_;exact⟨pF FR.L ⟨rfl,rfl⟩,rF FR.L hqq96,zT⟩;(focus((repeat' first|exact zT|exact rfl|refine zA ?_ ?_)));exact⟨(by unfold Rn Rnl;trivial),rfl,⟨rfl,rfl, .inl (zgr rfl rfl rfl)⟩,⟨rfl,rfl, .inl (zcm FN.L hqq96)⟩,⟨rfl,rfl, .inr ⟨rfl,zbW _⟩⟩,⟨rfl,rfl, .inr ⟨rfl,zbV _⟩⟩,zT⟩|rw[hm]|refine KIf.t (ybX hc1) ?_|refine Need.mk ?_ ?_;(focus(first|exact hfi|exact hsm|exact hix))|refine RK.of (zam (zab false 20) Rc.o (k:=1) hoffs rfl rfl hfl (by decide) rfl) ?_|refine KIf.t (ybX hc2) ?_|refine ytY ib x.f.r rfl hoffl rfl rfl rfl rfl rfl hjl ?_|refine Ex.g ?_);conv=>whnf
           refine⟨k+1,zo,by dsimp only;omega,stay2 hes2 ?_⟩;refine yCX [0,1,2,3] [] [(192,221),(193,222)] rfl rfl rfl rfl ?_ ?_ ?_ ?_
           ·exact⟨⟨rfl,rfl,yzX (zfX ⟨rfl,rfl⟩ ⟨rfl,rfl,rfl,rfl,rfl⟩ rfl (by rw[hm];exact zeP _ _) hne1 (hne3))⟩,⟨rfl,rfl,yzX (zb3 hqq96 hp3)⟩,⟨rfl,rfl,yzX (zcv hd96 hp2)⟩,⟨rfl,rfl, .same rfl (zbp _)⟩,zT⟩
           ·exact zws rfl
           ·exact ovN rfl rfl rfl rfl hne1 (hne3)
           ·(repeat' first|exact zT|exact zio h9 hp1|exact rfl|refine zA ?_ ?_)
          ·have hes2:entryStep d x0.es (q,(y::st)) k=(q.note 3 d ((y::st):List En).length,(y::st)):=by rw[hes,yfX yFY,yfX (λh=>hc2 h.2)]
           (conv=>whnf);repeat(first|refine yBZ [0,1] (.tup []) [.row (ziB 1 221 222 (q.note 3 d ((y::st):List En).length)) 106 0, .row (flatI (rcP false 20) 0 (q).v.rs) 66 10, .row (((q.note 3 d ((y::st):List En).length)).fd.flatMap aFd) 86 3, .row (((q.note 3 d ((y::st):List En).length)).fl.map ib) 3 1] (hnk) rfl (yQX _ _) zba ?_ ?_ ?_ ?_;exact⟨pF FR.L ⟨rfl,rfl⟩,rF FR.L hqq96,zT⟩;(focus((repeat' first|exact zT|exact rfl|refine zA ?_ ?_)));exact⟨(by unfold Rn Rnl;trivial),rfl,⟨rfl,rfl, .inl (zgr rfl rfl rfl)⟩,⟨rfl,rfl, .inl (zcm FN.L hqq96)⟩,⟨rfl,rfl, .inr ⟨rfl,zbW _⟩⟩,⟨rfl,rfl, .inr ⟨rfl,zbV _⟩⟩,zT⟩|refine KIf.t (ybX hc1) ?_|refine Need.mk ?_ ?_;exact hfi|refine RK.of (zam (zab false 20) Rc.o (k:=1) hoffs rfl rfl hfl (by decide) rfl) ?_|refine KIf.f (ycX hc2) ?_|refine Ex.g ?_);conv=>whnf
           refine⟨k+1,zo,by dsimp only;omega,stay2 hes2 ?_⟩;refine yCX [0,1,2,3] [] [(192,221),(193,222)] rfl rfl rfl rfl ?_ ?_ ?_ ?_
           ·exact⟨⟨rfl,rfl,yzX (zfX ⟨rfl,rfl⟩ ⟨rfl,rfl,rfl,rfl,rfl⟩ rfl (rfl) hne1 (hne2))⟩,⟨rfl,rfl,yzX (zb3 hqq96 hp3)⟩,⟨rfl,rfl,yzX (zcv hd96 hp2)⟩,⟨rfl,rfl, .same rfl (zbp _)⟩,zT⟩
           ·exact zws rfl
           ·exact ovN rfl rfl rfl rfl hne1 (hne2)
           ·(repeat' first|exact zT|exact zio h9 hp1|exact rfl|refine zA ?_ ?_)
         ·have hes2:entryStep d x0.es (q,(y::st)) k=(q.note 3 d ((y::st):List En).length,(y::st)):=by rw[hes,yfX yFY,yfX (λh=>hc1 h.1)]
          (conv=>whnf);repeat(first|refine yBZ [0,1] (.tup []) [.row (ziB 1 221 222 (q.note 3 d ((y::st):List En).length)) 106 0, .row (flatI (rcP false 20) 0 (q).v.rs) 66 10, .row (((q.note 3 d ((y::st):List En).length)).fd.flatMap aFd) 86 3, .row (((q.note 3 d ((y::st):List En).length)).fl.map ib) 3 1] (hnk) rfl (yQX _ _) zba ?_ ?_ ?_ ?_;exact⟨pF FR.L ⟨rfl,rfl⟩,rF FR.L hqq96,zT⟩;(focus((repeat' first|exact zT|exact rfl|refine zA ?_ ?_)));exact⟨(by unfold Rn Rnl;trivial),rfl,⟨rfl,rfl, .inl (zgr rfl rfl rfl)⟩,⟨rfl,rfl, .inl (zcm FN.L hqq96)⟩,⟨rfl,rfl, .inr ⟨rfl,zbW _⟩⟩,⟨rfl,rfl, .inr ⟨rfl,zbV _⟩⟩,zT⟩|refine KIf.f (ycX hc1) ?_|refine Ex.g ?_);conv=>whnf
          refine⟨k+1,zo,by dsimp only;omega,stay2 hes2 ?_⟩;refine yCX [0,1,2,3] [] [(192,221),(193,222)] rfl rfl rfl rfl ?_ ?_ ?_ ?_
          ·exact⟨⟨rfl,rfl,yzX (zfX ⟨rfl,rfl⟩ ⟨rfl,rfl,rfl,rfl,rfl⟩ rfl (rfl) hne1 (hne2))⟩,⟨rfl,rfl,yzX (zb3 hqq96 hp3)⟩,⟨rfl,rfl,yzX (zcv hd96 hp2)⟩,⟨rfl,rfl, .same rfl (zbp _)⟩,zT⟩
          ·exact zws rfl
          ·exact ovN rfl rfl rfl rfl hne1 (hne2)
          ·(repeat' first|exact zT|exact zio h9 hp1|exact rfl|refine zA ?_ ?_)
        ·have hes2:entryStep d x0.es (q,y::st) k=(q,y::st++[x]):=hes
         have hsz:((y::st).length+1)*40<=2^47/\(y::st).length+1<=2^60:=by constructor<;>omega
         (conv=>whnf);repeat(first|refine Need.mk ?_ ?_;(focus(first|exact hsz|exact zrt (y::st)))|refine Ex.g ?_);conv=>whnf
         refine⟨k+1,zo,by dsimp only;omega,stay2 hes2 ?_⟩;rw[zuR,zuS];refine yCX [0,1,2,222] [] [] rfl rfl rfl rfl ?_ ?_ ?_ ?_
         ·exact⟨pQ rfl rfl,rQ hqq96,⟨rfl,rfl,yzX (zcv hd96 zN)⟩,⟨rfl,rfl, .same (by rw[yJX];rfl) (note_ov.nmc (zbp _) rfl)⟩,zT⟩
         ·exact gQ
         ·exact zN
         ·(repeat' first|exact zT|exact zio h9 zN|exact rfl|refine zA ?_ ?_)
       ·have hke:k=x0.es.length:=zo;have hls4:=hfin2 hke;rw[zae,hqx] at hls4
        have hd1:(0:Int)<=(d:Nat)/\((d:Nat):Int)<(q.v.rs.length:Nat):=⟨zo,zo⟩
        rw[←hqx] at hls4
        (conv=>whnf);repeat(first|refine Need.mk ?_ ?_;exact hd1|refine zaV (zab false 20) Rc.o (k:=9) [.so 3 0 (st.length+1) 0] (rcE 20 d (at_ Rc.o q.v.rs d) (.so 3 0 (st.length+1) 0)) hoff9 rfl rfl rfl rfl rfl rfl hqd (by decide) rfl ?_|refine Ex.g ?_);conv=>whnf
        refine⟨d+1,zo,by dsimp only;omega,stay hls4 ?_⟩;refine yCX [0,1] [] [(2*d+1,3)] rfl rfl rfl rfl ?_ ?_ ?_ ?_
        ·refine⟨⟨rfl,rfl,by rw[zbC];exact yzX (zdY ⟨rfl,rfl⟩ (zjB hd96))⟩,⟨rfl,rfl,yzX (zaI (i:=d) hqq96 yoX (λk hk=>zap _ _ _ _ _ (Ne.symm hk)) zqx ?_)⟩,zT⟩;show WL _ _ _ (rcP false 20 d (at_ Rc.o (q.v.rs.set d _) d)) _;rw[zaj _ _ _ _ hqd];exact zkZ hd96 rfl (by simp)
        ·exact zx2 hqd rfl
        ·exact zjA hqd hd96 (by simp) rfl ⟨[],by rw[yKX]⟩
        ·(repeat' first|exact zT|exact rfl|refine zA ?_ ?_)
  ·conv=>whnf
   rw[←hfin zo];refine⟨?_⟩
   (exact Ex.wG [0,1] [] [] (⟨pQ rfl rfl,rQ hq96,zT⟩))
theorem zem (hIt:zil) (v:Pt) (h:Ready v):HG Tryz.prog 0 20 220 56 [zbF v] (λ_=>none) [] (.ptr 0 0)
  (gP false (zao v)) [.row (zaC 20 1 (zao v)) 106 0, .row (flatI (rcP false 20) 0 (zao v).v.rs) 66 10]:=by
 obtain⟨n,hn⟩:∃n,v.rs.length=n:=⟨_,rfl⟩
 have hps:=zdG h;have h5:=h.n.1;have h96:=h.n.2;have hc:=ztx v h96 zo h.al.2 h.ds.2 (λx hx=>⟨by have:=(h.ns x hx).1;omega,by have:=(h.ss x hx).1;omega,by have:=(h.es x hx).1;omega,λy hy=>((h.ss x hx).2 y hy).1⟩);unfold zao;rw[hn] at hps h5 h96
 obtain⟨p0,e0⟩:∃p:Ck.Rp,p=⟨v,[],[]⟩:=⟨_,rfl⟩
 rw[←e0] at hps hc⊢
 obtain⟨p1,e1⟩:∃p,p=zax p0:=⟨_,rfl⟩
 rw[←e1] at hps⊢
 obtain⟨p2,e2⟩:∃p,p=badRuns p1:=⟨_,rfl⟩
 rw[←e2] at hps⊢
 obtain⟨p3,e3⟩:∃p,p=descriptors p2:=⟨_,rfl⟩
 rw[←e3] at hps⊢
 obtain⟨p4,e4⟩:∃p,p=badEntries p3:=⟨_,rfl⟩
 rw[←e4] at hps⊢
 obtain⟨p5,e5⟩:∃p,p=badNames p4:=⟨_,rfl⟩
 rw[←e5] at hps⊢
 obtain⟨p6,e6⟩:∃p,p=orphans p5:=⟨_,rfl⟩
 rw[←e6] at hps⊢
 obtain⟨p7,e7⟩:∃p,p=cyclesR p6:=⟨_,rfl⟩
 rw[←e7] at hps⊢
 obtain⟨p8,e8⟩:∃p,p=links p7:=⟨_,rfl⟩
 rw[←e8] at hps⊢
 obtain⟨p9,e9⟩:∃p,p=sizes p8:=⟨_,rfl⟩
 rw[←e9] at hps⊢;obtain⟨f0,⟨f1,g1⟩,⟨c1,al1⟩,⟨f2,g2⟩,ds2,⟨f3,g3⟩,⟨f4,g4⟩,⟨f5,g5,L5⟩,⟨f6,g6,L6,r6⟩,⟨f7,g7⟩,⟨f8,g8⟩,⟨f9,g9⟩,⟨c9,al9,mp9,ds9⟩,s9⟩:=hps
 have hv0:p0.v=v:=by rw[e0]
 have k1:HG _ _ _ _ _ _ _ _ _ _ _:=zxf n false p0 (by rw[e0];exact f0) h96 (by rw[e0];exact ymX _);rw[←e1] at k1;have k2:HG _ _ _ _ _ _ _ _ _ _ _:=zwV n v.c.toNat p1 f1 (by rw[c1]) h96 (by rw[c1];exact h.c) (by unfold zwm;rw[al1,c1];exact h.al.1) (by rw[al1];exact h.al.2) zo;rw[←e2] at k2;have k3:HG _ _ _ _ _ _ _ _ _ _ _:=zxD n false p2 f2 h96 zo (by rw[ds2];exact h.ds);rw[←e3] at k3;have k4:=zry n p3 f3 h96 zo;rw[←e4] at k4;have k5:=zvr n p4 f4 h96 zo;rw[←e5] at k5;have k6:=zqz hIt n 700 p5 f5 h96 zo L5 zo;rw[←e6] at k6;have k7:=ztt hIt n 780 p6 f6 h96 h5 zo L6 zo r6;rw[←e7] at k7;have k8:=zvC n false p7 f7.rf h96 zo (λx hx=>yBX (f7.na.ns x hx).1 zo);rw[←e8] at k8;have k9:=zuX n false p8 f8 h96 zo;rw[←e9] at k9
 have ho9:Okv p9.v:=⟨by rw[c9];exact h.c,by have:=f9.n;omega,λx hx=>yBX (s9 x hx).1 zo,by rw[al9];exact h.al.2,λr hr=>by
  rw[al9] at hr;have:=h.al.1 r hr;have:=h.c
  exact⟨zo,zo,zo⟩,λx hx y hy=>⟨((s9 x hx).2 y hy).1,λr hr=>by
  have:=((s9 x hx).2 y hy).2.2.2 r hr
  exact⟨this.1,this.2.1,this.2.2.2⟩⟩⟩
 have k10:=zxF n ((v.c+7)/8).toNat false p9 f9 h96 ho9 (by rw[mp9];exact h.mp) (by rw[c9]) zo
 obtain⟨p10,e10⟩:∃p,p=Ck.bits p9:=⟨_,rfl⟩
 rw[←e10] at k10⊢
 have q0:p0.v.rs.length<=96:=(by rw[e0];show v.rs.length<=96;omega)
 have q1:p1.v.rs.length<=96:=(by have:p1.v.rs.length=n:=f1.rf.n;omega)
 have q2:p2.v.rs.length<=96:=(by have:=f2.n;omega)
 have q3:p3.v.rs.length<=96:=(by have:=f3.rf.n;omega)
 have q4:p4.v.rs.length<=96:=(by have:=f4.rf.n;omega)
 have q5:p5.v.rs.length<=96:=(by have:=f5.rf.n;omega)
 have q6:p6.v.rs.length<=96:=(by have:=f6.rf.n;omega)
 have q7:p7.v.rs.length<=96:=(by have:=f7.rf.n;omega)
 have q8:p8.v.rs.length<=96:=(by have:=f8.rf.n;omega)
 have q9:p9.v.rs.length<=96:=(by have:=f9.n;omega)
 have q10:p10.v.rs.length<=96:=by rw[e10];show(it (zaB (Ck.used p9.v)) p9 p9.v.c.toNat).v.rs.length<=96;rw[(zcA (Ck.used p9.v) p9 f9.fl _).1];exact q9
 subst e0;refine HG.of zal zo ?_
 conv=>whnf
 refine ySZ [] (.agg [ib v.c,LS 2 zaP Run.o v.al, .so 421 0 v.rs.length 0,LS 1 aI 0 v.ds,tb v.mp]) [.row (flatI (rcP false 221) 0 v.rs) 66 10] (hc) rfl (λ_ _ h=>by cases h) (yQX _ _) ?_ ?_ ?_ ?_
 ·exact trivial
 ·exact⟨zcb _ rfl,zbj rfl⟩
 ·exact⟨by(unfold Rn;exact yOX Rn.sc (yOX Rn.lst (yOX (by unfold Rn;rfl) (yOX Rn.lst (yOX Rn.sc Rnl.nil))))),rfl,⟨rfl,rfl, .inl (zaE h.n.2)⟩,zT⟩
 (conv=>whnf);repeat(first|refine ypY [441,421] (.tup []) [.row (zaC 442 421 p1) 106 0, .row (flatI (rcP false 442) 0 p1.v.rs) 66 10] (k1) (⟨pF FR.G ⟨rfl,rfl⟩,rF FR.G q0,zT⟩) (⟨⟨rfl,rfl, .inl (zbg rfl)⟩,⟨rfl,rfl, .inl (zaE q1)⟩,zT⟩) ?_ (hargs:=by((repeat' first|exact zT|exact rfl|refine zA ?_ ?_))) (h1:=(by unfold Rn Rnl;trivial))|refine ypY [441,421] (.tup []) [.row (zaC 660 421 p2) 106 0, .row (flatI (rcP false 660) 0 p2.v.rs) 66 10] (k2) (⟨pF FR.G ⟨rfl,rfl⟩,rF FR.G q1,zT⟩) (⟨⟨rfl,rfl, .inl (zbg rfl)⟩,⟨rfl,rfl, .inl (zaE q2)⟩,zT⟩) ?_ (hargs:=by((repeat' first|exact zT|exact rfl|refine zA ?_ ?_))) (h1:=(by unfold Rn Rnl;trivial))|refine ypY [441,421] (.tup []) [.row (zaC 878 421 p3) 106 0, .row (flatI (rcP false 878) 0 p3.v.rs) 66 10] (k3) (⟨pF FR.G ⟨rfl,rfl⟩,rF FR.G q2,zT⟩) (⟨⟨rfl,rfl, .inl (zbg rfl)⟩,⟨rfl,rfl, .inl (zaE q3)⟩,zT⟩) ?_ (hargs:=by((repeat' first|exact zT|exact rfl|refine zA ?_ ?_))) (h1:=(by unfold Rn Rnl;trivial))|refine ypY [441,421] (.tup []) [.row (zaC 1096 421 p4) 106 0, .row (flatI (rcP false 1096) 0 p4.v.rs) 66 10] (k4) (⟨pF FR.G ⟨rfl,rfl⟩,rF FR.G q3,zT⟩) (⟨⟨rfl,rfl, .inl (zbg rfl)⟩,⟨rfl,rfl, .inl (zaE q4)⟩,zT⟩) ?_ (hargs:=by((repeat' first|exact zT|exact rfl|refine zA ?_ ?_))) (h1:=(by unfold Rn Rnl;trivial))|refine ypY [441,421] (.tup []) [.row (zaC 1314 421 p5) 106 0, .row (flatI (rcP false 1314) 0 p5.v.rs) 66 10] (k5) (⟨pF FR.G ⟨rfl,rfl⟩,rF FR.G q4,zT⟩) (⟨⟨rfl,rfl, .inl (zbg rfl)⟩,⟨rfl,rfl, .inl (zaE q5)⟩,zT⟩) ?_ (hargs:=by((repeat' first|exact zT|exact rfl|refine zA ?_ ?_))) (h1:=(by unfold Rn Rnl;trivial))|refine ypY [441,421] (.tup []) [.row (zaC 1532 421 p6) 106 0, .row (flatI (rcP false 1532) 0 p6.v.rs) 66 10] (k6) (⟨pF FR.G ⟨rfl,rfl⟩,rF FR.G q5,zT⟩) (⟨⟨rfl,rfl, .inl (zbg rfl)⟩,⟨rfl,rfl, .inl (zaE q6)⟩,zT⟩) ?_ (hargs:=by((repeat' first|exact zT|exact rfl|refine zA ?_ ?_))) (h1:=(by unfold Rn Rnl;trivial))|refine ypY [441,421] (.tup []) [.row (zaC 1750 421 p7) 106 0, .row (flatI (rcP false 1750) 0 p7.v.rs) 66 10] (k7) (⟨pF FR.G ⟨rfl,rfl⟩,rF FR.G q6,zT⟩) (⟨⟨rfl,rfl, .inl (zbg rfl)⟩,⟨rfl,rfl, .inl (zaE q7)⟩,zT⟩) ?_ (hargs:=by((repeat' first|exact zT|exact rfl|refine zA ?_ ?_))) (h1:=(by unfold Rn Rnl;trivial))|refine ypY [441,421] (.tup []) [.row (zaC 1968 421 p8) 106 0, .row (flatI (rcP false 1968) 0 p8.v.rs) 66 10] (k8) (⟨pF FR.G ⟨rfl,rfl⟩,rF FR.G q7,zT⟩) (⟨⟨rfl,rfl, .inl (zbg rfl)⟩,⟨rfl,rfl, .inl (zaE q8)⟩,zT⟩) ?_ (hargs:=by((repeat' first|exact zT|exact rfl|refine zA ?_ ?_))) (h1:=(by unfold Rn Rnl;trivial))|refine ypY [441,421] (.tup []) [.row (zaC 2186 421 p9) 106 0, .row (flatI (rcP false 2186) 0 p9.v.rs) 66 10] (k9) (⟨pF FR.G ⟨rfl,rfl⟩,rF FR.G q8,zT⟩) (⟨⟨rfl,rfl, .inl (zbg rfl)⟩,⟨rfl,rfl, .inl (zaE q9)⟩,zT⟩) ?_ (hargs:=by((repeat' first|exact zT|exact rfl|refine zA ?_ ?_))) (h1:=(by unfold Rn Rnl;trivial))|refine ypY [441,421] (.tup []) [.row (zaC 2404 421 p10) 106 0, .row (flatI (rcP false 2404) 0 p10.v.rs) 66 10] (k10) (⟨pF FR.G ⟨rfl,rfl⟩,rF FR.G q9,zT⟩) (⟨⟨rfl,rfl, .inl (zbg rfl)⟩,⟨rfl,rfl, .inl (zaE q10)⟩,zT⟩) ?_ (hargs:=by((repeat' first|exact zT|exact rfl|refine zA ?_ ?_))) (h1:=(by unfold Rn Rnl;trivial)));conv=>whnf
 refine⟨?_⟩
 (exact Ex.wG [441,421] [] [] (⟨pQ rfl rfl,rQ q10,zT⟩))
end Go.Proofs.YtgcjejajljhnaaaGreatDoor
namespace Ck
def ziU (p:Rp) (i:Int) (k:Nat):Bool:=decide ((at_ Fd.o p.fd k).k<=7)&&(decide ((at_ Fd.o p.fd k).r=i)||decide (at_ (0:Int) p.fl k=i))
def zoj (p:Rp) (i:Int):Bool:=(List.range p.fd.length).any (ziU p i)
theorem zuv {p:Rp} {i:Int} {k:Nat} (hk:k<p.fd.length) (h:ziU p i k=true):zoj p i=true:=yZY.2 ⟨k,yBY.2 hk,h⟩
theorem zuw {p:Rp} {i:Int} (h:∀k,k<p.fd.length->ziU p i k=false):zoj p i=false:=by
 unfold zoj;rw[ySY];intro k hk;rw[h k (yBY.1 hk)];decide
end Ck
namespace Go.Proofs.YtgcjejajljhnaaaGreatDoor
open Go.Ex Ck
set_option maxRecDepth 100000
set_option maxHeartbeats 16000000
theorem zgb (p:Ck.Rp) (i:Int) (hn:p.v.rs.length<=96) (hl:p.fl.length=p.fd.length) (hb:p.fd.length<=1000000):HG Tryz.prog 2 20 220 60 [.ptr 0 0,ib i] (gP false p) [.row (zaC 20 1 p) 106 0, .row (flatI (rcP false 20) 0 p.v.rs) 66 10] (bb (zoj p i))
  (gP false p) [.row (zaC 20 1 p) 106 0, .row (flatI (rcP false 20) 0 p.v.rs) 66 10]:=by
 refine HG.of zal zo ?_
 by_cases h0:p.fd=[]
 ·have e1:slF 20 p.fd= .sc (.slice none 0 0):=by rw[h0];rfl
  have hc:zoj p i=false:=zuw (λk hk=>by rw[h0] at hk;cases hk);rw[hc]
  (conv=>whnf);repeat((rw[e1];conv=>whnf))
  refine yFX zal (D:=Nat) (λ_=>0) (λd=>d=0) (λ_=>zag [(0, .ptr 0 0),(1,ib i),(10, .sc (.slice none 0 0)),(11,ib 0),(12,ib 0)] 38)
   (λ_=>zaw 20 220 (gP false p) [.row (zaC 20 1 p) 106 0, .row (flatI (rcP false 20) 0 p.v.rs) 66 10]) 0 rfl ?_ ?_
  ·(exact Ex.wG [0,1] [] [] (⟨pQ rfl rfl,rQ hn,zT⟩))
  intro d _;refine Ex.go ?_;refine⟨?_⟩
  (exact Ex.wG [0,1] [] [] (⟨pQ rfl rfl,rQ hn,zT⟩))
 ·have hl0:p.fl≠[]:=λe=>h0 (yeX (by rw[←hl,e];rfl));have e1:slF 20 p.fd= .so (fam 20 192) 0 p.fd.length 0:=zgm h0;have e2:slL 20 p.fl= .so (fam 20 193) 0 p.fl.length 0:=zkR hl0
  have h9:192<220-20:=by decide
  have m192:∀th,(T.f 20 220 (gP false p) th).get (fam 20 192)=some (.row (p.fd.flatMap aFd) 86 3):=λth=>(zah h9).trans (zj8 h0);have m193:∀th,(T.f 20 220 (gP false p) th).get (fam 20 193)=some (.row (p.fl.map ib) 3 1):=λth=>(zah (by decide)).trans (zrh hl0)
  (conv=>whnf);repeat((rw[e1];conv=>whnf))
  refine yFX zal (D:=Nat) (λd=>p.fd.length-d) (λd=>d<=p.fd.length/\∀k,k<d->ziU p i k=false) (λd=>zag [(0, .ptr 0 0),(1,ib i),(10, .so (fam 20 192) 0 p.fd.length 0),(11,ib p.fd.length),(12,ib d)] 38)
   (λ_=>zaw 20 220 (gP false p) [.row (zaC 20 1 p) 106 0, .row (flatI (rcP false 20) 0 p.v.rs) 66 10]) 0 ⟨ymX _,λ_ h=>(by cases h)⟩ ?_ ?_
  ·(refine yCX [0,1] [] [] rfl rfl rfl rfl ?_ ?_ ?_ ?_;exact⟨pQ rfl rfl,rQ hn,zT⟩;exact gQ;exact zN;(focus((repeat' first|exact zT|exact zio h9 zN|exact rfl|refine zA ?_ ?_))))
  ·intro d ⟨hd,hbe⟩;refine Ex.go ?_;refine yPX (λh=> ?_) (λh=> ?_)
   ·have hlt:d<p.fd.length:=zo
    have hd0:(0:Int)<=(d:Nat)/\((d:Nat):Int)<(p.fd.length:Nat):=⟨zo,zo⟩
    have hd1:(0:Int)<=(d:Nat)/\((d:Nat):Int)<(p.fl.length:Nat):=⟨zo,zo⟩
    have hoff:0+((d:Nat):Int).toNat*3=d*3:=by rw[yrX,ylX]
    have hoff1:0+((d:Nat):Int).toNat*1=d:=by rw[yrX];omega
    have hjl:d<p.fl.length:=zo
    obtain⟨f,hf⟩:∃f,at_ Fd.o p.fd d=f:=⟨_,rfl⟩
    obtain⟨g,hg⟩:∃g,at_ (0:Int) p.fl d=g:=⟨_,rfl⟩
    have hca:ziU p i d=(decide (f.k<=7)&&(decide (f.r=i)||decide (g=i))):=by unfold ziU;rw[hf,hg]
    (conv=>whnf);repeat(first|refine Need.mk ?_ ?_;exact hd0|refine RK.of (zcP (enc:=aFd) (sz:=3) (λ_=>rfl) Fd.o hoff rfl (m192 _) hlt) ?_|rw[hf]);conv=>whnf
    refine yPX (λh7=> ?_) (λh7=> ?_)
    ·(conv=>whnf);repeat(((refine Ex.g ?_;conv=>whnf)))
     refine yPX (λhr=> ?_) (λhr=> ?_)
     ·(conv=>whnf);repeat(((refine Ex.g ?_;conv=>whnf)))
      rw[zuv hlt (by rw[hca];simp[h7,hr])];refine⟨?_⟩
      (refine yCX [0,1] [] [] rfl rfl rfl rfl ?_ ?_ ?_ ?_;exact⟨pQ rfl rfl,rQ hn,zT⟩;exact gQ;exact zN;(focus((repeat' first|exact zT|exact rfl|refine zA ?_ ?_))))
     ·(conv=>whnf);repeat(first|refine Need.mk ?_ ?_;exact hd1|rw[e2]|refine RK.of (yjY ib (0:Int) g hg hoff1 rfl (m193 _) hjl) ?_|refine Ex.g ?_);conv=>whnf
      refine yPX (λhq=> ?_) (λhq=> ?_)
      ·conv=>whnf
       rw[zuv hlt (by rw[hca];simp[h7,hq])];refine⟨?_⟩
       (refine yCX [0,1] [] [] rfl rfl rfl rfl ?_ ?_ ?_ ?_;exact⟨pQ rfl rfl,rQ hn,zT⟩;exact gQ;exact zN;(focus((repeat' first|exact zT|exact rfl|refine zA ?_ ?_))))
      ·(conv=>whnf);repeat(((refine Ex.g ?_;conv=>whnf)))
       refine⟨d+1,⟨zo,λk hk=> ?_⟩,by dsimp only;omega,?_⟩
       ·by_cases hkd:k=d
        ·rw[hkd,hca];simp[hr,hq]
        ·exact hbe k zo
       (refine yCX [0,1] [] [] rfl rfl rfl rfl ?_ ?_ ?_ ?_;exact⟨pQ rfl rfl,rQ hn,zT⟩;exact gQ;exact zN;(focus((repeat' first|exact zT|exact zio h9 zN|exact rfl|refine zA ?_ ?_))))
    ·(conv=>whnf);repeat(((refine Ex.g ?_;conv=>whnf)))
     refine⟨d+1,⟨zo,λk hk=> ?_⟩,by dsimp only;omega,?_⟩
     ·by_cases hkd:k=d
      ·rw[hkd,hca];simp[h7]
      ·exact hbe k zo
     (refine yCX [0,1] [] [] rfl rfl rfl rfl ?_ ?_ ?_ ?_;exact⟨pQ rfl rfl,rQ hn,zT⟩;exact gQ;exact zN;(focus((repeat' first|exact zT|exact zio h9 zN|exact rfl|refine zA ?_ ?_))))
   ·conv=>whnf
    rw[zuw (λk hk=>hbe k zo)];refine⟨?_⟩
    (refine yCX [0,1] [] [] rfl rfl rfl rfl ?_ ?_ ?_ ?_;exact⟨pQ rfl rfl,rQ hn,zT⟩;exact gQ;exact zN;(focus((repeat' first|exact zT|exact rfl|refine zA ?_ ?_))))
end Go.Proofs.YtgcjejajljhnaaaGreatDoor
