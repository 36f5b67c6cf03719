/- Own text, part Rprt 8: walks of the package acl and of its reference, and the plain laws that they lean on; no statement of the seat is here. -/
import Derived.Test.YtgcjejajljhnaaaGreatDoorRprt1
import Derived.Test.YtgcjejajljhnaaaGreatDoorRprt7
import Derived.Test.YtgcjejajljhnaaaGreatDoorRprt6
import Derived.Test.YtgcjejajljhnaaaGreatDoorRprt5
set_option linter.all false
namespace Ck
open Go Go.Ex
theorem znS {α:Type} {P:α->Bool}:∀(l:List α) (i:Nat),ixL P l i= -1->∀x∈l,P x=false
 |[],_,_,x,hx=>by cases hx
 |y::l,i,h,x,hx=>by
  unfold ixL at h;cases hy:P y
  ·rw[yfX (by simp[hy])] at h
   rcases yAX.1 hx with rfl|hx
   ·exact hy
   ·exact znS l (i+1) h x hx
  ·rw[ygX hy] at h;omega
theorem znR {α:Type} {P:α->Bool} (o:α):∀(l:List α) (i:Nat),ixL P l i≠-1->∃k,k<l.length/\ixL P l i=((i+k:Nat):Int)/\P (at_ o l k)=true/\∀x∈l.take k,P x=false
 |[],_,h=>absurd rfl h
 |y::l,i,h=>by
  unfold ixL at h⊢;cases hy:P y
  ·rw[yfX (by simp[hy])] at h⊢;obtain⟨k,h1,h2,h3,h4⟩:=znR o l (i+1) h;refine⟨k+1,by simpa using h1,by rw[h2];omega,h3,λx hx=> ?_⟩;rw[List.take_succ_cons] at hx
   rcases yAX.1 hx with rfl|hx
   ·exact hy
   ·exact h4 x hx
  ·exact⟨0,by simp,by simp,hy,λx hx=>by cases hx⟩
def kept {α:Type} (P:α->Bool) (l:List α) (d:Nat):List α:=(l.take d).filter λx=> !P x
theorem zvK {α:Type} (P:α->Bool) (l:List α) (d:Nat):(kept P l d).length<=d:=by
 have h1:=y2Y (λx=> !P x) (l.take d)
 have h2:(l.take d).length<=d:=by simp;omega
 unfold kept;omega
theorem zuh {α:Type} {P:α->Bool} (o:α) {l:List α} {d:Nat} (hd:d<l.length) (h:P (at_ o l d)=true):kept P l (d+1)=kept P l d:=by
 unfold kept;rw[zi9 o l d hd,y5Z];simp[h]
theorem zxj {α:Type} {P:α->Bool} (o:α) {l:List α} {d:Nat} (hd:d<l.length) (h:P (at_ o l d)=false):kept P l (d+1)=kept P l d++[at_ o l d]:=by
 unfold kept;rw[zi9 o l d hd,y5Z];simp[h]
theorem ztg {α:Type} {P:α->Bool} {l:List α} {d:Nat} (h:∀x∈l.take d,P x=false):kept P l d=l.take d:=by
 unfold kept;exact List.filter_eq_self.2 λx hx=>by rw[h x hx];rfl
theorem zxI {α:Type} (o:α) {K l:List α} {d:Nat} (h:K.length<=d):at_ o (K++l.drop K.length) d=at_ o l d:=by
 unfold at_;rw[yuX h,y8X,show K.length+(d-K.length)=d by omega]
theorem zu0 {α:Type} {K l:List α} (v:α) (h:K.length<l.length):(K++l.drop K.length).set K.length v=(K++[v])++l.drop (K++[v]).length:=by
 rw[List.set_append_right _ _ (yhX _),yQY,yqZ h,y3Z];simp
theorem zhR {n:Nat} {K:Nat->Prop} (h:K n):Nat.forceK n K:=by
 unfold Nat.forceK;split
 ·rename_i b hb;rw[zqZ n b hb];exact h
 ·exact h
theorem zsc (x:En):∀y∈aEn x,zgW y=true:=by
 intro y hy;unfold aEn at hy;simp only[yAX,List.not_mem_nil,or_false] at hy
 rcases hy with rfl|rfl|rfl|rfl<;>rfl
theorem zl7 {s:St} {b off m:Nat} {L R:List En} {e:TypeId} {q:Nat} {cs:List AV} (hr:s.h.get b=some (.row ((L++R).flatMap aEn) e q)) (hoff:off=L.length*4) (hcs:cs=(List.replicate m En.o).flatMap aEn) (hm:m=R.length):zcH s b off cs= .ok (s.set b (.row (L.flatMap aEn++(List.replicate m En.o).flatMap aEn) e q)):=by
 subst hoff hcs hm;have hf:∀l:List En,(l.flatMap aEn).length=l.length*4:=λl=>ynZ (enc:=aEn) (sz:=4) (λ_=>rfl) l
 have h1:∀x∈(List.replicate R.length En.o).flatMap aEn,zgW x=true:=λx hx=>by
  obtain⟨y,_,hy⟩:=List.mem_flatMap.1 hx;exact zsc y x hy
 unfold zcH Ex.rowAt;rw[hr];show bd (putAt ((L++R).flatMap aEn) (L.length*4) _) _=_;have hl:((L++R).flatMap aEn).length=(L++R).length*4:=hf _
 have hr2:((List.replicate R.length En.o).flatMap aEn).length=R.length*4:=by rw[hf];simp
 rw[yvX] at hl;rw[zjw zo h1,hr2];show Ex.R.ok (s.set b (.row _ e q))=_
 congr 3
 rw[yJX,List.take_left' (by rw[hf]),yhY (by simp[hf]),yKX]
theorem zss (m:Nat) {z:Value} (h:z.cells.toList.map AV.sc=aEn En.o):zc8 m z=(List.replicate m En.o).flatMap aEn:=by
 unfold zc8;rw[h]
 induction m with
 |zero=>rfl
 |succ m ih=>rw[yTY,yTY,yDZ,y0X,ih]
theorem zok {s:St} {b off m start:Nat} {L R:List En} {e:TypeId} {q:Nat} {z:Value} (hr:s.h.get b=some (.row ((L++R).flatMap aEn) e q)) (hoff:off=L.length*4) (hz:z.cells.toList.map AV.sc=aEn En.o) (hm:m=R.length):zlC s (.so b off m start) z= .ok (s.set b (.row (L.flatMap aEn++(List.replicate m En.o).flatMap aEn) e q)):=zl7 hr hoff (zss m hz) hm
theorem zqV {h:T AO} {z:List Nat} {l:List En} {b n:Nat} {e:TypeId} {q:Nat} (hr:h.get b=some (.row (l.flatMap aEn) e q)) (hz:b∈z) (hn:n=l.length):Wz h z (LS 4 aEn En.o l) (.so b 0 n 0):=Wz.list (λ_=>rfl) (λ_=>rfl) hr hz hn rfl rfl
end Ck
namespace Go.Proofs.YtgcjejajljhnaaaGreatDoor
open Go.Ex Ck
set_option maxRecDepth 100000
set_option maxHeartbeats 8000000
theorem zpv :Ex.zyT Tryz.prog zlM 2000 143 [.slice none 0 0] (.slice none 0 0)=true:=by decide+kernel
theorem zgi (l:List En) (hl:l.length<=100000) (h0:0<l.length):HC Tryz.prog 0 143 [LS 4 aEn En.o l] [] (.so 0 0 l.length 0) [.row (l.flatMap aEn) 73 4]:=by
 have hb:Nat.ble (0+l.length) 0=false:=by cases h:Nat.ble (0+l.length) 0 with|false=>rfl|true=>have:=ynX h;omega
 refine HC.of zal (yhX 0) ?_
 (conv=>whnf);repeat(first|refine Ex.g ?_|refine Need.mk (λ_ _=>rfl) ?_|refine RK.of (zeY rfl rfl h0) ?_);conv=>whnf
 have e:([]++(List.range l.length).flatMap λi=>aEn (at_ En.o l i))=l.flatMap aEn:=by exact zaA aEn En.o l
 rw[e];refine⟨[1],[],rfl,⟨⟨rfl,rfl,Or.inr ⟨rfl,zay (λ_=>rfl) _⟩⟩,zT⟩,?_⟩
 (repeat' first|exact zT|exact rfl|refine zA ?_ ?_)
 exact ylX _
def zg3 (o:Ref) (n:Nm) (x:En):Bool:=decide (x.f=o)&&decide (x.n=n.n)
theorem zps (g:Nat->Option AO) (hg:∀j o,g j=some o->zaZ o) (es:List En) (hl:es.length<=1000) (o:Ref) (n:Nm):HK Tryz.prog 3 180 [.so 200 0 es.length 0, .fn (.func 181) [] [.ptr 201 0, .ptr 202 0]] g [.row (es.flatMap aEn) 73 4, .row (ze1 o) 61 0, .row (aNm n) 71 0] (.so 200 0 (es.filter λx=> !zg3 o n x).length 0)
  g [.row ((es.filter λx=> !zg3 o n x).flatMap aEn) 73 4, .row (ze1 o) 61 0, .row (aNm n) 71 0]:=by
 have hix:=zfN (ze1 o) (aNm n) (zg3 o n) es zo (λx _=>zmQ x o n)
 obtain⟨W,hW⟩:∃W,ixL (zg3 o n) es 0=W:=⟨_,rfl⟩
 rw[hW] at hix;refine HK.of zal zo ?_;by_cases hm:W= -1
 ·have hall:=znS es 0 (hW.trans hm)
  have hfil:(es.filter λx=> !zg3 o n x)=es:=List.filter_eq_self.2 λx hx=>by rw[hall x hx];rfl
  rw[hfil]
  (conv=>whnf);repeat(first|refine yoY ([200,201,202]) (hix) (Wzc (zqV rfl (by simp) rfl) (Wzc (zrk rfl (by simp) (zg6 o) rfl (by simp) (zbz n)) Wzn)) ?_|refine KIf.t (ybX hm) ?_);conv=>whnf
  refine⟨?_⟩;refine y7Y [200,201,202] [] rfl rfl rfl rfl ?_ ?_ ?_
  ·exact⟨⟨rfl,rfl, .same rfl (zbp _)⟩,⟨rfl,rfl, .same rfl rfl⟩,⟨rfl,rfl, .same rfl rfl⟩,zT⟩
  ·exact λj o1 h=>⟨h,hg j o1 h⟩
  ·(repeat' first|exact zT|exact rfl|refine zA ?_ ?_)
 ·obtain⟨k,hk,hWk,hPk,hall⟩:=znR En.o es 0 (λe=>hm (hW.symm.trans e))
  have hWk2:W=(k:Int):=by rw[←hW,hWk,ylX]
  subst hWk2
  (conv=>whnf);repeat(first|refine yoY ([200,201,202]) (hix) (Wzc (zqV rfl (by simp) rfl) (Wzc (zrk rfl (by simp) (zg6 o) rfl (by simp) (zbz n)) Wzn)) ?_|refine KIf.f (ycX hm) ?_|refine Ex.g ?_);conv=>whnf
  have hk1:kept (zg3 o n) es (k+1)=es.take k:=(zuh En.o hk hPk).trans (ztg hall)
  have hk2:(es.take k).length=k:=by simp;omega
  have hfin:kept (zg3 o n) es es.length=es.filter λx=> !zg3 o n x:=by unfold kept;rw[yCY]
  refine yFX zal (D:=Nat) (λd=>es.length-d) (λd=>d<=es.length/\(kept (zg3 o n) es d).length<d) (λd=>zag [(0, .so 200 0 es.length 0),(1, .fn (.func 181) [] [.ptr 201 0, .ptr 202 0]),(5,ib (kept (zg3 o n) es d).length),(6,ib d)] 42)
   (λd=>zlu g [.row ((kept (zg3 o n) es d++es.drop (kept (zg3 o n) es d).length).flatMap aEn) 73 4, .row (ze1 o) 61 0, .row (aNm n) 71 0]) (k+1) ⟨zo,by rw[hk1,hk2];omega⟩ ?_ ?_
  ·rw[hk1,hk2,ygZ];refine y7Y [200,201,202] [] rfl rfl rfl rfl ?_ ?_ ?_
   ·exact⟨⟨rfl,rfl, .same rfl (zbp _)⟩,⟨rfl,rfl, .same rfl rfl⟩,⟨rfl,rfl, .same rfl rfl⟩,zT⟩
   ·exact λj o1 h=>⟨h,hg j o1 h⟩
   ·(repeat' first|exact zT|exact rfl|refine zA ?_ ?_)
  ·rintro d ⟨hd,hkd⟩;have hkl:=zvK (zg3 o n) es d;have hst:=λh h2=>zuh (P:=zg3 o n) En.o (l:=es) (d:=d) h h2;have hsf:=λh h2=>zxj (P:=zg3 o n) En.o (l:=es) (d:=d) h h2
   have hend:d=es.length->kept (zg3 o n) es d=es.filter λx=> !zg3 o n x:=λe=>by rw[e,hfin]
   generalize kept (zg3 o n) es d=L at*
   have hlen:(L++es.drop L.length).length=es.length:=by simp;omega
   refine Ex.go ?_;refine yPX (λh=> ?_) (λh=> ?_)
   ·have hlt:d<es.length:=zo
    have hd0:(0:Int)<=(d:Nat)/\((d:Nat):Int)<(es.length:Nat):=⟨zo,zo⟩
    have hoff:0+((d:Nat):Int).toNat*4=d*4:=by simp
    have hj:d<(L++es.drop L.length).length:=zo;have hat:at_ En.o (L++es.drop L.length) d=at_ En.o es d:=zxI En.o hkl
    obtain⟨x,hx⟩:∃x,at_ En.o es d=x:=⟨_,rfl⟩
    rw[hx] at hat hst hsf;have hdel:=zmQ x o n
    obtain⟨b,hb⟩:∃b,zg3 o n x=b:=⟨_,rfl⟩
    rw[show(decide (x.f=o)&&decide (x.n=n.n))=b from hb] at hdel
    (conv=>whnf);repeat(first|refine Need.mk ?_ ?_;exact hd0|refine RK.of (zcP (enc:=aEn) (sz:=4) (λ_=>rfl) En.o hoff rfl rfl hj) ?_|rw[hat]|refine yoY ([201,202]) (hdel) (Wzc (ydX rfl) (Wzc (zrL rfl (by simp) (zg6 o)) (Wzc (zrL rfl (by simp) (zbz n)) Wzn))) ?_);conv=>whnf
    cases b
    ·have hkf:=hsf hlt hb
     have hL0:(0:Int)<=(L.length:Nat)/\((L.length:Nat):Int)<(es.length:Nat):=⟨zo,zo⟩
     have hoffL:0+((L.length:Nat):Int).toNat*4=L.length*4+0:=by simp
     have hjL:L.length<(L++es.drop L.length).length:=zo;have hset:=zu0 (K:=L) (l:=es) x zo
     have hlenI:((L.length:Nat):Int)+1=((L++[x]).length:Nat):=by simp
     (conv=>whnf);repeat(first|refine Need.mk ?_ ?_;exact hL0|refine ze4 (enc:=aEn) (sz:=4) (λ_=>rfl) En.o (k:=0) x hoffL rfl rfl rfl (zsc x) rfl hjL (by decide) rfl ?_|refine Ex.g ?_);conv=>whnf
     refine⟨d+1,⟨hlt,by rw[hkf];simp;omega⟩,by dsimp only;omega,?_⟩;dsimp only;rw[hset,hkf];refine y7Y [200,201,202] [] rfl rfl rfl rfl ?_ ?_ ?_
     ·exact⟨⟨rfl,rfl, .same rfl (zbp _)⟩,⟨rfl,rfl, .same rfl rfl⟩,⟨rfl,rfl, .same rfl rfl⟩,zT⟩
     ·exact λj o1 h=>⟨h,hg j o1 h⟩
     ·(repeat' first|exact zT|exact rfl|exact hlenI.symm|refine zA ?_ ?_)
    ·have hkt:=hst hlt hb
     (conv=>whnf);repeat(((refine Ex.g ?_;conv=>whnf)))
     refine⟨d+1,⟨hlt,by rw[hkt];omega⟩,by dsimp only;omega,?_⟩;dsimp only;rw[hkt];refine y7Y [200,201,202] [] rfl rfl rfl rfl ?_ ?_ ?_
     ·exact⟨⟨rfl,rfl, .same rfl (zbp _)⟩,⟨rfl,rfl, .same rfl rfl⟩,⟨rfl,rfl, .same rfl rfl⟩,zT⟩
     ·exact λj o1 h=>⟨h,hg j o1 h⟩
     ·(repeat' first|exact zT|exact rfl|refine zA ?_ ?_)
   ·have hLe:=hend zo
    have hL0:(0:Int)<=(L.length:Nat)/\((L.length:Nat):Int)<=(es.length:Nat):=⟨zo,zo⟩
    rw[←hLe]
    cases L with
    |nil=>
     (conv=>whnf);repeat(first|refine Need.mk ?_ ?_;exact hL0|refine RK.of (zok (L:=[]) (R:=es.drop ([]:List En).length) rfl rfl rfl rfl) ?_);conv=>whnf
     refine⟨?_⟩;refine y7Y [200,201,202] [] rfl rfl rfl rfl ?_ ?_ ?_
     ·exact⟨⟨rfl,rfl, .inr ⟨_,rfl,zbp _⟩⟩,⟨rfl,rfl, .same rfl rfl⟩,⟨rfl,rfl, .same rfl rfl⟩,zT⟩
     ·exact λj o1 h=>⟨h,hg j o1 h⟩
     ·(repeat' first|exact zT|exact rfl|refine zA ?_ ?_)
    |cons y L=>
     have hlt:L.length+1<es.length:=by simp at hkd;omega
     have hoff:0+(L.length+1)*4=(y::L).length*4:=by simp
     have hm:es.length-(L.length+1)=(es.drop (y::L).length).length:=by simp
     (conv=>whnf);repeat(first|refine Need.mk ?_ ?_;exact hL0|refine zhR ?_|refine KIf.t (zdl hlt) ?_|refine RK.of (zok (L:=y::L) (R:=es.drop (y::L).length) rfl hoff rfl hm) ?_);conv=>whnf
     refine⟨?_⟩;refine y7Y [200,201,202] [] rfl rfl rfl rfl ?_ ?_ ?_
     ·exact⟨⟨rfl,rfl, .inr ⟨_,rfl,zbp _⟩⟩,⟨rfl,rfl, .same rfl rfl⟩,⟨rfl,rfl, .same rfl rfl⟩,zT⟩
     ·exact λj o1 h=>⟨h,hg j o1 h⟩
     ·(repeat' first|exact zT|exact rfl|refine zA ?_ ?_)
end Go.Proofs.YtgcjejajljhnaaaGreatDoor
namespace Ck
open Go Go.Ex
theorem zgM (l:List Rc) (i:Nat) (h:i<l.length):l.set i (at_ Rc.o l i)=l:=by rw[zaS _ _ _ h,List.set_getElem_self]
theorem zn8 :∀l:List En,plainA.plainL (l.flatMap aEn)=true
 |[]=>rfl
 |x::l=>by
  rw[y0X];show plainA.plainL ([tb x.n,ib x.f.r,ib x.f.q,ib x.z]++l.flatMap aEn)=true;exact zn8 l
theorem zrs (l:List En):∀o∈[AO.row (l.flatMap aEn) 73 4],zfl o:=λo ho=>by rcases yiX.1 ho with rfl;exact zn8 l
theorem DCall.lift {P:Program} {n0:Nat} {f:FuncId} {args0 args:List AV} {rows0 rows1:List AO} {v1:AV} {s:St} {light:AV->Prop} {heavy:AV->St->Prop} (r z:List Nat) (v2:AV) (rows2:List AO) (hc:HC P n0 f args0 rows0 v1 rows1) (hap:(match zck z r with|true=>Nat.ble n0 r.length|false=>false)=true) (hrows:zgA s.h z r rows0 r) (hargs:named.nameds r.length args0=true/\Wvl s.h z (rn r) args0 args)
  (hv:Rn (rho r n0 s.n) v1 v2/\rows2.length=rows1.length/\zkz (rho r n0 s.n) rows1 rows2) (hk:(zso s r z n0 rows2).nfK λs=>heavy v2 s):DCall P f args light heavy s:=by
 split at hap
 ·rename_i ha;exact⟨.inr ⟨v2,_,CallOk.lift r z v2 rows2 hc ha (ynX hap) hrows hargs.1 hargs.2 hv.1 hv.2.1 hv.2.2,yDY hk⟩⟩
 ·cases hap
theorem zw3 {h:T AO} {A i k:Nat} {R:Nat->Option Nat} {x:Rc} {e:TypeId} {q:Nat} {c:List AV} (hs:WL h [k] R [seS false 20 i x] [seS false A i x]) (hk:h.get k=some (.row c e q)):WL h [k] R (rcP false 20 i {x with es:=[]}) (rcE A i x (.so k 0 0 0)):=by
 unfold rcP rcE;rw[zbM rfl];have e1:seS false 20 i {x with es:=[]}=seS false 20 i x:=rfl;rw[e1]
 repeat refine WL.sc rfl ?_
 refine ywX ⟨hs.1.1,?_⟩ (ywX ⟨trivial,?_⟩ yMX)
 ·have:=hs.2;unfold Wvl at this;exact this.1
 ·unfold Wv Wz;exact⟨rfl,yiX.2 rfl,rfl,_,_,_,hk,(by show 0*4<=_;omega),λi hi=>absurd hi (ypX _)⟩
end Ck
namespace Go.Proofs.YtgcjejajljhnaaaGreatDoor
open Go.Ex Ck
set_option maxRecDepth 100000
set_option maxHeartbeats 8000000
theorem zkH :PureC Tryz.prog 143 [LS 4 aEn En.o []] (LS 4 aEn En.o []):=by
 refine mt2 zal (λs=>yvY (args:=[.slice none 0 0]) λw=>yOY zed zc2 (args:=[.slice none 0 0]) zpv w) (λa cap=> ?_)
 (conv=>whnf);repeat((refine Ex.g ?_;conv=>whnf))
 refine .z [0] ?_;exact yzZ rfl (by simp) rfl (yhX _) (λi hi=>absurd hi (ypX _)) rfl (λi hi=>absurd hi (ypX _))
theorem zpr (o:Ref) (n:Nm):HC Tryz.prog 2 180 [LS 4 aEn En.o [], .fn (.func 181) [] [.ptr 0 0, .ptr 1 0]] [.row (ze1 o) 61 0, .row (aNm n) 71 0] (LS 4 aEn En.o []) [.row (ze1 o) 61 0, .row (aNm n) 71 0]:=by
 have hix:=zfN (ze1 o) (aNm n) (zg3 o n) [] (ymX _) (λx _=>zmQ x o n);refine HC.of zal (yhX 2) ?_
 (conv=>whnf);repeat(first|refine yoY ([0,1]) (hix) (Wzc (ydX rfl) (Wzc (zrk rfl (by simp) (zg6 o) rfl (by simp) (zbz n)) Wzn)) ?_|refine Ex.g ?_);conv=>whnf
 (refine⟨[0,1],[],rfl,?_,?_⟩<;>(repeat' first|exact zT|refine zA ?_ ?_)<;>(conv=>whnf)<;>(first|(intro _ _;rfl)|(exact Or.inr ⟨rfl,rfl⟩)))
theorem zrB (n:Nat) (p:Ck.Rp) (r:Nat) (nm:Nm) (hf:Rf n p) (hn:n<=96) (hr:r<n) (hes:∀x∈p.v.rs,x.es.length<=1000):HG Tryz.prog 2 20 220 153 [.ptr 0 0,ib (r:Nat), .agg (aNm nm)] (gP false p) [.row (zaC 20 1 p) 106 0, .row (flatI (rcP false 20) 0 p.v.rs) 66 10] (.tup [])
  (gP false (Ck.drop p r nm)) [.row (zaC 20 1 (Ck.drop p r nm)) 106 0, .row (flatI (rcP false 20) 0 (Ck.drop p r nm).v.rs) 66 10]:=by
 have hpn:p.v.rs.length=n:=hf.n;have h96:p.v.rs.length<=96:=zo;have hrl:r<p.v.rs.length:=zo;have href:=zie p r hrl h96
 obtain⟨b,hb⟩:∃b,Ck.right p.v nm.d=b:=⟨_,rfl⟩
 obtain⟨x,hx⟩:∃x,at_ Rc.o p.v.rs nm.d.r.toNat=x:=⟨_,rfl⟩
 have hdr:Ck.drop p r nm=if(b&&x.k==0)=true then p.setR nm.d.r.toNat {x with es:=x.es.filter λy=> !zg3 (p.ref r) nm y} else p:=by
  unfold Ck.drop;rw[hb,show p.rc nm.d.r=x from hx];rfl
 refine HG.of zal zo ?_
 (conv=>whnf);repeat(first|refine DCall.lK [1] (.tup [.agg (rgC false 20 p.v nm.d),bb b]) [.row (flatI (rcP false 20) 0 p.v.rs) 66 10] (zjm false p nm.d hb ⟨rfl,h96⟩) (⟨rF FR.L h96,zT⟩) (⟨⟨rfl,rfl, .inl (zcm FN.L h96)⟩,zT⟩) ?_ (hargs:=by((repeat' first|exact zT|exact rfl|(intro _ _;exact rfl)|refine zA ?_ ?_))) (h1:=zpF (zvb FN.L h96))|refine zeh (c':=rgC false 20 p.v nm.d) rfl rfl (zmi _ _ _ _) (zmh _ _ _ _) rfl rfl ?_|refine Ex.g ?_);conv=>whnf
 cases b
 ·rw[show Ck.drop p r nm=p from hdr]
  (conv=>whnf);repeat(((refine Ex.g ?_;conv=>whnf)))
  refine⟨?_⟩
  (exact Ex.wG [0,1] [] [] (⟨pQ rfl rfl,rQ h96,zT⟩))
 ·obtain⟨_,hil,_⟩:=right_in hb;have hrg:=zwX (ph:=false) (A:=20) hb;rw[hx] at hrg;by_cases hk:x.k=0
  ·have hdr2:Ck.drop p r nm=p.setR nm.d.r.toNat {x with es:=x.es.filter λy=> !zg3 (p.ref r) nm y}:=by rw[hdr,hk];rfl
   rw[hdr2]
   have hix0:(0:Int)<=nm.d.r/\nm.d.r<(p.v.rs.length:Nat):=by
    have:=(right_in hb).1;simp[wi] at this;omega
   have hi96:nm.d.r.toNat<96:=zo
   obtain⟨i,hi⟩:∃i,nm.d.r.toNat=i:=⟨_,rfl⟩
   rw[hi] at hil hrg hx hi96⊢
   have hoff9:0+nm.d.r.toNat*10+9=i*10+9:=by rw[hi,ylX]
   have hxe:x.es.length<=1000:=by rw[←hx];exact hes _ (at_mem Rc.o p.v.rs i hil)
   by_cases he:x.es=[]
   ·have e1:seE 20 i x=LS 4 aEn En.o []:=zbM he
    (conv=>whnf);repeat first|(rw[hrg];conv=>whnf)|(refine KIf.t (ybX hk) ?_;conv=>whnf)|(refine yoY (zF 20 [0,1]) (href) (Wzc (zif (Lies.mk (λj hj=>za3 hj) (λj hj=>zah zo)) h96 rfl (zbt (by simp)) rfl (zbt (by simp))) (Wzc (ydX rfl) Wzn)) ?_;conv=>whnf)|(rw[e1];conv=>whnf)|(refine yxX (zkH) ?_;conv=>whnf)|(refine Need.mk ?_ ?_;exact hix0;conv=>whnf)|(refine Ck.DCall.lift [241,220] [] (LS 4 aEn En.o []) [.row (ze1 (p.ref r)) 61 0, .row (aNm nm) 71 0] (zpr (p.ref r) nm) rfl ?_ ?_ ?_ ?_;(focus((repeat' first|exact zT|refine zA ?_ ?_)<;>(conv=>whnf)<;>((exact Or.inr ⟨rfl,rfl⟩))));(focus((repeat' first|exact zT|exact rfl|refine zA ?_ ?_)<;>(try(conv=>whnf))<;>(repeat'((intro _ _;rfl)))));exact⟨(by unfold Rn;rfl),rfl,⟨rfl,rfl, .inr ⟨rfl,rfl⟩⟩,⟨rfl,rfl, .inr ⟨rfl,rfl⟩⟩,zT⟩;(conv=>whnf))|(refine zaV (zab false 20) Rc.o (k:=9) [LS 4 aEn En.o []] (rcE 20 i (at_ Rc.o p.v.rs i) (LS 4 aEn En.o [])) hoff9 rfl rfl rfl rfl rfl rfl hil (by decide) rfl ?_;conv=>whnf)|((refine Ex.g ?_;conv=>whnf))
    have e2:({x with es:=x.es.filter λy=> !zg3 (p.ref r) nm y}:Rc)=x:=by rw[he];cases x;simp only at he;subst he;rfl
    have e3:p.setR i x=p:=by rw[←hx];unfold Rp.setR;rw[zgM _ _ hil]
    rw[e2,e3]
    have e4:rcE 20 i (at_ Rc.o p.v.rs i) (LS 4 aEn En.o [])=rcP false 20 i (at_ Rc.o p.v.rs i):=by unfold rcE rcP;rw[zbM (by rw[hx];exact he)]
    refine⟨?_⟩;refine yCX [0,1] [] [] rfl rfl rfl rfl ?_ ?_ ?_ ?_
    ·refine⟨pQ rfl rfl,⟨rfl,rfl,yzX (zaI (i:=i) h96 rfl (λ_ _=>rfl) zN ?_)⟩,zT⟩;rw[e4];exact zcv hi96 zN
    ·exact gQ
    ·exact zN
    ·(repeat' first|exact zT|refine zA ?_ ?_)
   ·have e1:seE 20 i x= .so (fam 20 (2*i+1)) 0 x.es.length 0:=zbB he
    have hge:gP false p (2*i+1)=some (.row (x.es.flatMap aEn) 73 4):=by rw[←hx];exact zfA hil hi96 (by rw[hx];exact he)
    have h9:2*i+1<200:=zo;have hdel:=zps (gP false p) (yQX _ _) x.es hxe (p.ref r) nm
    obtain⟨F,hF⟩:∃F,(x.es.filter λy=> !zg3 (p.ref r) nm y)=F:=⟨_,rfl⟩
    rw[hF] at hdel⊢
    (conv=>whnf);repeat(first|rw[hrg]|refine KIf.t (ybX hk) ?_|refine yoY (zF 20 [0,1]) (href) (Wzc (zif (Lies.mk (λj hj=>za3 hj) (λj hj=>zah zo)) h96 rfl (zbt (by simp)) rfl (zbt (by simp))) (Wzc (ydX rfl) Wzn)) ?_|rw[e1]|refine Need.mk ?_ ?_;exact hix0|refine DCall.lendC (zF 20 []) (.so 242 0 x.es.length 0) (zgi x.es zo (yXX.2 he)) rfl ?_ ?_ ?_ ?_;exact zrs _;exact Wzc (zl8 (λ_=>rfl) (λ_=>rfl) ((zah h9).trans hge) (za3 h9) rfl) Wzn;exact(by unfold Rn;rfl)|refine DCall.lK [242,241,220] (.so 242 0 F.length 0) [.row (F.flatMap aEn) 73 4, .row (ze1 (p.ref r)) 61 0, .row (aNm nm) 71 0] (hdel) (⟨⟨rfl,rfl, .same rfl (zbp _)⟩,⟨rfl,rfl, .same rfl rfl⟩,⟨rfl,rfl, .same rfl rfl⟩,zT⟩) (⟨⟨rfl,rfl, .inr ⟨rfl,zbp _⟩⟩,⟨rfl,rfl, .inr ⟨rfl,rfl⟩⟩,⟨rfl,rfl, .inr ⟨rfl,rfl⟩⟩,zT⟩) ?_ (hargs:=by((repeat' first|exact zT|exact rfl|refine zA ?_ ?_))) (h1:=(by unfold Rn;rfl))|refine zaV (zab false 20) Rc.o (k:=9) [.so 242 0 F.length 0] (rcE 20 i (at_ Rc.o p.v.rs i) (.so 242 0 F.length 0)) hoff9 rfl rfl rfl rfl rfl rfl hil (by decide) rfl ?_|refine Ex.g ?_);conv=>whnf
    refine⟨?_⟩;rw[←hx]
    by_cases hFe:F=[]
    ·subst hFe;refine yCX [0,1] [242] [] rfl rfl rfl rfl ?_ ?_ ?_ ?_
     ·refine⟨⟨rfl,rfl,?_⟩,⟨rfl,rfl,yzX (zaI (i:=i) h96 yoX (λk hk=>zap _ _ _ _ _ (Ne.symm hk)) zN ?_)⟩,zT⟩
      ·rw[zbC];exact yzX (zdY ⟨rfl,rfl⟩ zN)
      ·show WL _ _ _ (rcP false 20 i (at_ Rc.o (p.v.rs.set i _) i)) _;rw[zaj _ _ _ _ hil];exact zw3 (ywX (zmc hi96 zN) yMX) rfl
     ·intro j o1 ho hj;refine⟨?_,yQX _ _ j o1 ho⟩;by_cases hj9:j=2*i+1
      ·subst hj9;rw[zcQ zo,show(2*i+1)/2=i by omega] at ho;have e5:(p.setR i {at_ Rc.o p.v.rs i with es:=[]}).v.rs[i]? =some {at_ Rc.o p.v.rs i with es:=[]}:=yzY hil;rw[e5] at ho;simp at ho
      ·rw[←zde (x:={at_ Rc.o p.v.rs i with es:=[]}) hil rfl hj9];exact ho
     ·exact zN
     ·(repeat' first|exact zT|refine zA ?_ ?_)
    ·refine yCX [0,1] [] [(2*i+1,242)] rfl rfl rfl rfl ?_ ?_ ?_ ?_
     ·refine⟨⟨rfl,rfl,?_⟩,⟨rfl,rfl,yzX (zaI (i:=i) h96 yoX (λk hk=>zap _ _ _ _ _ (Ne.symm hk)) zqx ?_)⟩,zT⟩
      ·rw[zbC];exact yzX (zdY ⟨rfl,rfl⟩ (zjB hi96))
      ·show WL _ _ _ (rcP false 20 i (at_ Rc.o (p.v.rs.set i _) i)) _;rw[zaj _ _ _ _ hil];exact zkZ hi96 rfl hFe
     ·exact zx2 hil rfl
     ·exact zjA hil hi96 hFe rfl ⟨[],by rw[yKX]⟩
     ·(repeat' first|exact zT|refine zA ?_ ?_)
  ·have hdr2:Ck.drop p r nm=p:=by rw[hdr];simp[hk]
   rw[hdr2]
   (conv=>whnf);repeat(first|rw[hrg]|refine KIf.f (ycX hk) ?_|refine Ex.g ?_);conv=>whnf
   refine⟨?_⟩
   (exact Ex.wG [0,1] [] [] (⟨pQ rfl rfl,rQ h96,zT⟩))
end Go.Proofs.YtgcjejajljhnaaaGreatDoor
abbrev yTZ:=@Ck.DCall.lift
namespace Ck
open Go Go.Ex
section
variable {h : T AO} {z : List Nat} {A : Nat} {r : List Nat}
theorem zfX {a b k0:Nat} {q q':Rp} (hk:RS (RG A [(192,a),(193,b)] r) 1/\RD (RG A [(192,a),(193,b)] r) 1=k0) (hv:q'.v.c=q.v.c/\q'.v.al=q.v.al/\q.v.rs.length=q'.v.rs.length/\q'.v.ds=q.v.ds/\q'.v.mp=q.v.mp)
  (hfd:q'.fd.length=q.fd.length) (hfl:q'.fl.length=q.fl.length) (h1:q'.fd≠[]) (h2:q'.fl≠[]):WL h z (RG A [(192,a),(193,b)] r) (zaC 20 1 q') (ziB k0 a b q):=by
 unfold zaC ziB;rw[hv.1,hv.2.1,hv.2.2.2.1,hv.2.2.2.2,hv.2.2.1,zgm h1,zkR h2,hfd,hfl];exact WL.sc rfl (WL.sc rfl (ywX (zgl hk) (WL.sc rfl (WL.sc rfl (ywX (zkO zo) (ywX (zpU zo zo) yMX))))))
theorem ovN {ph:Bool} {R:Nat->Option Nat} {q':Rp} {a b:Nat} {ca cb:List AV} (ha:h.get a=some (.row ca 86 3)) (hca:ca=q'.fd.flatMap aFd) (hb:h.get b=some (.row cb 3 1)) (hcb:cb=q'.fl.map ib) (h1:q'.fd≠[]) (h2:q'.fl≠[]):∀p∈[(192,a),(193,b)],∀o1,gP ph q' p.1=some o1->∃o,h.get p.2=some o/\WOG h z R o1 o:=by
 intro q hq o1 ho
 rcases yAX.1 hq with rfl|hq
 ·rw[zj8 h1] at ho;cases ho;exact⟨_,ha,rfl,rfl, .same hca.symm (by rw[hca];exact zbW _)⟩
 ·rcases yAX.1 hq with rfl|hq
  ·rw[zrh h2] at ho;cases ho;exact⟨_,hb,rfl,rfl, .same hcb.symm (by rw[hcb];exact zbV _)⟩
  ·cases hq
end
theorem zws {ph:Bool} {q q':Rp} {a b:Nat} (hr:q'.v.rs=q.v.rs):∀j o1,gP ph q' j=some o1->(∀p∈[(192,a),(193,b)],j≠p.1)->zih (gP ph q) j=some o1/\zaZ o1:=λj o1 ho hj=>by
 have e1:j≠192:=hj (192,a) (by simp);have e2:j≠193:=hj (193,b) (by simp);refine⟨?_,yQX _ _ j o1 ho⟩;rw[zev e1 e2,←ho];exact(zj7 (ph:=ph) (p:=q) (q:=q') hr e1 e2).symm
structure Rk (n:Nat) (q:Rp):Prop where
 rf:Rf n q
 na:NaOk q.v
 ef:∀x∈q.v.rs,∀e∈x.es,0<=e.f.r
 ss:∀x∈q.v.rs,x.ss.length<=100000
theorem Rk.at {n:Nat} {q:Rp} (h:Rk n q) {i:Nat} (hi:i<n):((at_ Rc.o q.v.rs i).ns.length<=1000/\∀m∈(at_ Rc.o q.v.rs i).ns,zdm m.n)/\((at_ Rc.o q.v.rs i).es.length<=1000/\∀e∈(at_ Rc.o q.v.rs i).es,zdm e.n)/\(∀e∈(at_ Rc.o q.v.rs i).es,0<=e.f.r)/\(at_ Rc.o q.v.rs i).ss.length<=100000:=by
 have hm:=at_mem Rc.o q.v.rs i (by rw[h.rf.n];exact hi);exact⟨h.na.ns _ hm,h.na.es _ hm,h.ef _ hm,h.ss _ hm⟩
theorem Rk.setR {n:Nat} {q:Rp} (h:Rk n q) (i:Nat) (x:Rc) (hx:1<=x.q/\x.q<=65535) (h1:x.ns.length<=1000/\∀m∈x.ns,zdm m.n) (h2:x.es.length<=1000/\∀e∈x.es,zdm e.n) (h3:∀e∈x.es,0<=e.f.r) (h4:x.ss.length<=100000):Rk n (q.setR i x):=by
 have key:∀{P:Rc->Prop},(∀y∈q.v.rs,P y)->P x->∀y∈(q.setR i x).v.rs,P y:=λhp hx y hy=>by
  rcases mem_set hy with hy|rfl
  ·exact hp y hy
  ·exact hx
 exact⟨h.rf.setR i x hx,⟨by show(q.v.rs.set i x).length<=96;rw[yoX];exact h.na.rs,key h.na.ns h1,key h.na.es h2⟩,key h.ef h3,key h.ss h4⟩
theorem Rk.of_v {n:Nat} {q q':Rp} (h:Rk n q) (hv:q'.v=q.v) (hl:q'.fl.length=q'.fd.length):Rk n q':=⟨⟨by rw[hv];exact h.rf.n,hl,by rw[hv];exact h.rf.q⟩,by rw[hv];exact h.na,by rw[hv];exact h.ef,by rw[hv];exact h.ss⟩
theorem zeP (l:List Int) (n:Int):(setLast l n).length=l.length:=yoX
theorem zlx (i:Nat) (es:List En) (s:Rp×List En) (k:Nat) (hk:k<es.length) (hl:s.1.fl.length=s.1.fd.length) (hm:∀e∈s.2,e∈es):
  (entryStep i es s k).1.v=s.1.v/\(entryStep i es s k).1.fl.length=(entryStep i es s k).1.fd.length/\(entryStep i es s k).1.fd.length<=s.1.fd.length+1/\(entryStep i es s k).2.length<=s.2.length+1/\∀e∈(entryStep i es s k).2,e∈es:=by
 unfold entryStep;dsimp only;split
 ·exact⟨rfl,hl,by simp,by simp,λe he=>by
   rcases yRX.1 he with he|he
   ·exact hm e he
   ·rw[yiX.1 he];exact at_mem _ _ _ hk⟩
 ·split
  ·exact⟨rfl,by show(setLast (s.1.fl++[-1]) _).length=(s.1.fd++[_]).length;rw[zeP];simp[hl],by show(s.1.fd++[_]).length<=_;simp,by simp,hm⟩
  ·exact⟨rfl,by show(s.1.fl++[-1]).length=(s.1.fd++[_]).length;simp[hl],by show(s.1.fd++[_]).length<=_;simp,by simp,hm⟩
theorem zey {i:Nat} {es:List En} {q:Rp} (hl:q.fl.length=q.fd.length):∀k,k<=es.length->(it (entryStep i es) (q,[]) k).1.v=q.v/\(it (entryStep i es) (q,[]) k).1.fl.length=(it (entryStep i es) (q,[]) k).1.fd.length/\(it (entryStep i es) (q,[]) k).1.fd.length<=q.fd.length+k/\(it (entryStep i es) (q,[]) k).2.length<=k/\∀e∈(it (entryStep i es) (q,[]) k).2,e∈es
 |0,_=>⟨rfl,hl,yhX _,yhX _,λe he=>by cases he⟩
 |k+1,hk=>by
  obtain⟨h1,h2,h3,h4,h5⟩:=zey (i:=i) (es:=es) hl k zo;obtain⟨g1,g2,g3,g4,g5⟩:=zlx i es (it (entryStep i es) (q,[]) k) k zo h2 h5;exact⟨g1.trans h1,g2,by show(entryStep i es _ k).1.fd.length<=_;omega,by show(entryStep i es _ k).2.length<=_;omega,g5⟩
theorem zdy {n B:Nat} {p:Rp} (hB:B=1000) (h:Rk n p):∀k,k<=n->Rk n (it zaa p k)/\(it zaa p k).fd.length<=p.fd.length+k*B
 |0,_=>⟨h,by show p.fd.length<=_;omega⟩
 |k+1,hk=>by
  obtain⟨h1,h2⟩:=zdy hB h k zo;have e:it zaa p (k+1)=zaa (it zaa p k) k:=rfl;rw[e]
  generalize it zaa p k=q at*
  have hm:(k+1)*B=k*B+B:=by rw[yZX,yuZ]
  unfold zaa;simp only[zae];split
  ·obtain⟨g1,g2,g3,g4,g5⟩:=zey (i:=k) (es:=(at_ Rc.o q.v.rs k).es) h1.rf.fl (at_ Rc.o q.v.rs k).es.length (yhX _);obtain⟨a1,a2,a3,a4⟩:=h1.at (show k<n by omega);have hs:=h1.of_v g1 g2
   have hr:at_ Rc.o (it (entryStep k (at_ Rc.o q.v.rs k).es) (q,[]) (at_ Rc.o q.v.rs k).es.length).1.v.rs k=at_ Rc.o q.v.rs k:=by rw[g1]
   rw[hr];refine⟨hs.setR k _ (h1.rf.at zo) a1 ⟨yBX g4 a2.1,λe he=>a2.2 e (g5 e he)⟩ (λe he=>a3 e (g5 e he)) a4,yBX g3 ?_⟩;have:=a2.1;omega
  ·exact⟨h1,zo⟩
noncomputable def stS (b:Nat) (l:List En):AV:=match l with|[]=> .sc (.slice none 0 0)|_::l=> .so b 0 (l.length+1) 0
theorem zuR (b:Nat) (l:List En) (x:En):stS b (l++[x])= .so b 0 (l.length+1) 0:=by
 cases l with
 |nil=>rfl
 |cons y l=>show AV.so b 0 ((l++[x]).length+1) 0=_;simp
def stR (a b c:AO) (l:List En):List AO:=match l with|[]=>[a,b,c]|y::l=>[a,b,c, .row ((y::l).flatMap aEn) 73 4]
theorem zuS (a b c:AO) (l:List En) (x:En):stR a b c (l++[x])=[a,b,c, .row ((l++[x]).flatMap aEn) 73 4]:=by
 cases l with
 |nil=>rfl
 |cons y l=>rfl
theorem zyy {p:Rp} {d:Nat} (hd:d<p.v.rs.length):∀j o1,gP false (p.setR d {at_ Rc.o p.v.rs d with es:=[]}) j=some o1->(∀q∈([]:List (Nat×Nat)),j≠q.1)->gP false p j=some o1/\zaZ o1:=λj o1 ho _=>by
 refine⟨?_,yQX _ _ j o1 ho⟩;by_cases hj9:j=2*d+1
 ·subst hj9;have e5:(p.setR d {at_ Rc.o p.v.rs d with es:=[]}).v.rs[d]? =some {at_ Rc.o p.v.rs d with es:=[]}:=yzY hd;by_cases h2:2*d+1<192
  ·rw[zcQ h2,show(2*d+1)/2=d by omega,e5] at ho;simp at ho
  ·by_cases h3:2*d+1=193
   ·unfold gP at ho⊢;rw[yfX zo,ygX h3] at ho⊢;exact ho
   ·unfold gP at ho;rw[yfX zo,yfX h3,show(2*d+1)/2=d by omega,e5] at ho;simp at ho
 ·rw[←zde (x:={at_ Rc.o p.v.rs d with es:=[]}) hd rfl hj9];exact ho
theorem zvg {h:T AO} {z:List Nat} {R:Nat->Option Nat} {A i:Nat} {x:Rc} (hs:WL h z R [seS false 20 i x] [seS false A i x]):WL h z R (rcP false 20 i {x with es:=[]}) (rcE A i x (.sc (.slice none 0 0))):=by
 unfold rcP rcE;rw[zbM rfl];have e1:seS false 20 i {x with es:=[]}=seS false 20 i x:=rfl;rw[e1]
 repeat refine WL.sc rfl ?_
 refine ywX ⟨hs.1.1,?_⟩ (ywX ⟨trivial,Wv.nil rfl⟩ yMX);have:=hs.2;unfold Wvl at this;exact this.1
end Ck
namespace Ck
open Go Go.Ex
theorem zd3 {p:Rp} {r:Nat} {b:List Nm} {n:Nm} (h:(isName p r b n).1=true):right p.v n.d=true:=by
 unfold isName at h;split at h
 ·rename_i h1;simp only[ykX] at h1;exact h1.1
 ·cases h
theorem zdt {p:Rp} {r:Nat} {b:List Nm} {n:Nm} (h:(isName p r b n).1=true) (h2:(isName p r b n).2=false):(p.rc n.d.r).es.length<zdI n.d.r:=by
 unfold isName at h h2;split at h
 ·rename_i h1;rw[ygX h1] at h2;split at h
  ·cases h
  ·rename_i h3;rw[yfX h3] at h2;split at h
   ·cases h
   ·rename_i h4;rw[yfX h4] at h2
    cases hix:ixE n.n (p.rc n.d.r).es with
    |none=>rw[hix] at h;exact yiZ h
    |some k=>rw[hix] at h2;cases h2
 ·cases h
theorem zqQ (d:Int):zdI d<=700:=by unfold zdI;split<;>omega
theorem zff {v:Pt} {r:Ref} (h:right v r=true):0<=r.r/\r.r<v.rs.length:=by
 unfold right wi at h;simp only[ykX,yDX] at h;omega
theorem Rk.enter {n:Nat} {q:Rp} (h:Rk n q) {d:Int} {nm:List UInt8} {r:Nat} (hd:0<=d/\d<n) (hm:zdm nm) (hl:(q.rc d).es.length<1000):Rk n (enter q d nm r):=by
 have hdl:d.toNat<n:=zo;obtain⟨a1,a2,a3,a4⟩:=h.at hdl;have e:q.rc d=at_ Rc.o q.v.rs d.toNat:=rfl;unfold Ck.enter;rw[e] at hl⊢;refine h.setR _ _ (h.rf.at hdl) a1 ⟨by simp;omega,λx hx=> ?_⟩ (λx hx=> ?_) a4
 ·rcases yRX.1 hx with hx|hx
  ·exact a2.2 x hx
  ·rw[yiX.1 hx];exact hm
 ·rcases yRX.1 hx with hx|hx
  ·exact a3 x hx
  ·rw[yiX.1 hx];show(0:Int)<=(r:Nat);omega
theorem Rk.drop {n:Nat} {q:Rp} (h:Rk n q) {r:Nat} {m:Nm}:Rk n (drop q r m):=by
 unfold Ck.drop;split
 ·rename_i h1;simp only[ykX] at h1;have hr:=zff h1.1
  have hdl:m.d.r.toNat<n:=by rw[←h.rf.n];omega
  obtain⟨a1,a2,a3,a4⟩:=h.at hdl;have e:q.rc m.d.r=at_ Rc.o q.v.rs m.d.r.toNat:=rfl;rw[e];refine h.setR _ _ (h.rf.at hdl) a1 ⟨yBX (y2Y _ _) a2.1,λx hx=>a2.2 x (yVY.1 hx).1⟩ (λx hx=>a3 x (yVY.1 hx).1) a4
 ·exact h
theorem zrC (q:Rp) (r:Nat) (m:Nm):(drop q r m).fd=q.fd:=by unfold drop;split<;>rfl
theorem Rk.note {n:Nat} {q:Rp} (h:Rk n q) (k r i:Int):Rk n (q.note k r i):=h.of_v rfl (by unfold Rp.note;simp[h.rf.fl])
theorem zmA {n:Nat} (i:Nat) (all:List Nm) (hall:∀m∈all,zdm m.n) (s:Rp×List Nm) (k:Nat) (hk:k<all.length) (h:Rk n s.1) (hm:∀e∈s.2,e∈all):
  Rk n (nameStep i all s k).1/\(nameStep i all s k).1.fd.length<=s.1.fd.length+1/\(nameStep i all s k).2.length<=s.2.length+1/\∀e∈(nameStep i all s k).2,e∈all:=by
 have hin:=at_mem Nm.o all k hk;unfold nameStep;dsimp only;split
 ·rename_i h1
  have happ:∀e∈s.2++[at_ Nm.o all k],e∈all:=λe he=>by
   rcases yRX.1 he with he|he
   ·exact hm e he
   ·rw[yiX.1 he];exact hin
  split
  ·exact⟨h,by simp,by simp,happ⟩
  ·rename_i h2;have hr:=zff (zd3 h1);have hroom:=zdt h1 (by simpa using h2);have:=zqQ (at_ Nm.o all k).d.r;refine⟨(h.note 5 i s.2.length).enter ⟨hr.1,by rw[←h.rf.n];exact hr.2⟩ (hall _ hin) ?_,?_,by simp,happ⟩
   ·show(s.1.rc _).es.length<1000;omega
   ·show(s.1.note 5 i s.2.length).fd.length<=_;rw[zca];exact yhX _
 ·split
  ·exact⟨(h.note 4 i s.2.length).drop,by rw[zrC,zca];exact yhX _,by simp,hm⟩
  ·exact⟨h.note 4 i s.2.length,by rw[zca];exact yhX _,by simp,hm⟩
theorem zjG {n i:Nat} {all:List Nm} {q:Rp} (h:Rk n q) (hall:∀m∈all,zdm m.n):∀k,k<=all.length->Rk n (it (nameStep i all) (q,[]) k).1/\(it (nameStep i all) (q,[]) k).1.fd.length<=q.fd.length+k/\(it (nameStep i all) (q,[]) k).2.length<=k/\∀e∈(it (nameStep i all) (q,[]) k).2,e∈all
 |0,_=>⟨h,yhX _,yhX _,λe he=>by cases he⟩
 |k+1,hk=>by
  obtain⟨h1,h3,h4,h5⟩:=zjG (i:=i) (all:=all) h hall k zo;obtain⟨g1,g3,g4,g5⟩:=zmA i all hall (it (nameStep i all) (q,[]) k) k zo h1 h5;exact⟨g1,by show(nameStep i all _ k).1.fd.length<=_;omega,by show(nameStep i all _ k).2.length<=_;omega,g5⟩
theorem zlK {n i:Nat} {q:Rp} (h:Rk n q) (hi:i<n):Rk n (badNames1 q i)/\(badNames1 q i).fd.length<=q.fd.length+1000:=by
 obtain⟨a1,a2,a3,a4⟩:=h.at hi;obtain⟨g1,g3,g4,g5⟩:=zjG (i:=i) (all:=(at_ Rc.o q.v.rs i).ns) h a1.2 (at_ Rc.o q.v.rs i).ns.length (yhX _);unfold badNames1;dsimp only;rw[zae,zae];obtain⟨b1,b2,b3,b4⟩:=g1.at hi;exact⟨g1.setR i _ (g1.rf.at hi) ⟨yBX g4 a1.1,λm hm=>a1.2 m (g5 m hm)⟩ b2 b3 b4,yBX g3 (by have:=a1.1;omega)⟩
theorem zhG {n B:Nat} {p:Rp} (hB:B=1000) (h:Rk n p):∀j,j<=n-16->(λj q=>Rk n q/\q.fd.length<=p.fd.length+j*B) j (it (λq j=>if own (q.rc (16+j:Nat)) then badNames1 q (16+j) else q) p j):=
 zbo (I:=λj q=>Rk n q/\q.fd.length<=p.fd.length+j*B) (n:=n-16) (λs k hk ⟨h1,h2⟩=>by
  have hm:(k+1)*B=k*B+B:=by rw[yZX,yuZ]
  split
  ·obtain⟨g1,g2⟩:=zlK h1 (show 16+k<n by omega);exact⟨g1,zo⟩
  ·exact⟨h1,zo⟩) ⟨h,zo⟩
noncomputable def stN (b:Nat) (l:List Nm):AV:=match l with|[]=> .sc (.slice none 0 0)|_::l=> .so b 0 (l.length+1) 0
theorem zpS (b:Nat) (l:List Nm) (x:Nm):stN b (l++[x])= .so b 0 (l.length+1) 0:=by
 cases l with
 |nil=>rfl
 |cons y l=>show AV.so b 0 ((l++[x]).length+1) 0=_;simp
def stQ (a b c:AO) (l:List Nm):List AO:=match l with|[]=>[a,b,c]|y::l=>[a,b,c, .row ((y::l).flatMap aNm) 71 3]
theorem zpR (a b c:AO) (l:List Nm) (x:Nm):stQ a b c (l++[x])=[a,b,c, .row ((l++[x]).flatMap aNm) 71 3]:=by
 cases l with
 |nil=>rfl
 |cons y l=>rfl
theorem nm_len (l:List Nm):(l.flatMap aNm).length=0+l.length*3:=by rw[ynZ (sz:=3) (λ_=>rfl),ylX]
theorem zfq (l:List Nm):cont.contL (l.flatMap aNm)=true:=zay (λ_=>rfl) l
theorem zjN {h:T AO} {z:List Nat} {l:List Nm} {b n:Nat} {e:TypeId} {q:Nat} (hr:h.get b=some (.row (l.flatMap aNm) e q)) (hz:b∈z) (hn:n=l.length):Wz h z (LS 3 aNm Nm.o l) (.so b 0 n 0):=Wz.list (λ_=>rfl) (λ_=>rfl) hr hz hn rfl rfl
theorem zkk {h:T AO} {z:List Nat} {α:Type} {enc:α->List AV} {o:α} {l:List α} {sz k n:Nat} (hn:n=l.length-k):Wz h z (LS sz enc o (l.drop k)) (.lst sz n λj=>enc (at_ o l (k+j))):=by
 unfold Wz;refine⟨rfl,by simp[hn],λj hj=> ?_⟩;show enc (at_ o (l.drop k) j)=enc (at_ o l (k+j));unfold at_;rw[y8X]
noncomputable def rcN (A i:Nat) (x:Rc) (v:AV):List AV:=[bb x.u,ib x.q,ib x.k,ib x.b.r,ib x.b.q,ib x.ln,ib x.ds,v,seS false A i x,seE A i x]
theorem zjs {h:T AO} {z:List Nat} {A i:Nat} {ov:List (Nat×Nat)} {r:List Nat} {x:Rc} {ns:List Nm} {v:AV} (hi:i<96) (hp:∀p∈ov,2*i≠p.1/\2*i+1≠p.1) (hv:Wv h z (RD (RG A ov r)) (LS 3 aNm Nm.o ns) v):WL h z (RG A ov r) (rcP false 20 i {x with ns:=ns}) (rcN A i x v):=by
 unfold rcP rcN;have e1:∀A,seS false A i {x with ns:=ns}=seS false A i x:=λ_=>rfl;have e2:∀A,seE A i {x with ns:=ns}=seE A i x:=λ_=>rfl;rw[e1,e2];refine WL.sc rfl (WL.sc rfl (WL.sc rfl (WL.sc rfl (WL.sc rfl (WL.sc rfl (WL.sc rfl (ywX ⟨trivial,hv⟩ ?_)))))));exact ywX (zmc hi λp hq=>(hp p hq).1) (ywX (zmd hi λp hq=>(hp p hq).2) yMX)
end Ck
namespace Ck
def dig (c:UInt8):Prop:=48<=c.toNat/\c.toNat<=57
theorem zcj (n:Nat):dig (digit n)/\(digit n).toNat=48+n%10:=by
 have h:n%10<10:=Nat.mod_lt _ zo
 have e:(digit n).toNat=48+n%10:=by
  unfold digit;rw[y2Z];omega
 unfold dig;omega
theorem dec_lt {n:Nat} (h:n<10):dec n=[digit n]:=by
 unfold dec;rw[ygX h]
theorem ziR {n:Nat} (h:¬n<10):dec n=dec (n/10)++[digit n]:=by
 conv=>lhs;unfold dec
 rw[yfX h]
theorem zkn :∀(m n:Nat),n<=m->∀c∈dec n,dig c
 |0,n,h,c,hc=>by
  rw[dec_lt zo] at hc;rw[yiX.1 hc];exact(zcj n).1
 |m+1,n,h,c,hc=>by
  by_cases h1:n<10
  ·rw[dec_lt h1] at hc;rw[yiX.1 hc];exact(zcj n).1
  ·rw[ziR h1] at hc
   rcases yRX.1 hc with hc|hc
   ·exact zkn m (n/10) zo c hc
   ·rw[yiX.1 hc];exact(zcj n).1
def zx6 (l:List UInt8):Nat:=l.foldl (λa c=>a*10+(c.toNat-48)) 0
theorem zto (l:List UInt8) (c:UInt8):zx6 (l++[c])=zx6 l*10+(c.toNat-48):=by unfold zx6;rw[List.foldl_append];rfl
theorem zki :∀(m n:Nat),n<=m->zx6 (dec n)=n
 |0,n,h=>by
  rw[dec_lt zo];have:=(zcj n).2;show 0*10+((digit n).toNat-48)=n;omega
 |m+1,n,h=>by
  by_cases h1:n<10
  ·rw[dec_lt h1];have:=(zcj n).2;show 0*10+((digit n).toNat-48)=n;omega
  ·rw[ziR h1,zto,zki m (n/10) zo];have:=(zcj n).2;omega
theorem zvX {a b:Nat} (h:dec a=dec b):a=b:=by rw[←zki a a (yhX _),h,zki b b (yhX _)]
theorem zea :∀(d n:Nat),n<10^(d+1)->1<=(dec n).length/\(dec n).length<=d+1
 |0,n,h=>by rw[dec_lt zo];simp
 |d+1,n,h=>by
  by_cases h1:n<10
  ·rw[dec_lt h1];simp
  ·rw[ziR h1,yvX]
   have h2:n/10<10^(d+1):=by
    rw[Nat.div_lt_iff_lt_mul zo];have:10^(d+1+1)=10^(d+1)*10:=Nat.pow_succ ..;omega
   have:=zea d (n/10) h2;show 1<=(dec (n/10)).length+1/\(dec (n/10)).length+1<=d+1+1;omega
theorem zuL {c:UInt8} (h:dig c∨c=46):upB c=c:=by
 unfold upB
 rcases h with h|h
 ·rw[yfX (by unfold dig at h;omega)]
 ·rw[h];decide
theorem zxd {l:List UInt8} (h:∀c∈l,dig c∨c=46):l.map upB=l:=by
 induction l with
 |nil=>rfl
 |cons a l ih=>rw[List.map_cons,zuL (h a (by simp)),ih (λc hc=>h c (by simp[hc]))]
theorem zrF {c:UInt8} (h:dig c):zaQ c=true:=by
 have key:∀x:Fin 256,48<=x.1->x.1<=57->zaQ (UInt8.ofNat x.1)=true:=by decide+kernel
 have:=key ⟨c.toNat,c.toNat_lt⟩ h.1 h.2
 rwa [yCZ] at this
def zdk (r:Nat):Nat->List UInt8
 |0=>dec r
 |k+1=>dec r++[46]++dec (k+1)
theorem zb8 (r k:Nat):zad r k=found++zdk r k:=by
 cases k with
 |zero=>rfl
 |succ k=>show found++dec r++[46]++dec (k+1)=found++(dec r++[46]++dec (k+1));simp
theorem zlG (r k:Nat):∀c∈zdk r k,dig c∨c=46:=by
 intro c hc
 cases k with
 |zero=>exact .inl (zkn r r (yhX _) c hc)
 |succ k=>
  rcases yRX.1 hc with hc|hc
  ·rcases yRX.1 hc with hc|hc
   ·exact .inl (zkn r r (yhX _) c hc)
   ·exact .inr (yiX.1 hc)
  ·exact .inl (zkn (k+1) (k+1) (yhX _) c hc)
theorem zpf {r a b:Nat} (h:zdk r a=zdk r b):a=b:=by
 cases a with
 |zero=>
  cases b with
  |zero=>rfl
  |succ b=>have:=yqX List.length h;simp[zdk] at this
 |succ a=>
  cases b with
  |zero=>have:=yqX List.length h;simp[zdk] at this
  |succ b=>
   have h2:dec (a+1)=dec (b+1):=List.append_cancel_left h;exact zvX h2
theorem zoi (n:Nat):∃l c,dec n=l++[c]/\dig c:=by
 by_cases h:n<10
 ·exact⟨[],_,dec_lt h,(zcj n).1⟩
 ·exact⟨_,_,ziR h,(zcj n).1⟩
theorem zmX (r k:Nat):∃l c,zdk r k=l++[c]/\dig c:=by
 cases k with
 |zero=>exact zoi r
 |succ k=>
  obtain⟨l,c,h1,h2⟩:=zoi (k+1);exact⟨dec r++[46]++l,c,by show dec r++[46]++dec (k+1)=_;rw[h1];simp,h2⟩
theorem zgd {r k:Nat} (hr:r<100) (hk:k<10000):1<=(zdk r k).length/\(zdk r k).length<=7:=by
 have h1:=zea 1 r hr
 cases k with
 |zero=>show 1<=(dec r).length/\(dec r).length<=7;omega
 |succ k=>
  have h2:=zea 3 (k+1) hk;show 1<=(dec r++[46]++dec (k+1)).length/\(dec r++[46]++dec (k+1)).length<=7;simp only[yvX,yJZ];omega
theorem zkt {r k:Nat} (hr:r<100) (hk:k<10000):zau (zad r k)=0:=by
 obtain⟨h1,h2⟩:=zgd hr hk;obtain⟨l,c,h3,h4⟩:=zmX r k
 have hl:(zad r k).length=6+(zdk r k).length:=by rw[zb8,yvX];rfl
 have hlast:(zad r k).getLast? =some c:=by rw[zb8,h3,←yVX];simp
 have hleg:zdr (zad r k)=true:=by
  unfold zdr;rw[hlast]
  have hne:zad r k≠[]:=λe=>by rw[e] at hl;simp at hl;omega
  have hn2:zad r k≠[46,46]:=λe=>by rw[e] at hl;simp at hl;omega
  have hall:(zad r k).all zaQ=true:=by
   rw[zb8,List.all_append,ykX];refine⟨by decide,yNY.2 λx hx=> ?_⟩
   rcases zlG r k x hx with hx|hx
   ·exact zrF hx
   ·rw[hx];decide
  have hc1:c≠32:=λe=>by rw[e] at h4;exact absurd h4.1 (by decide)
  have hc2:c≠46:=λe=>by rw[e] at h4;exact absurd h4.1 (by decide)
  simp[hne,hn2,hall,hc1,hc2];omega
 unfold zau;rw[yfX zo,ygX hleg]
theorem ziY {r k:Nat} (hr:r<100) (hk:k<10000):fold (zad r k)=found.map upB++zdk r k:=by
 unfold fold;rw[ygX (zkt hr hk),zb8,yJY,zxd (zlG r k)]
theorem zpe {x:List UInt8} {r a b:Nat} (hr:r<100) (ha:a<10000) (hb:b<10000) (h1:same x (zad r a)=true) (h2:same x (zad r b)=true):a=b:=by
 unfold same at h1 h2;rw[yiY] at h1 h2;rw[h1,ziY hr ha,ziY hr hb] at h2;exact zpf (List.append_cancel_left h2)
theorem znD {α:Type} {P:Nat->α->Bool}:∀(l:List α) (J:List Nat),J.Nodup->(∀i∈J,l.any (P i)=true)->(∀x i j,i∈J->j∈J->P i x=true->P j x=true->i=j)->J.length<=l.length
 |[],J,_,h,_=>by
  cases J with
  |nil=>exact yhX _
  |cons i J=>have:=h i (by simp);simp at this
 |x::l,J,hn,h,hd=>by
  by_cases hx:∃i∈J,P i x=true
  ·obtain⟨i,hi,hp⟩:=hx;have h1:=znD (P:=P) l (J.erase i) (hn.erase i) (λj hj=> ?_) (λy a b ha hb=>hd y a b (List.mem_of_mem_erase ha) (List.mem_of_mem_erase hb))
   ·rw[List.length_erase_of_mem hi] at h1;have:0<J.length:=List.length_pos_of_mem hi;simp only[yGX];omega
   ·have hjJ:=List.mem_of_mem_erase hj
    have hji:j≠i:=λe=>by subst e;exact(List.Nodup.not_mem_erase hn) hj
    have:=h j hjJ;rw[List.any_cons,yXY] at this
    rcases this with h2|h2
    ·exact absurd (hd x j i hjJ hi h2 hp) hji
    ·exact h2
  ·have h1:=znD (P:=P) l J hn (λj hj=> ?_) hd
   ·simp only[yGX];omega
   ·have:=h j hj;rw[List.any_cons,yXY] at this
    rcases this with h2|h2
    ·exact absurd ⟨j,hj,h2⟩ hx
    ·exact h2
def zcX (es:List En) (r i:Nat):Bool:=es.any λx=>same x.n (zad r i)
theorem zi8 {es:List En} {r j:Nat} (hr:r<100) (hj:j<=9000) (h:∀i,i<j->zcX es r i=true):j<=es.length:=by
 have:=znD (P:=λi (x:En)=>same x.n (zad r i)) es (List.range j) List.nodup_range (λi hi=>h i (yBY.1 hi)) (λx a b ha hb h1 h2=>zpe hr (by have:=yBY.1 ha;omega) (by have:=yBY.1 hb;omega) h1 h2);simpa using this
theorem zeb {es:List En} {r:Nat}:∀(m k j:Nat),k<=j->j<k+m->(∀i,k<=i->i<j->zcX es r i=true)->zcX es r j=false->zbY es r k m=j
 |0,k,j,h1,h2,_,_=>zo
 |m+1,k,j,h1,h2,h3,h4=>by
  unfold zbY;by_cases hk:k=j
  ·subst hk;have hf:(es.any λx=>same x.n (zad r k))=false:=h4;rw[hf];rfl
  ·have ht:(es.any λx=>same x.n (zad r k))=true:=h3 k (yhX _) zo;rw[ht,ygX rfl,zeb m (k+1) j zo zo (λi hi hj=>h3 i zo hj) h4]
def EsL (L:Nat) (q:Rp):Prop:=∀x∈q.v.rs,x.es.length<=L
theorem EsL.at {L:Nat} {q:Rp} (h:EsL L q) (i:Nat):(at_ Rc.o q.v.rs i).es.length<=L:=zfK (P:=λx:Rc=>x.es.length<=L) (ymX _) h i
theorem EsL.setR {L:Nat} {q:Rp} (h:EsL L q) (i:Nat) (x:Rc) (hx:x.es.length<=L):EsL L (q.setR i x):=λy hy=>by
 rcases mem_set hy with hy|rfl
 ·exact h y hy
 ·exact hx
theorem EsL.mono {L M:Nat} {q:Rp} (h:EsL L q) (hm:L<=M):EsL M q:=λx hx=>yBX (h x hx) hm
theorem EsL.of_v {L:Nat} {q q':Rp} (h:EsL L q) (hv:q'.v=q.v):EsL L q':=λx hx=>h x (by rw[←hv];exact hx)
theorem EsL.enter {L:Nat} {q:Rp} (h:EsL L q) {d:Int} {nm:List UInt8} {r:Nat} (hl:(q.rc d).es.length<L):EsL L (enter q d nm r):=by
 unfold Ck.enter;exact h.setR _ _ (by simp;omega)
theorem EsL.enter1 {L:Nat} {q:Rp} (h:EsL L q) {d:Int} {nm:List UInt8} {r:Nat}:EsL (L+1) (Ck.enter q d nm r):=by
 have h1:(q.rc d).es.length<=L:=h.at d.toNat;exact(h.mono (Nat.le_succ L)).enter zo
theorem EsL.drop {L:Nat} {q:Rp} (h:EsL L q) {r:Nat} {m:Nm}:EsL L (drop q r m):=by
 unfold Ck.drop;split
 ·exact h.setR _ _ (yBX (y2Y _ _) (h.at m.d.r.toNat))
 ·exact h
theorem EsL.nameStep {i:Nat} {all:List Nm} {s:Rp×List Nm} {k:Nat} (h:EsL 700 s.1):EsL 700 (nameStep i all s k).1:=by
 unfold Ck.nameStep;dsimp only;split
 ·rename_i h1;split
  ·exact h
  ·rename_i h2;have hroom:=zdt h1 (by simpa using h2);have:=zqQ (at_ Nm.o all k).d.r;exact(h.of_v (q':=s.1.note 5 i s.2.length) rfl).enter (by show(s.1.rc _).es.length<700;omega)
 ·split
  ·exact(h.of_v (q':=s.1.note 4 i s.2.length) rfl).drop
  ·exact h.of_v rfl
theorem EsL.badNames1 {i:Nat} {q:Rp} (h:EsL 700 q):EsL 700 (badNames1 q i):=by
 have key:∀k,EsL 700 (it (Ck.nameStep i (q.rc i).ns) (q,[]) k).1:=λk=>by
  induction k with
  |zero=>exact h
  |succ k ih=>exact EsL.nameStep ih
 unfold Ck.badNames1;dsimp only;exact(key _).setR _ _ ((key _).at i)
theorem EsL.badNames {q:Rp} (h:EsL 700 q):EsL 700 (badNames q):=za4 (I:=EsL 700) (λs k hs=>by
 split
 ·exact hs.badNames1
 ·exact hs) h _
theorem zlI {es:List En} {r:Nat}:∀(m k:Nat),zbY es r k m<=k+m
 |0,k=>by show k<=k+0;omega
 |m+1,k=>by
  unfold zbY;split
  ·have:=zlI (es:=es) (r:=r) m (k+1);omega
  ·omega
theorem zlH {r k:Nat} (hr:r<100) (hk:k<10000):zdm (zad r k):=by
 have h1:=zgd hr hk;unfold zdm;rw[zb8,yvX];show 6+(zdk r k).length<=100000;omega
theorem Rk.bring {n:Nat} {q:Rp} (h:Rk n q) (hn:n<=96) {r:Nat} (hr:16<=r/\r<n) (hl:(at_ Rc.o q.v.rs 5).es.length<1000):Rk n (bring q r):=by
 unfold Ck.bring;dsimp only;have e5:q.rc 5=at_ Rc.o q.v.rs 5:=rfl;have hk:=zlI (es:=(q.rc 5).es) (r:=r) ((q.rc 5).es.length+1) 0;rw[e5] at hk;rw[e5,zae];obtain⟨a1,a2,a3,a4⟩:=h.at hr.2;have hnm:=zlH (r:=r) (k:=zbY (at_ Rc.o q.v.rs 5).es r 0 ((at_ Rc.o q.v.rs 5).es.length+1)) zo zo;have h1:=h.setR r {at_ Rc.o q.v.rs r with ns:=[⟨q.ref 5,zad r (zbY (at_ Rc.o q.v.rs 5).es r 0 ((at_ Rc.o q.v.rs 5).es.length+1))⟩]} (h.rf.at hr.2) ⟨by show 1<=1000;omega,λm hm=>by rw[yiX.1 hm];exact hnm⟩ a2 a3 a4;refine h1.enter ⟨zo,zo⟩ hnm ?_;show(at_ Rc.o (q.v.rs.set r _) 5).es.length<1000;rw[zap _ _ _ _ _ zo];exact hl
theorem EsL.bring {L:Nat} {q:Rp} (h:EsL L q) {r:Nat}:EsL (L+1) (bring q r):=by
 unfold Ck.bring;dsimp only;exact(h.setR r _ (by show(q.rc r).es.length<=L;rw[zae];exact h.at r)).enter1
theorem zoo (q:Rp) (r:Nat):(bring q r).fd=q.fd:=rfl
theorem zoO {n L:Nat} {q:Rp} (h:Rk n q) (hn:n<=96) {i:Nat} (hi:16<=i/\i<n) (hL:EsL L q) (hl:L<1000):Rk n (zaz q i)/\(zaz q i).fd.length<=q.fd.length+1/\EsL (L+1) (zaz q i):=by
 unfold zaz;split
 ·refine⟨(h.note 6 i 0).bring hn hi ?_,?_,(hL.of_v (q':=q.note 6 i 0) rfl).bring⟩
  ·show(at_ Rc.o q.v.rs 5).es.length<1000;have:=hL.at 5;omega
  ·rw[zoo,zca];exact yhX _
 ·exact⟨h,zo,hL.mono (Nat.le_succ L)⟩
theorem zeT {n L:Nat} {p:Rp} (h:Rk n p) (hn:n<=96) (hL:EsL L p) (hl:L+n<1000):∀j,j<=n-16->(λj q=>Rk n q/\q.fd.length<=p.fd.length+j/\EsL (L+j) q) j (it (λq j=>if own (q.rc (16+j:Nat)) then zaz q (16+j) else q) p j):=
 zbo (I:=λj q=>Rk n q/\q.fd.length<=p.fd.length+j/\EsL (L+j) q) (n:=n-16) (λs k hk ⟨h1,h2,h3⟩=>by
  split
  ·obtain⟨g1,g2,g3⟩:=zoO h1 hn (i:=16+k) zo h3 zo;exact⟨g1,zo,g3⟩
  ·exact⟨h1,zo,h3.mono zo⟩) ⟨h,zo,hL⟩
noncomputable def cycleR (p:Rp) (j:Nat):Rp:=
 if dir (p.rc (16+j:Nat))&& !zsI p.v (16+j) then
  bring (it (λq k=>drop q (16+j) (at_ Nm.o (p.rc (16+j:Nat)).ns k)) (p.note 7 (16+j:Nat) 0) (p.rc (16+j:Nat)).ns.length) (16+j)
 else p
noncomputable def cyclesR (p:Rp):Rp:=it cycleR p (p.v.rs.length-16)
def Kd (p q:Rp):Prop:=∀i,(at_ Rc.o q.v.rs i).u=(at_ Rc.o p.v.rs i).u/\(at_ Rc.o q.v.rs i).k=(at_ Rc.o p.v.rs i).k/\(at_ Rc.o q.v.rs i).q=(at_ Rc.o p.v.rs i).q
theorem Kd.refl (p:Rp):Kd p p:=λ_=>⟨rfl,rfl,rfl⟩
theorem Kd.trans {p q r:Rp} (h:Kd p q) (g:Kd q r):Kd p r:=λi=>⟨(g i).1.trans (h i).1,(g i).2.1.trans (h i).2.1,(g i).2.2.trans (h i).2.2⟩
theorem Kd.of_v {p q r:Rp} (h:Kd p q) (hv:r.v=q.v):Kd p r:=λi=>by rw[hv];exact h i
theorem Kd.setR {p q:Rp} (h:Kd p q) (i:Nat) (x:Rc) (hx:x.u=(at_ Rc.o q.v.rs i).u/\x.k=(at_ Rc.o q.v.rs i).k/\x.q=(at_ Rc.o q.v.rs i).q):Kd p (q.setR i x):=λj=>by
 show(at_ Rc.o (q.v.rs.set i x) j).u=_/\(at_ Rc.o (q.v.rs.set i x) j).k=_/\(at_ Rc.o (q.v.rs.set i x) j).q=_;rw[zb0];split
 ·rename_i hij;obtain⟨rfl,_⟩:=hij;exact⟨hx.1.trans (h i).1,hx.2.1.trans (h i).2.1,hx.2.2.trans (h i).2.2⟩
 ·exact h j
theorem Kd.drop {p q:Rp} (h:Kd p q) (r:Nat) (m:Nm):Kd p (drop q r m):=by
 unfold Ck.drop;split
 ·exact h.setR _ _ ⟨rfl,rfl,rfl⟩
 ·exact h
theorem Kd.enter {p q:Rp} (h:Kd p q) (d:Int) (nm:List UInt8) (r:Nat):Kd p (enter q d nm r):=h.setR _ _ ⟨rfl,rfl,rfl⟩
theorem Kd.bring {p q:Rp} (h:Kd p q) (r:Nat):Kd p (bring q r):=by
 unfold Ck.bring;dsimp only;exact(h.setR r _ (by rw[zae];exact⟨rfl,rfl,rfl⟩)).enter _ _ _
theorem Kd.dir {p q:Rp} (h:Kd p q) (i:Nat):dir (at_ Rc.o q.v.rs i)=dir (at_ Rc.o p.v.rs i):=by unfold Ck.dir;rw[(h i).1,(h i).2.1]
theorem zkj {n L:Nat} {q:Rp} (h:Rk n q) (hL:EsL L q) (r:Nat) (l:List Nm):∀k,Rk n (it (λq k=>drop q r (at_ Nm.o l k)) q k)/\(it (λq k=>drop q r (at_ Nm.o l k)) q k).fd=q.fd/\EsL L (it (λq k=>drop q r (at_ Nm.o l k)) q k)/\Kd q (it (λq k=>drop q r (at_ Nm.o l k)) q k)
 |0=>⟨h,rfl,hL,Kd.refl _⟩
 |k+1=>by
  obtain⟨h1,h2,h3,h4⟩:=zkj h hL r l k;exact⟨h1.drop,(zrC _ _ _).trans h2,h3.drop,h4.drop _ _⟩
theorem zrH {n L:Nat} {q:Rp} (h:Rk n q) (hn:n<=96) {j:Nat} (hj:16+j<n) (hL:EsL L q) (hl:L<1000):Rk n (cycleR q j)/\(cycleR q j).fd.length<=q.fd.length+1/\EsL (L+1) (cycleR q j)/\Kd q (cycleR q j):=by
 unfold cycleR;split
 ·obtain⟨h1,h2,h3,h4⟩:=zkj (h.note 7 (16+j:Nat) 0) (hL.of_v (q':=q.note 7 (16+j:Nat) 0) rfl) (16+j) (q.rc (16+j:Nat)).ns (q.rc (16+j:Nat)).ns.length;refine⟨h1.bring hn ⟨zo,hj⟩ (by have:=h3.at 5;omega),?_,h3.bring,((Kd.refl q).of_v (r:=q.note 7 (16+j:Nat) 0) rfl).trans (h4.bring _)⟩;rw[zoo,h2,zca];exact yhX _
 ·exact⟨h,zo,hL.mono (Nat.le_succ L),Kd.refl _⟩
theorem zez {n L:Nat} {p:Rp} (h:Rk n p) (hn:n<=96) (hL:EsL L p) (hl:L+n<1000):∀j,j<=n-16->Rk n (it cycleR p j)/\(it cycleR p j).fd.length<=p.fd.length+j/\EsL (L+j) (it cycleR p j)/\Kd p (it cycleR p j)
 |0,_=>⟨h,by show p.fd.length<=_;omega,hL,Kd.refl _⟩
 |j+1,hj=>by
  obtain⟨h1,h2,h3,h4⟩:=zez h hn hL hl j zo;obtain⟨g1,g2,g3,g4⟩:=zrH h1 hn (j:=j) zo h3 zo;exact⟨g1,by show(cycleR _ j).fd.length<=_;omega,g3,h4.trans g4⟩
theorem zbP :∀{l:List Int},first l=0->∀e∈l,e=0
 |[],_,e,he=>by cases he
 |a::l,h,e,he=>by
  unfold first at h
  by_cases h0:a=0
  ·rw[ygX h0] at h
   rcases yAX.1 he with rfl|h1
   ·exact h0
   ·exact zbP h e h1
  ·rw[yfX h0] at h;exact absurd h h0
structure Valid (v:Pt):Prop where
 c:64<=v.c/\v.c<=512
 lens:v.al.length<=24/\v.rs.length<=96/\v.ds.length<=64
 al:∀r∈v.al,0<=r.s/\r.s<=v.c-1/\1<=r.l/\r.s+r.l<=v.c
 root:5<v.rs.length/\(at_ Rc.o v.rs 5).u=true/\(at_ Rc.o v.rs 5).k=0
 rcs:∀i,i<v.rs.length->zbx i (at_ Rc.o v.rs i)=0
theorem Valid.of {v:Pt} (h:zbH v=0):Valid v:=by
 have h1:=zbP h;have hw:zbG v=0:=h1 _ (by simp[zbH]);have hr:za9 v=0:=h1 _ (by simp);have hc:zhl v=0:=h1 _ (by simp);have h2:=zbP hw;have a1:=h2 _ (yxY);have a2:=h2 _ (ycY _ yxY);have a3:=h2 _ (ycY _ (ycY _ yxY));refine⟨?_,?_,λr hr'=> ?_,?_,zd5 _ _ hc⟩
 ·split at a1
  ·rename_i h3;unfold wi at h3;simp only[ykX,yDX] at h3;exact h3
  ·omega
 ·split at a2
  ·omega
  ·rename_i h3;simp only[not_or,Nat.not_lt] at h3;exact h3
 ·obtain⟨i,hi,rfl⟩:=yTX hr';have:zb1 v.c (at_ Run.o v.al i)=0:=zd5 _ _ a3 i hi;rw[zaS _ _ _ hi] at this;unfold zb1 at this;split at this
  ·rename_i h3;unfold wi at h3;simp only[ykX,yDX] at h3;omega
  ·omega
 ·unfold za9 at hr;split at hr
  ·omega
  ·rename_i h3;simp only[not_or] at h3;exact⟨zo,by simpa using h3.2.1,by simpa using h3.2.2⟩
theorem zox {x:Rc} (h:zcZ x=0):∀s∈x.ss,s.r.length<=24/\∀r∈s.r,-1<=r.s/\r.s<=2147483647/\1<=r.l/\r.l<=512:=by
 intro s hs;obtain⟨i,hi,rfl⟩:=yTX hs;have:zcd (at_ Sm.o x.ss i)=0:=zd5 _ _ h i hi;rw[zaS _ _ _ hi] at this;unfold zcd at this;split at this
 ·omega
 ·rename_i h1;split at this
  ·rename_i h2;simp only[ykX,y1X,ySY] at h2;refine⟨zo,λr hr=> ?_⟩;have:=h2.1 r hr;unfold za1 wi at this;simp only[yXY,y1X,yLZ,yPY] at this;omega
  ·omega
theorem zc0 {i:Int} {x:Rc} (h:zbx i x=0):zd4 i x=0/\zdH x=0/\zcZ x=0/\zdg x=0:=by
 have:=zbP h;exact⟨this _ (by simp),this _ (by simp),this _ (by simp),this _ (by simp)⟩
def zuE (x:Rc):Prop:=x.ss.length<=1000/\∀y∈x.ss,y.r.length<=100000/\0<=y.z/\y.z<=100000000000/\∀r∈y.r,zm3 r
def Wh (p q:Rp):Prop:=q.v.c=p.v.c/\q.v.al=p.v.al/\q.v.ds=p.v.ds/\q.v.mp=p.v.mp
theorem Wh.refl (p:Rp):Wh p p:=⟨rfl,rfl,rfl,rfl⟩
theorem Wh.trans {p q r:Rp} (h:Wh p q) (g:Wh q r):Wh p r:=⟨g.1.trans h.1,g.2.1.trans h.2.1,g.2.2.1.trans h.2.2.1,g.2.2.2.trans h.2.2.2⟩
def Kp (p q:Rp):Prop:=Wh p q/\Kd p q/\(∀i,(at_ Rc.o q.v.rs i).ss=(at_ Rc.o p.v.rs i).ss)/\q.v.rs.length=p.v.rs.length
theorem Kp.refl (p:Rp):Kp p p:=⟨Wh.refl p,Kd.refl p,λ_=>rfl,rfl⟩
theorem Kp.trans {p q r:Rp} (h:Kp p q) (g:Kp q r):Kp p r:=⟨h.1.trans g.1,h.2.1.trans g.2.1,λi=>(g.2.2.1 i).trans (h.2.2.1 i),g.2.2.2.trans h.2.2.2⟩
theorem Kp.of_v {p q r:Rp} (h:Kp p q) (hv:r.v=q.v):Kp p r:=by
 unfold Kp Wh at h⊢;rw[hv];exact⟨h.1,h.2.1.of_v hv,h.2.2⟩
theorem Kp.setR {p q:Rp} (h:Kp p q) (i:Nat) (x:Rc) (hx:(x.u=(at_ Rc.o q.v.rs i).u/\x.k=(at_ Rc.o q.v.rs i).k/\x.q=(at_ Rc.o q.v.rs i).q)/\x.ss=(at_ Rc.o q.v.rs i).ss):Kp p (q.setR i x):=by
 refine⟨h.1,h.2.1.setR i x hx.1,λj=> ?_,by show(q.v.rs.set i x).length=_;rw[yoX];exact h.2.2.2⟩;show(at_ Rc.o (q.v.rs.set i x) j).ss=_;rw[zb0];split
 ·rename_i hij;obtain⟨rfl,_⟩:=hij;exact hx.2.trans (h.2.2.1 i)
 ·exact h.2.2.1 j
theorem Kp.drop {p q:Rp} (h:Kp p q) (r:Nat) (m:Nm):Kp p (drop q r m):=by
 unfold Ck.drop;split
 ·exact h.setR _ _ ⟨⟨rfl,rfl,rfl⟩,rfl⟩
 ·exact h
theorem Kp.enter {p q:Rp} (h:Kp p q) (d:Int) (nm:List UInt8) (r:Nat):Kp p (enter q d nm r):=h.setR _ _ ⟨⟨rfl,rfl,rfl⟩,rfl⟩
theorem Kp.bring {p q:Rp} (h:Kp p q) (r:Nat):Kp p (bring q r):=by
 unfold Ck.bring;dsimp only;exact(h.setR r _ (by rw[zae];exact⟨⟨rfl,rfl,rfl⟩,rfl⟩)).enter _ _ _
theorem Kp.it {S:Type} {g:S->Rp} {f:S->Nat->S} (hf:∀s k,Kp (g s) (g (f s k))) (s:S):∀k,Kp (g s) (g (it f s k))
 |0=>Kp.refl _
 |k+1=>(Kp.it hf s k).trans (hf _ k)
theorem Kp.entryStep {p:Rp} (i:Nat) (es:List En) (s:Rp×List En) (k:Nat) (h:Kp p s.1):Kp p (entryStep i es s k).1:=by
 unfold Ck.entryStep;dsimp only;split
 ·exact h
 ·split
  ·exact h.of_v rfl
  ·exact h.of_v rfl
theorem Kp.badEntries (p:Rp):Kp p (badEntries p):=Kp.it (g:=id) (λq i=>by
 show Kp q (zaa q i);unfold zaa;split
 ·have h:=Kp.it (g:=Prod.fst) (λs k=>Kp.entryStep i (q.rc i).es s k (Kp.refl _)) (q,[]) (q.rc i).es.length;dsimp only;exact h.setR i _ (by rw[zae];exact⟨⟨rfl,rfl,rfl⟩,rfl⟩)
 ·exact Kp.refl q) p _
theorem Kp.nameStep {p:Rp} (i:Nat) (all:List Nm) (s:Rp×List Nm) (k:Nat) (h:Kp p s.1):Kp p (nameStep i all s k).1:=by
 unfold Ck.nameStep;dsimp only;split
 ·split
  ·exact h
  ·exact(h.of_v (r:=s.1.note 5 i s.2.length) rfl).enter _ _ _
 ·split
  ·exact(h.of_v (r:=s.1.note 4 i s.2.length) rfl).drop _ _
  ·exact h.of_v rfl
theorem Kp.badNames1 (q:Rp) (i:Nat):Kp q (badNames1 q i):=by
 unfold Ck.badNames1;have h:=Kp.it (g:=Prod.fst) (λs k=>Kp.nameStep i (q.rc i).ns s k (Kp.refl _)) (q,[]) (q.rc i).ns.length;dsimp only;exact h.setR i _ (by rw[zae];exact⟨⟨rfl,rfl,rfl⟩,rfl⟩)
theorem Kp.below {f:Rp->Nat->Rp} (hf:∀q i,Kp q (f q i)) (p:Rp):Kp p (below f p):=Kp.it (g:=id) (λq j=>by
 show Kp q (if own (q.rc (16+j:Nat)) then f q (16+j) else q);split
 ·exact hf _ _
 ·exact Kp.refl q) p _
theorem Kp.badNames (p:Rp):Kp p (badNames p):=Kp.below Kp.badNames1 p
theorem Kp.orphans (p:Rp):Kp p (orphans p):=Kp.below (λq i=>by
 unfold zaz;split
 ·exact((Kp.refl q).of_v (r:=q.note 6 i 0) rfl).bring i
 ·exact Kp.refl q) p
theorem Kp.cyclesR (p:Rp):Kp p (cyclesR p):=Kp.it (g:=id) (λq j=>by
 show Kp q (cycleR q j);unfold cycleR;split
 ·have h:=Kp.it (g:=id) (λ(s:Rp) k=>show Kp s (Ck.drop s (16+j) (at_ Nm.o (q.rc (16+j:Nat)).ns k)) from(Kp.refl s).drop _ _) (q.note 7 (16+j:Nat) 0) (q.rc (16+j:Nat)).ns.length;exact(((Kp.refl q).of_v (r:=q.note 7 (16+j:Nat) 0) rfl).trans h).bring _
 ·exact Kp.refl q) p _
theorem Kp.links (p:Rp):Kp p (links p):=Kp.below (λq i=>by
 unfold zb2;split
 ·exact((Kp.refl q).of_v (r:=q.note 8 i 0) rfl).setR i _ (by rw[zae];exact⟨⟨rfl,rfl,rfl⟩,rfl⟩)
 ·exact Kp.refl q) p
theorem Kp.sizes (p:Rp):Kp p (sizes p):=Kp.it (g:=id) (λq i=>by
 show Kp q (zai q i);unfold zai;split
 ·exact Kp.it (g:=id) (λ(s:Rp) k=>by
   show Kp s (zak i s k);unfold zak;dsimp only;split
   ·exact((Kp.refl s).of_v (r:=s.note 9 i k) rfl).setR i _ (by rw[zae];exact⟨⟨rfl,rfl,rfl⟩,rfl⟩)
   ·exact Kp.refl s) q _
 ·exact Kp.refl q) p _
theorem Kp.descriptors (p:Rp):Kp p (descriptors p):=Kp.it (g:=id) (λq i=>by
 show Kp q (zas q i);unfold zas;dsimp only;split
 ·exact((Kp.refl q).of_v (r:=q.note 2 i 0) rfl).setR i _ (by rw[zae];exact⟨⟨rfl,rfl,rfl⟩,rfl⟩)
 ·exact Kp.refl q) p _
theorem zjQ {P:Rc->Prop} (hz:∀q,P {Rc.o with q:=q}) {p:Rp} (h:∀x∈p.v.rs,P x):∀k,∀x∈(it zar p k).v.rs,P x:=
 za4 (I:=λq:Rp=>∀x∈q.v.rs,P x) (λs k hs=>by
  unfold zar;dsimp only;split
  ·intro x hx
   rcases mem_set hx with hx|rfl
   ·exact hs x hx
   ·exact hz _
  ·exact hs) h
theorem zvz (p:Rp):∀k,Wh p (it zar p k):=za4 (I:=λq:Rp=>Wh p q) (λs k hs=>by
  unfold zar;dsimp only;split
  ·exact hs
  ·exact hs) (Wh.refl p)
theorem zvA (p:Rp) (j:Nat) (hk:(at_ Rc.o p.v.rs j).k≠3):∀k,at_ Rc.o (it zar p k).v.rs j=at_ Rc.o p.v.rs j:=za4 (I:=λq:Rp=>at_ Rc.o q.v.rs j=at_ Rc.o p.v.rs j) (λs k hs=>by
  unfold zar;dsimp only;split
  ·rename_i h;simp only[zae,ykX,yiY] at h;show at_ Rc.o (s.v.rs.set k _) j=_;rw[zap _ _ _ _ _ (λe=>by subst e;rw[hs] at h;exact hk h.1.2)];exact hs
  ·exact hs) rfl
theorem znp {P:Rc->Prop} (hz:∀x ss,P x->P {x with ss:=ss}) {s:Rp×List Bool} (h:∀x∈s.1.v.rs,P x) (ho:P Rc.o):∀k,∀x∈(it zac s k).1.v.rs,P x:=
 za4 (I:=λq:Rp×List Bool=>∀x∈q.1.v.rs,P x) (λs k hs=>by
  unfold zac;split
  ·exact za4 (I:=λq:Rp×List Bool=>∀x∈q.1.v.rs,P x) (λw m hw=>by
    unfold zaq;dsimp only;split
    ·exact hw
    ·intro x hx
     rcases mem_set hx with hx|rfl
     ·exact hw x hx
     ·exact hz _ _ (zfK (P:=P) ho hw k)) hs _
  ·exact hs) h
theorem zu8 (s:Rp×List Bool):∀k,Wh s.1 (it zac s k).1/\Kd s.1 (it zac s k).1/\(it zac s k).1.v.rs.length=s.1.v.rs.length:=
 za4 (I:=λq:Rp×List Bool=>Wh s.1 q.1/\Kd s.1 q.1/\q.1.v.rs.length=s.1.v.rs.length) (λt k ht=>by
  unfold zac;split
  ·exact za4 (I:=λq:Rp×List Bool=>Wh s.1 q.1/\Kd s.1 q.1/\q.1.v.rs.length=s.1.v.rs.length) (λw m hw=>by
    unfold zaq;dsimp only;split
    ·exact hw
    ·exact⟨hw.1,(hw.2.1.of_v (r:=w.1.note 1 k m) rfl).setR k _ (by rw[zae];exact⟨rfl,rfl,rfl⟩),by show(w.1.v.rs.set _ _).length=_;rw[yoX];exact hw.2.2⟩) ht _
  ·exact ht) ⟨Wh.refl _,Kd.refl _,rfl⟩
theorem zkm {P:Rc->Prop} (hz:∀x d,P x->P {x with ds:=d}) {p:Rp} (h:∀x∈p.v.rs,P x) (ho:P Rc.o):∀k,∀x∈(it zas p k).v.rs,P x:=
 za4 (I:=λq:Rp=>∀x∈q.v.rs,P x) (λs k hs=>by
  unfold zas;dsimp only;split
  ·intro x hx
   rcases mem_set hx with hx|rfl
   ·exact hs x hx
   ·rw[zae];exact hz _ _ (zfK (P:=P) ho hs k)
  ·exact hs) h
theorem ztc {P:Rc->Prop} (hz:∀x l,P x->P {x with ln:=l}) {p:Rp} (h:∀x∈p.v.rs,P x) (ho:P Rc.o):∀x∈(links p).v.rs,P x:=
 za4 (I:=λq:Rp=>∀x∈q.v.rs,P x) (λs k hs=>by
  split
  ·unfold zb2;split
   ·intro x hx
    rcases mem_set hx with hx|rfl
    ·exact hs x hx
    ·rw[zae];exact hz _ _ (zfK (P:=P) ho hs _)
   ·exact hs
  ·exact hs) h _
theorem EsL.badEntries {L:Nat} {p:Rp} (h:EsL L p) (hl:p.fl.length=p.fd.length):EsL L (badEntries p):=
 (za4 (I:=λq:Rp=>EsL L q/\q.fl.length=q.fd.length) (λq i ⟨h1,h2⟩=>by
  unfold zaa;split
  ·obtain⟨g1,g2,g3,g4,g5⟩:=zey (i:=i) (es:=(q.rc i).es) h2 (q.rc i).es.length (yhX _);dsimp only;exact⟨(h1.of_v g1).setR i _ (yBX g4 (by rw[zae];exact h1.at i)),g2⟩
  ·exact⟨h1,h2⟩) ⟨h,hl⟩ _).1
noncomputable def zao (v:Pt):Rp:=bits (sizes (links (cyclesR (orphans (badNames (badEntries (descriptors (badRuns (zax ⟨v,[],[]⟩)))))))))
structure Ready (v:Pt):Prop where
 n:5<v.rs.length/\v.rs.length<=96
 c:0<=v.c/\v.c<=100000
 al:zwm v/\v.al.length<=100000
 ds:0<v.ds.length/\v.ds.length<=100000
 mp:v.mp.length=((v.c+7)/8).toNat
 q:∀x∈v.rs,1<=x.q/\x.q<=65535
 ns:∀x∈v.rs,x.ns.length<=1000/\∀m∈x.ns,zdm m.n
 es:∀x∈v.rs,x.es.length<=700/\∀e∈x.es,zdm e.n/\0<=e.f.r
 ss:∀x∈v.rs,zuE x
 root:dir (at_ Rc.o v.rs 5)=true
structure Passes (v:Pt) (n:Nat) (p1 p2 p3 p4 p5 p6 p7 p8 p9:Rp):Prop where
 f0:Rf n ⟨v,[],[]⟩
 f1:Rb n v.c.toNat (p1,taken p1.v)/\p1.fd.length<=96
 w1:p1.v.c=v.c/\p1.v.al=v.al
 f2:Rf n p2/\p2.fd.length<=96096
 w2:p2.v.ds=v.ds
 f3:Rk n p3/\p3.fd.length<=96192
 f4:Rk n p4/\p4.fd.length<=192192
 f5:Rk n p5/\p5.fd.length<=288192/\EsL 700 p5
 f6:Rk n p6/\p6.fd.length<=288288/\EsL 780 p6/\dir (at_ Rc.o p6.v.rs 5)=true
 f7:Rk n p7/\p7.fd.length<=288384
 f8:Rg n p8/\p8.fd.length<=288480
 f9:Rf n p9/\p9.fd.length<=384480
 w9:p9.v.c=v.c/\p9.v.al=v.al/\p9.v.mp=v.mp/\p9.v.ds=v.ds
 s9:∀x∈p9.v.rs,zuE x
theorem zdG {v:Pt} (h:Ready v):Passes v v.rs.length (zax ⟨v,[],[]⟩) (badRuns (zax ⟨v,[],[]⟩)) (descriptors (badRuns (zax ⟨v,[],[]⟩))) (badEntries (descriptors (badRuns (zax ⟨v,[],[]⟩)))) (badNames (badEntries (descriptors (badRuns (zax ⟨v,[],[]⟩)))))
  (orphans (badNames (badEntries (descriptors (badRuns (zax ⟨v,[],[]⟩)))))) (cyclesR (orphans (badNames (badEntries (descriptors (badRuns (zax ⟨v,[],[]⟩))))))) (links (cyclesR (orphans (badNames (badEntries (descriptors (badRuns (zax ⟨v,[],[]⟩))))))))
  (sizes (links (cyclesR (orphans (badNames (badEntries (descriptors (badRuns (zax ⟨v,[],[]⟩))))))))):=by
 obtain⟨n,hn⟩:∃n,v.rs.length=n:=⟨_,rfl⟩
 have h5:=h.n.1;have h96:=h.n.2;rw[hn] at h5 h96⊢
 have f0:Rf n ⟨v,[],[]⟩:=⟨hn,rfl,h.q⟩
 have e1:zax ⟨v,[],[]⟩=it zar ⟨v,[],[]⟩ n:=by unfold zax;rw[←hn]
 obtain⟨a1,a2,_⟩:=zjP f0 n (yhX _);have aw:=zvz ⟨v,[],[]⟩ n;have as1:=zjQ (P:=zuE) (λ_=>⟨ymX _,λ_ h=>(by cases h)⟩) (p:=⟨v,[],[]⟩) h.ss n;have an1:=zjQ (P:=λx:Rc=>x.ns.length<=1000/\∀m∈x.ns,zdm m.n) (λ_=>⟨ymX _,λ_ h=>(by cases h)⟩) (p:=⟨v,[],[]⟩) h.ns n;have ae1:=zjQ (P:=λx:Rc=>x.es.length<=700/\∀e∈x.es,zdm e.n/\0<=e.f.r) (λ_=>⟨ymX _,λ_ h=>(by cases h)⟩) (p:=⟨v,[],[]⟩) h.es n
 have hk5:(at_ Rc.o v.rs 5).k≠3:=by
  have:=h.root;unfold dir at this;simp only[ykX,yiY] at this;omega
 have ar1:=zvA ⟨v,[],[]⟩ 5 hk5 n;rw[←e1] at a1 a2 aw as1 an1 ae1 ar1
 generalize zax ⟨v,[],[]⟩=p1 at*
 clear e1
 have hdr1:dir (at_ Rc.o p1.v.rs 5)=true:=by rw[ar1];exact h.root
 have hfd1:p1.fd.length<=96:=by
  have:p1.fd.length<=0+n:=a2;omega
 have f1:Rb n v.c.toNat (p1,taken p1.v):=⟨a1,by show(taken p1.v).length=_;unfold taken;rw[zlv,yKZ,aw.1],as1⟩
 have e2:badRuns p1=(it zac (p1,taken p1.v) n).1:=by unfold badRuns;rw[a1.n]
 obtain⟨b1,b2⟩:=zgO (B:=1000) rfl f1 n (yhX _);have bs2:∀x∈(it zac (p1,taken p1.v) n).1.v.rs,zuE x:=b1.ss;have bn2:=znp (P:=λx:Rc=>x.ns.length<=1000/\∀m∈x.ns,zdm m.n) (λ_ _ h=>h) (s:=(p1,taken p1.v)) an1 ⟨ymX _,λ_ h=>(by cases h)⟩ n;have be2:=znp (P:=λx:Rc=>x.es.length<=700/\∀e∈x.es,zdm e.n/\0<=e.f.r) (λ_ _ h=>h) (s:=(p1,taken p1.v)) ae1 ⟨ymX _,λ_ h=>(by cases h)⟩ n;obtain⟨bw,bk,_⟩:=zu8 (p1,taken p1.v) n;have b3:=b1.rf;rw[←e2] at b2 b3 bs2 bn2 be2 bw bk;clear b1
 generalize badRuns p1=p2 at*
 clear e2;have bw:Wh p1 p2:=bw;have bk:Kd p1 p2:=bk
 have hfd2:p2.fd.length<=96096:=by
  have:p2.fd.length<=p1.fd.length+n*1000:=b2;omega
 have e3:descriptors p2=it zas p2 n:=by unfold descriptors;rw[b3.n]
 obtain⟨c1,c2,_⟩:=zkl b3 n (yhX _);have cs:=zkm (P:=zuE) (λ_ _ h=>h) (p:=p2) bs2 ⟨ymX _,λ_ h=>(by cases h)⟩ n;have cn:=zkm (P:=λx:Rc=>x.ns.length<=1000/\∀m∈x.ns,zdm m.n) (λ_ _ h=>h) (p:=p2) bn2 ⟨ymX _,λ_ h=>(by cases h)⟩ n;have ce:=zkm (P:=λx:Rc=>x.es.length<=700/\∀e∈x.es,zdm e.n/\0<=e.f.r) (λ_ _ h=>h) (p:=p2) be2 ⟨ymX _,λ_ h=>(by cases h)⟩ n;have cp:=Kp.descriptors p2;rw[←e3] at c1 c2 cs cn ce
 generalize descriptors p2=p3 at*
 clear e3
 have f3:Rk n p3:=⟨c1,⟨by rw[c1.n];exact h96,cn,λx hx=>⟨yBX (ce x hx).1 zo,λe he=>((ce x hx).2 e he).1⟩⟩,λx hx e he=>((ce x hx).2 e he).2,λx hx=>yBX (cs x hx).1 zo⟩
 have hE3:EsL 700 p3:=λx hx=>(ce x hx).1;have hfd3:p3.fd.length<=96192:=zo
 have e4:badEntries p3=it zaa p3 n:=by unfold badEntries;rw[c1.n]
 obtain⟨d1,d2⟩:=zdy (B:=1000) rfl f3 n (yhX _);have hE4:=hE3.badEntries f3.rf.fl;have dp:=cp.trans (Kp.badEntries p3);rw[←e4] at d1 d2
 generalize badEntries p3=p4 at*
 clear e4;have hfd4:p4.fd.length<=192192:=zo;obtain⟨g1,g2⟩:=zhG (B:=1000) rfl d1 (n-16) (yhX _)
 have e5:badNames p4=it (λq j=>if own (q.rc (16+j:Nat)) then badNames1 q (16+j) else q) p4 (n-16):=by unfold badNames below;rw[d1.rf.n]
 have hE5:=hE4.badNames;have gp:=dp.trans (Kp.badNames p4);rw[←e5] at g1 g2
 generalize badNames p4=p5 at*
 clear e5
 have hfd5:p5.fd.length<=288192:=by
  have:(n-16)*1000<=96*1000:=yEX _ zo;omega
 obtain⟨i1,i2,i3⟩:=zeT g1 h96 hE5 zo (n-16) (yhX _)
 have e6:orphans p5=it (λq j=>if own (q.rc (16+j:Nat)) then zaz q (16+j) else q) p5 (n-16):=by unfold orphans below;rw[g1.rf.n]
 have ip:=gp.trans (Kp.orphans p5);rw[←e6] at i1 i2 i3
 generalize orphans p5=p6 at*
 clear e6;have hfd6:p6.fd.length<=288288:=zo;have hE6:EsL 780 p6:=i3.mono zo
 have hdr6:dir (at_ Rc.o p6.v.rs 5)=true:=by rw[(bk.trans ip.2.1).dir];exact hdr1
 obtain⟨j1,j2,j3,_⟩:=zez i1 h96 hE6 zo (n-16) (yhX _)
 have e7:cyclesR p6=it cycleR p6 (n-16):=by unfold cyclesR;rw[i1.rf.n]
 have jp:=ip.trans (Kp.cyclesR p6);rw[←e7] at j1 j2 j3
 generalize cyclesR p6=p7 at*
 clear e7;have hfd7:p7.fd.length<=288384:=zo;have hns7:NsOk p7:=λx hx=>yBX (j1.na.ns x hx).1 zo;obtain⟨k1,k2,k3⟩:=zjS j1.rf hns7 (n-16) (yhX _)
 have e8:links p7=it (λq j=>if own (q.rc (16+j:Nat)) then zb2 q (16+j) else q) p7 (n-16):=by unfold links below;rw[j1.rf.n]
 have kse:=ztc (P:=λx:Rc=>x.ss.length<=100000/\x.es.length<=1000) (λ_ _ h=>h) (p:=p7) (λx hx=>⟨j1.ss x hx,(j1.na.es x hx).1⟩) ⟨ymX _,ymX _⟩;have kp:=jp.trans (Kp.links p7);rw[←e8] at k1 k2 k3
 generalize links p7=p8 at*
 clear e8;have hfd8:p8.fd.length<=288480:=zo
 have f8:Rg n p8:=⟨k1,kse⟩
 have e9:sizes p8=it zai p8 n:=by unfold sizes;rw[k1.n]
 obtain⟨l1,l2⟩:=ze8 (B:=1000) rfl f8 n (yhX _);have lp:=kp.trans (Kp.sizes p8);rw[←e9] at l1 l2
 generalize sizes p8=p9 at*
 clear e9;have hfd9:p9.fd.length<=384480:=zo
 have hs9:∀x∈p9.v.rs,zuE x:=λx hx=>by
  obtain⟨i,hi,rfl⟩:=yTX hx;have hss:=lp.2.2.1 i;rw[zaS Rc.o _ _ hi] at hss;unfold zuE;rw[hss];exact zfK (P:=zuE) ⟨ymX _,λ_ h=>(by cases h)⟩ bs2 i
 have hw:=(aw.trans bw).trans lp.1;exact⟨f0,⟨f1,hfd1⟩,⟨aw.1,aw.2.1⟩,⟨b3,hfd2⟩,bw.2.2.1.trans aw.2.2.1,⟨f3,hfd3⟩,⟨d1,hfd4⟩,⟨g1,hfd5,hE5⟩,⟨i1,hfd6,hE6,hdr6⟩,⟨j1,hfd7⟩,⟨f8,hfd8⟩,⟨l1.rf,hfd9⟩,⟨hw.1,hw.2.1,hw.2.2.2,hw.2.2.1⟩,hs9⟩
end Ck
abbrev ybY:=@Ck.Kp.refl
namespace Ck
open Go Go.Ex
def aB (b:Bool):List AV:=[bb b]
inductive Sh
 |init
 |mt0
 |op (pre:List Int)
def qv :Sh->List Int->AV
 | .init,_=> .sl 2 0 1 1
 | .mt0,_=> .sl 2 0 0 0
 | .op pre,Q=> .so 2 pre.length Q.length pre.length
def qr :Sh->List Int->AO
 | .init,_=> .row [ib 5] 3 0
 | .mt0,_=> .row [ib 5] 3 0
 | .op pre,Q=> .row ((pre++Q).map ib) 3 1
def okS :Sh->List Int->Prop
 | .init,Q=>Q=[5]
 | .mt0,Q=>Q=[]
 | .op _,_=>True
def okI :Sh->List Int->Prop
 | .init,_=>False
 | .mt0,Q=>Q=[]
 | .op _,_=>True
theorem zrP :∀n,cntF (List.replicate n false)=n
 |0=>rfl
 |n+1=>by rw[yTY];simp only[cntF];rw[zrP n];simp;omega
end Ck
namespace Go.Proofs.YtgcjejajljhnaaaGreatDoor
open Go.Ex Ck
set_option maxRecDepth 100000
set_option maxHeartbeats 4000000
theorem zcl (v:Pt) (r:Ref) (hn:v.rs.length<=100000) (h:Ck.right v r=true):PureC Tryz.prog 101 [zbF v, .agg (ze1 r)] (.tup [zpy (at_ Rc.o v.rs r.r.toNat),bb true]):=by
 have:=zmg v r hn
 have hw:wi r.r 0 (v.rs.length-1)=true:=by unfold Ck.right at h;simp only[ykX] at h;exact h.1.1
 rw[h,ygX hw] at this;exact this
theorem zjn (v:Pt) (r:Ref) (hn:v.rs.length<=100000) (h:Ck.right v r=false):PureC Tryz.prog 101 [zbF v, .agg (ze1 r)] (.tup [zpy (rx v r),bb false]):=by
 have:=zmg v r hn;rw[h] at this;exact this
set_option maxHeartbeats 400000
theorem zbe {n:Nat} {f:Nat->List AV} (h:n=0):(List.range n).flatMap f=[]:=by subst h;rfl
theorem zaK {s s':St} {b off:Nat} {cs:List AV} (h:cs=[]) (h2:zcH s b off []= .ok s'):zcH s b off cs= .ok s':=by subst h;exact h2
theorem zbL {α:Type} {enc:α->List AV} (he:∀x,cont.contL (enc x)=true) (l:List α):cont.contL (l.flatMap enc)=true:=zay he l
set_option maxHeartbeats 4000000
theorem ziv (v:Pt) (i:Int) (hn:v.rs.length<=100000):PureC Tryz.prog 73 [zbF v,ib i] (bb (wi i 0 (v.rs.length-1)&&Ck.own (Ck.rc v i))):=by
 refine ytX zal rfl ?_;cases h:wi i 0 (v.rs.length-1)
 ·(conv=>whnf);repeat(first|refine Ex.g ?_|refine yaX (za5 _ _ _) ?_);conv=>whnf
  (refine .z [] ?_;conv=>whnf);(repeat'(exact rfl))<;>(try(conv=>whnf))
 ·have h2:0<=i/\i<v.rs.length:=by simp[wi] at h;omega
  unfold Ck.own;cases hu:(Ck.rc v i).u
  ·have hu':(at_ Rc.o v.rs i.toNat).u=false:=hu
   (conv=>whnf);repeat(first|refine Ex.g ?_|refine yaX (za5 _ _ _) ?_);conv=>whnf
   (refine .z [] ?_;conv=>whnf);(repeat'(exact rfl))<;>(try(conv=>whnf))
  ·have hu':(at_ Rc.o v.rs i.toNat).u=true:=hu
   (conv=>whnf);repeat(first|refine Ex.g ?_|refine yaX (za5 _ _ _) ?_);conv=>whnf
   (refine .z [] ?_;conv=>whnf);(repeat'(exact rfl))<;>(try(conv=>whnf))
theorem zbr (l:List Run) (hl:l.length<=100000):PureC Tryz.prog 48 [LS 2 zaP Run.o l] (LS 2 zaP Run.o l):=by
 refine ytX zal rfl ?_;by_cases h0:l.length=0
 ·obtain rfl:l=[]:=yeX h0
  (conv=>whnf);repeat((refine Ex.g ?_;conv=>whnf))
  refine .z [0] ?_;exact yzZ rfl (by simp) rfl (yhX _) (λi hi=>absurd hi (ypX _)) rfl (λi hi=>absurd hi (ypX _))
 ·have hb:Nat.ble (0+l.length) 0=false:=by cases h:Nat.ble (0+l.length) 0 with|false=>rfl|true=>have:=ynX h;omega
  (conv=>whnf);repeat(first|refine Ex.g ?_|refine Need.mk (λ_ _=>rfl) ?_);conv=>whnf
  refine .z [1] ?_;exact Wz.list (λ_=>rfl) (λ_=>rfl) rfl (by simp) (ylX _) (by exact zaA zaP Run.o l)
theorem zi3 (l:List Int) (hl:l.length<=100000):PureC Tryz.prog 49 [LS 1 aI 0 l] (LS 1 aI 0 l):=by
 refine ytX zal rfl ?_;by_cases h0:l.length=0
 ·obtain rfl:l=[]:=yeX h0
  (conv=>whnf);repeat((refine Ex.g ?_;conv=>whnf))
  refine .z [0] ?_;exact yzZ rfl (by simp) rfl (yhX _) (λi hi=>absurd hi (ypX _)) rfl (λi hi=>absurd hi (ypX _))
 ·have hb:Nat.ble (0+l.length) 0=false:=by cases h:Nat.ble (0+l.length) 0 with|false=>rfl|true=>have:=ynX h;omega
  (conv=>whnf);repeat(first|refine Ex.g ?_|refine Need.mk (λ_ _=>rfl) ?_);conv=>whnf
  refine .z [1] ?_;exact Wz.list (λ_=>rfl) (λ_=>rfl) rfl (by simp) (ylX _) (by exact zaA aI 0 l)
structure Fit' (v:Pt):Prop where
 al:v.al.length<=100000
 rs:v.rs.length<=100000
 ds:v.ds.length<=100000
 ns:∀x∈v.rs,x.ns.length<=100000
 ss:∀x∈v.rs,x.ss.length<=100000
 es:∀x∈v.rs,x.es.length<=100000
 rr:∀x∈v.rs,∀y∈x.ss,y.r.length<=100000
theorem zos (v:Pt) (hf:Fit' v):PureC Tryz.prog 13 [zbF v] (zbF v):=by
 refine ytX zal rfl ?_;have h1:=hf.al;have h2:=hf.rs;have h3:=hf.ds
 (conv=>whnf);repeat(first|refine yaX (zbr v.al hf.al) ?_|refine yaX (zi3 v.ds hf.ds) ?_);conv=>whnf
 refine yFX zal (D:=Nat) (λd=>v.rs.length-d) (λd=>d<=v.rs.length)
  (λd=>zag [(1, .ptr 0 0),(2, .ptr 1 0),(3, .ptr 2 0),(4,ib d)] 79)
  (λd=>zan (match d with
   |0=>[.row (aPt v) 26 0, .row [ib 0, .sc (.slice none 0 0), .sc (.slice none 0 0), .sc (.slice none 0 0),tb []] 26 0, .row [ib v.c,LS 2 zaP Run.o v.al, .sc (.slice none 0 0),LS 1 aI 0 v.ds,tb v.mp] 26 0]
   |k+1=>[.row (aPt v) 26 0, .row [ib 0, .sc (.slice none 0 0), .sc (.slice none 0 0), .sc (.slice none 0 0),tb []] 26 0, .row [ib v.c,LS 2 zaP Run.o v.al, .so 3 0 (k+1) 0,LS 1 aI 0 v.ds,tb v.mp] 26 0, .row ((v.rs.take (k+1)).flatMap aRc) 66 10])) 0 (ymX _) ?_ ?_
 ·exact Ex.wO [0,1,2] []
 ·intro d hd
  cases d with
   |zero=>
    conv=>whnf
    refine yPX (λh=> ?_) (λh=> ?_)
    ·have hlt:0<v.rs.length:=zo;have hm:(at_ Rc.o v.rs 0)∈v.rs:=at_mem Rc.o v.rs 0 hlt;have h4:=hf.ns _ hm;have h5:=hf.es _ hm;have h6:=hf.ss _ hm;have e0:(↑(0:Nat):Int).toNat=0:=rfl;by_cases hn:(at_ Rc.o v.rs 0).ns.length=0<;>by_cases he:(at_ Rc.o v.rs 0).es.length=0;have hb:(at_ Rc.o v.rs 0).ns=[]:=yeX hn
     have hc:Nat.ble (0+(at_ Rc.o v.rs 0).ns.length) 0=true:=by rw[hb];rfl
     have hb2:(at_ Rc.o v.rs 0).es=[]:=yeX he
     have hc2:Nat.ble (0+(at_ Rc.o v.rs 0).es.length) 0=true:=by rw[hb2];rfl
     (conv=>whnf);repeat(first|refine Ex.g ?_|refine RK.of (zaK (zbe hn) rfl) ?_|refine RK.of (zaK (zbe he) rfl) ?_);conv=>whnf
     rotate_left
     have hb:(at_ Rc.o v.rs 0).ns=[]:=yeX hn
     have hc:Nat.ble (0+(at_ Rc.o v.rs 0).ns.length) 0=true:=by rw[hb];rfl
     have hb2:Nat.ble (0+(at_ Rc.o v.rs 0).es.length) 0=false:=by cases h:Nat.ble (0+(at_ Rc.o v.rs 0).es.length) 0 with|false=>rfl|true=>have:=ynX h;omega
     (conv=>whnf);repeat(first|refine Ex.g ?_|refine Need.mk (λ_ _=>rfl) ?_|refine RK.of (zaK (zbe hn) rfl) ?_);conv=>whnf
     rotate_left
     have hb:Nat.ble (0+(at_ Rc.o v.rs 0).ns.length) 0=false:=by cases h:Nat.ble (0+(at_ Rc.o v.rs 0).ns.length) 0 with|false=>rfl|true=>have:=ynX h;omega
     have hb2:(at_ Rc.o v.rs 0).es=[]:=yeX he
     have hc2:Nat.ble (0+(at_ Rc.o v.rs 0).es.length) 0=true:=by rw[hb2];rfl
     (conv=>whnf);repeat(first|refine Ex.g ?_|refine Need.mk (λ_ _=>rfl) ?_|refine RK.of (zaK (zbe he) rfl) ?_);conv=>whnf
     rotate_left
     have hb:Nat.ble (0+(at_ Rc.o v.rs 0).ns.length) 0=false:=by cases h:Nat.ble (0+(at_ Rc.o v.rs 0).ns.length) 0 with|false=>rfl|true=>have:=ynX h;omega
     have hb2:Nat.ble (0+(at_ Rc.o v.rs 0).es.length) 0=false:=by cases h:Nat.ble (0+(at_ Rc.o v.rs 0).es.length) 0 with|false=>rfl|true=>have:=ynX h;omega
     (conv=>whnf);repeat(first|refine Ex.g ?_|refine Need.mk (λ_ _=>rfl) ?_);conv=>whnf
     rotate_left
     all_goals
      refine yFX zal (D:=Nat) (λm=>(at_ Rc.o v.rs 0).ss.length-m) (λm=>m<=(at_ Rc.o v.rs 0).ss.length)
       (λm=>zag [(1, .ptr 0 0),(2, .ptr 1 0),(3, .ptr 2 0),(4,ib (0:Nat)),(5, .ptr 3 0),(6,ib m)] 79)
       (λm=>zan (match m with
        |0=>[.row (aPt v) 26 0, .row [ib 0, .sc (.slice none 0 0), .sc (.slice none 0 0), .sc (.slice none 0 0),tb []] 26 0, .row [ib v.c,LS 2 zaP Run.o v.al, .sc (.slice none 0 0),LS 1 aI 0 v.ds,tb v.mp] 26 0, .row [bb (at_ Rc.o v.rs 0).u,ib (at_ Rc.o v.rs 0).q,ib (at_ Rc.o v.rs 0).k,ib (at_ Rc.o v.rs 0).b.r,ib (at_ Rc.o v.rs 0).b.q,ib (at_ Rc.o v.rs 0).ln,ib (at_ Rc.o v.rs 0).ds,LS 3 aNm Nm.o (at_ Rc.o v.rs 0).ns, .sc (.slice none 0 0),LS 4 aEn En.o (at_ Rc.o v.rs 0).es] 66 0]
        |m+1=>[.row (aPt v) 26 0, .row [ib 0, .sc (.slice none 0 0), .sc (.slice none 0 0), .sc (.slice none 0 0),tb []] 26 0, .row [ib v.c,LS 2 zaP Run.o v.al, .sc (.slice none 0 0),LS 1 aI 0 v.ds,tb v.mp] 26 0, .row [bb (at_ Rc.o v.rs 0).u,ib (at_ Rc.o v.rs 0).q,ib (at_ Rc.o v.rs 0).k,ib (at_ Rc.o v.rs 0).b.r,ib (at_ Rc.o v.rs 0).b.q,ib (at_ Rc.o v.rs 0).ln,ib (at_ Rc.o v.rs 0).ds,LS 3 aNm Nm.o (at_ Rc.o v.rs 0).ns, .so 4 0 (m+1) 0,LS 4 aEn En.o (at_ Rc.o v.rs 0).es] 66 0, .row (((at_ Rc.o v.rs 0).ss.take (m+1)).flatMap aSm) 80 2])) 0 (ymX _) ?_ ?_
     ·refine yLY [0,1,2,3] [4,5] rfl rfl ?_ ?_
      ·(repeat' first|exact zT|refine zA ?_ ?_)<;>(first|exact rfl|(first|exact Or.inr ⟨rfl,rfl⟩|(refine Or.inl ⟨rfl,?_⟩;(repeat' first|exact zT|exact(by first|exact Wv.mt hb (ylX _) rfl (by simp)|exact Wv.mt hb2 (ylX _) rfl (by simp))|exact rfl|refine zA ?_ ?_)<;>(try(conv=>whnf)))))
      ·(repeat' first|exact zT|exact rfl|refine zA ?_ ?_)<;>(try(conv=>whnf))
     rotate_left
     ·refine yLY [0,1,2,3] [4,6] rfl rfl ?_ ?_
      ·(repeat' first|exact zT|refine zA ?_ ?_)<;>(first|exact rfl|(first|exact Or.inr ⟨rfl,rfl⟩|(refine Or.inl ⟨rfl,?_⟩;(repeat' first|exact zT|exact(by first|exact yjZ (λ_=>rfl) (λ_=>rfl) rfl (by simp) (ylX _) (zaA _ _ _)|exact Wv.mt hb (ylX _) rfl (by simp))|exact rfl|refine zA ?_ ?_)<;>(try(conv=>whnf)))))
      ·(repeat' first|exact zT|exact rfl|refine zA ?_ ?_)<;>(try(conv=>whnf))
     rotate_left
     ·refine yLY [0,1,2,3] [5,6] rfl rfl ?_ ?_
      ·(repeat' first|exact zT|refine zA ?_ ?_)<;>(first|exact rfl|(first|exact Or.inr ⟨rfl,rfl⟩|(refine Or.inl ⟨rfl,?_⟩;(repeat' first|exact zT|exact(by first|exact yjZ (λ_=>rfl) (λ_=>rfl) rfl (by simp) (ylX _) (zaA _ _ _)|exact Wv.mt hb2 (ylX _) rfl (by simp))|exact rfl|refine zA ?_ ?_)<;>(try(conv=>whnf)))))
      ·(repeat' first|exact zT|exact rfl|refine zA ?_ ?_)<;>(try(conv=>whnf))
     rotate_left
     ·refine yLY [0,1,2,3] [5,7] rfl rfl ?_ ?_
      ·(repeat' first|exact zT|refine zA ?_ ?_)<;>(first|exact rfl|(first|exact Or.inr ⟨rfl,rfl⟩|(refine Or.inl ⟨rfl,?_⟩;(repeat' first|exact zT|exact(by(exact yjZ (λ_=>rfl) (λ_=>rfl) rfl (by simp) (ylX _) (zaA _ _ _)))|exact rfl|refine zA ?_ ?_)<;>(try(conv=>whnf)))))
      ·(repeat' first|exact zT|exact rfl|refine zA ?_ ?_)<;>(try(conv=>whnf))
     rotate_left
     all_goals
      clear hn he hb hb2;intro m hm2
      cases m with
      |zero=>
       (conv=>whnf);repeat((refine Ex.g ?_;conv=>whnf))
       refine yPX (λhm3=> ?_) (λhm3=> ?_)
       ·have hm4:0<(at_ Rc.o v.rs 0).ss.length:=by simp only[yrX] at hm3;omega
        have h7:=hf.rr _ hm _ (at_mem Sm.o _ 0 hm4)
        (conv=>whnf);repeat(first|refine Ex.g ?_|refine yxX (zbr _ h7) ?_);conv=>whnf
        refine⟨1,zo,by dsimp only;omega,?_⟩;refine yLY [0,1,2,3,6] [] rfl rfl ?_ ?_
        ·(repeat' first|exact zT|refine zA ?_ ?_)<;>(first|exact rfl|exact WRow.snoc (l:=[]) (x:=aSm (at_ Sm.o (at_ Rc.o v.rs 0).ss 0)) (zcG aSm Sm.o (at_ Rc.o v.rs 0).ss 0 hm4) rfl rfl (zbj rfl)|(first|exact Or.inr ⟨rfl,rfl⟩|(refine Or.inl ⟨rfl,?_⟩;(repeat' first|exact zT|exact rfl|refine zA ?_ ?_)<;>(try(conv=>whnf))<;>((intro _ _;rfl)))))
        ·(repeat' first|exact zT|exact rfl|refine zA ?_ ?_)<;>(try(conv=>whnf))
       ·have hm4:0=(at_ Rc.o v.rs 0).ss.length:=by simp only[yrX] at hm3;omega
        (conv=>whnf);repeat((refine Ex.g ?_;conv=>whnf))
        refine⟨1,hlt,by dsimp only;omega,?_⟩;refine yLY [0,1,2,5] [] rfl rfl ?_ ?_
        ·(repeat' first|exact zT|refine zA ?_ ?_)<;>(first|exact rfl|exact WRow.snoc (l:=[]) (x:=aRc (at_ Rc.o v.rs 0)) (zcG aRc Rc.o v.rs 0 hlt) rfl rfl (by(repeat' first|exact zT|exact zdD rfl|exact Wv.nil (yeX hm4.symm)|refine zA ?_ ?_))|(first|exact Or.inr ⟨rfl,rfl⟩|(refine Or.inl ⟨rfl,?_⟩;(repeat' first|exact zT|exact rfl|refine zA ?_ ?_)<;>(try(conv=>whnf))<;>((intro _ _;rfl)))))
        ·(repeat' first|exact zT|exact rfl|refine zA ?_ ?_)<;>(try(conv=>whnf))
      |succ m=>
       (conv=>whnf);repeat((refine Ex.g ?_;conv=>whnf))
       refine yPX (λhm3=> ?_) (λhm3=> ?_)
       ·have hm4:(m+1)<(at_ Rc.o v.rs 0).ss.length:=by simp only[yrX] at hm3;omega
        have h7:=hf.rr _ hm _ (at_mem Sm.o _ (m+1) hm4)
        (conv=>whnf);repeat(first|refine Ex.g ?_|refine yxX (zbr _ h7) ?_|refine Need.mk ?_ ?_;exact Ex.take_len (enc:=aSm) (sz:=2) (λ_=>rfl) hm2);conv=>whnf
        refine⟨m+2,zo,by dsimp only;omega,?_⟩;refine yLY [0,1,2,3,7] [] rfl rfl ?_ ?_
        ·(repeat' first|exact zT|refine zA ?_ ?_)<;>(first|exact rfl|exact WRow.snoc (x:=aSm (at_ Sm.o (at_ Rc.o v.rs 0).ss (m+1))) (zcG aSm Sm.o (at_ Rc.o v.rs 0).ss (m+1) hm4) (zbL (λ_=>rfl) _) rfl (zbj rfl)|(first|exact Or.inr ⟨rfl,rfl⟩|(refine Or.inl ⟨rfl,?_⟩;(repeat' first|exact zT|exact rfl|refine zA ?_ ?_)<;>(try(conv=>whnf))<;>((intro _ _;rfl)))))
        ·(repeat' first|exact zT|exact rfl|refine zA ?_ ?_)<;>(try(conv=>whnf))
       ·have hm4:(m+1)=(at_ Rc.o v.rs 0).ss.length:=by simp only[yrX] at hm3;omega
        (conv=>whnf);repeat((refine Ex.g ?_;conv=>whnf))
        refine⟨1,hlt,by dsimp only;omega,?_⟩;refine yLY [0,1,2,6] [4] rfl rfl ?_ ?_
        ·(repeat' first|exact zT|refine zA ?_ ?_)<;>(first|exact rfl|exact WRow.snoc (l:=[]) (x:=aRc (at_ Rc.o v.rs 0)) (zcG aRc Rc.o v.rs 0 hlt) rfl rfl (by(repeat' first|exact zT|exact zdD rfl|exact yjZ (λ_=>rfl) (λ_=>rfl) rfl (by simp) hm4 (by rw[hm4,yCY])|refine zA ?_ ?_))|(first|exact Or.inr ⟨rfl,rfl⟩|(refine Or.inl ⟨rfl,?_⟩;(repeat' first|exact zT|exact rfl|refine zA ?_ ?_)<;>(try(conv=>whnf))<;>((intro _ _;rfl)))))
        ·(repeat' first|exact zT|exact rfl|refine zA ?_ ?_)<;>(try(conv=>whnf))
    ·have hk:0=v.rs.length:=zo;refine Ex.go ?_;refine .z [] ?_
     conv=>whnf
     refine⟨⟨rfl,rfl⟩,ydX rfl,?_,ydX rfl,rfl,zT⟩;exact Wz.nil (yeX hk.symm)
   |succ k=>
    conv=>whnf
    refine yPX (λh=> ?_) (λh=> ?_)
    ·have hlt:(k+1)<v.rs.length:=zo;have hm:(at_ Rc.o v.rs (k+1))∈v.rs:=at_mem Rc.o v.rs (k+1) hlt;have h4:=hf.ns _ hm;have h5:=hf.es _ hm;have h6:=hf.ss _ hm;have e0:(↑(k+1):Int).toNat=(k+1):=rfl;by_cases hn:(at_ Rc.o v.rs (k+1)).ns.length=0<;>by_cases he:(at_ Rc.o v.rs (k+1)).es.length=0;have hb:(at_ Rc.o v.rs (k+1)).ns=[]:=yeX hn
     have hc:Nat.ble (0+(at_ Rc.o v.rs (k+1)).ns.length) 0=true:=by rw[hb];rfl
     have hb2:(at_ Rc.o v.rs (k+1)).es=[]:=yeX he
     have hc2:Nat.ble (0+(at_ Rc.o v.rs (k+1)).es.length) 0=true:=by rw[hb2];rfl
     (conv=>whnf);repeat(first|refine Ex.g ?_|refine RK.of (zaK (zbe hn) rfl) ?_|refine RK.of (zaK (zbe he) rfl) ?_);conv=>whnf
     rotate_left
     have hb:(at_ Rc.o v.rs (k+1)).ns=[]:=yeX hn
     have hc:Nat.ble (0+(at_ Rc.o v.rs (k+1)).ns.length) 0=true:=by rw[hb];rfl
     have hb2:Nat.ble (0+(at_ Rc.o v.rs (k+1)).es.length) 0=false:=by cases h:Nat.ble (0+(at_ Rc.o v.rs (k+1)).es.length) 0 with|false=>rfl|true=>have:=ynX h;omega
     (conv=>whnf);repeat(first|refine Ex.g ?_|refine Need.mk (λ_ _=>rfl) ?_|refine RK.of (zaK (zbe hn) rfl) ?_);conv=>whnf
     rotate_left
     have hb:Nat.ble (0+(at_ Rc.o v.rs (k+1)).ns.length) 0=false:=by cases h:Nat.ble (0+(at_ Rc.o v.rs (k+1)).ns.length) 0 with|false=>rfl|true=>have:=ynX h;omega
     have hb2:(at_ Rc.o v.rs (k+1)).es=[]:=yeX he
     have hc2:Nat.ble (0+(at_ Rc.o v.rs (k+1)).es.length) 0=true:=by rw[hb2];rfl
     (conv=>whnf);repeat(first|refine Ex.g ?_|refine Need.mk (λ_ _=>rfl) ?_|refine RK.of (zaK (zbe he) rfl) ?_);conv=>whnf
     rotate_left
     have hb:Nat.ble (0+(at_ Rc.o v.rs (k+1)).ns.length) 0=false:=by cases h:Nat.ble (0+(at_ Rc.o v.rs (k+1)).ns.length) 0 with|false=>rfl|true=>have:=ynX h;omega
     have hb2:Nat.ble (0+(at_ Rc.o v.rs (k+1)).es.length) 0=false:=by cases h:Nat.ble (0+(at_ Rc.o v.rs (k+1)).es.length) 0 with|false=>rfl|true=>have:=ynX h;omega
     (conv=>whnf);repeat(first|refine Ex.g ?_|refine Need.mk (λ_ _=>rfl) ?_);conv=>whnf
     rotate_left
     all_goals
      refine yFX zal (D:=Nat) (λm=>(at_ Rc.o v.rs (k+1)).ss.length-m) (λm=>m<=(at_ Rc.o v.rs (k+1)).ss.length)
       (λm=>zag [(1, .ptr 0 0),(2, .ptr 1 0),(3, .ptr 2 0),(4,ib (k+1:Nat)),(5, .ptr 4 0),(6,ib m)] 79)
       (λm=>zan (match m with
        |0=>[.row (aPt v) 26 0, .row [ib 0, .sc (.slice none 0 0), .sc (.slice none 0 0), .sc (.slice none 0 0),tb []] 26 0, .row [ib v.c,LS 2 zaP Run.o v.al, .so 3 0 (k+1) 0,LS 1 aI 0 v.ds,tb v.mp] 26 0, .row ((v.rs.take (k+1)).flatMap aRc) 66 10, .row [bb (at_ Rc.o v.rs (k+1)).u,ib (at_ Rc.o v.rs (k+1)).q,ib (at_ Rc.o v.rs (k+1)).k,ib (at_ Rc.o v.rs (k+1)).b.r,ib (at_ Rc.o v.rs (k+1)).b.q,ib (at_ Rc.o v.rs (k+1)).ln,ib (at_ Rc.o v.rs (k+1)).ds,LS 3 aNm Nm.o (at_ Rc.o v.rs (k+1)).ns, .sc (.slice none 0 0),LS 4 aEn En.o (at_ Rc.o v.rs (k+1)).es] 66 0]
        |m+1=>[.row (aPt v) 26 0, .row [ib 0, .sc (.slice none 0 0), .sc (.slice none 0 0), .sc (.slice none 0 0),tb []] 26 0, .row [ib v.c,LS 2 zaP Run.o v.al, .so 3 0 (k+1) 0,LS 1 aI 0 v.ds,tb v.mp] 26 0, .row ((v.rs.take (k+1)).flatMap aRc) 66 10, .row [bb (at_ Rc.o v.rs (k+1)).u,ib (at_ Rc.o v.rs (k+1)).q,ib (at_ Rc.o v.rs (k+1)).k,ib (at_ Rc.o v.rs (k+1)).b.r,ib (at_ Rc.o v.rs (k+1)).b.q,ib (at_ Rc.o v.rs (k+1)).ln,ib (at_ Rc.o v.rs (k+1)).ds,LS 3 aNm Nm.o (at_ Rc.o v.rs (k+1)).ns, .so 5 0 (m+1) 0,LS 4 aEn En.o (at_ Rc.o v.rs (k+1)).es] 66 0, .row (((at_ Rc.o v.rs (k+1)).ss.take (m+1)).flatMap aSm) 80 2])) 0 (ymX _) ?_ ?_
     ·refine yLY [0,1,2,3,4] [5,6] rfl rfl ?_ ?_
      ·(repeat' first|exact zT|refine zA ?_ ?_)<;>(first|exact rfl|(first|exact Or.inr ⟨rfl,rfl⟩|exact Or.inr ⟨rfl,zay (λ_=>rfl) _⟩|(refine Or.inl ⟨rfl,?_⟩;(repeat' first|exact zT|exact(by first|exact Wv.mt hb (ylX _) rfl (by simp)|exact Wv.mt hb2 (ylX _) rfl (by simp))|exact rfl|refine zA ?_ ?_)<;>(try(conv=>whnf))<;>((intro _ _;rfl)))))
      ·(repeat' first|exact zT|exact rfl|refine zA ?_ ?_)<;>(try(conv=>whnf))
     rotate_left
     ·refine yLY [0,1,2,3,4] [5,7] rfl rfl ?_ ?_
      ·(repeat' first|exact zT|refine zA ?_ ?_)<;>(first|exact rfl|(first|exact Or.inr ⟨rfl,rfl⟩|exact Or.inr ⟨rfl,zay (λ_=>rfl) _⟩|(refine Or.inl ⟨rfl,?_⟩;(repeat' first|exact zT|exact(by first|exact yjZ (λ_=>rfl) (λ_=>rfl) rfl (by simp) (ylX _) (zaA _ _ _)|exact Wv.mt hb (ylX _) rfl (by simp))|exact rfl|refine zA ?_ ?_)<;>(try(conv=>whnf))<;>((intro _ _;rfl)))))
      ·(repeat' first|exact zT|exact rfl|refine zA ?_ ?_)<;>(try(conv=>whnf))
     rotate_left
     ·refine yLY [0,1,2,3,4] [6,7] rfl rfl ?_ ?_
      ·(repeat' first|exact zT|refine zA ?_ ?_)<;>(first|exact rfl|(first|exact Or.inr ⟨rfl,rfl⟩|exact Or.inr ⟨rfl,zay (λ_=>rfl) _⟩|(refine Or.inl ⟨rfl,?_⟩;(repeat' first|exact zT|exact(by first|exact yjZ (λ_=>rfl) (λ_=>rfl) rfl (by simp) (ylX _) (zaA _ _ _)|exact Wv.mt hb2 (ylX _) rfl (by simp))|exact rfl|refine zA ?_ ?_)<;>(try(conv=>whnf))<;>((intro _ _;rfl)))))
      ·(repeat' first|exact zT|exact rfl|refine zA ?_ ?_)<;>(try(conv=>whnf))
     rotate_left
     ·refine yLY [0,1,2,3,4] [6,8] rfl rfl ?_ ?_
      ·(repeat' first|exact zT|refine zA ?_ ?_)<;>(first|exact rfl|(first|exact Or.inr ⟨rfl,rfl⟩|exact Or.inr ⟨rfl,zay (λ_=>rfl) _⟩|(refine Or.inl ⟨rfl,?_⟩;(repeat' first|exact zT|exact(by(exact yjZ (λ_=>rfl) (λ_=>rfl) rfl (by simp) (ylX _) (zaA _ _ _)))|exact rfl|refine zA ?_ ?_)<;>(try(conv=>whnf))<;>((intro _ _;rfl)))))
      ·(repeat' first|exact zT|exact rfl|refine zA ?_ ?_)<;>(try(conv=>whnf))
     rotate_left
     all_goals
      clear hn he hb hb2;intro m hm2
      cases m with
      |zero=>
       (conv=>whnf);repeat((refine Ex.g ?_;conv=>whnf))
       refine yPX (λhm3=> ?_) (λhm3=> ?_)
       ·have hm4:0<(at_ Rc.o v.rs (k+1)).ss.length:=by simp only[yrX] at hm3;omega
        have h7:=hf.rr _ hm _ (at_mem Sm.o _ 0 hm4)
        (conv=>whnf);repeat(first|refine Ex.g ?_|refine yxX (zbr _ h7) ?_);conv=>whnf
        refine⟨1,zo,by dsimp only;omega,?_⟩;refine yLY [0,1,2,3,4,7] [] rfl rfl ?_ ?_
        ·(repeat' first|exact zT|refine zA ?_ ?_)<;>(first|exact rfl|exact WRow.snoc (l:=[]) (x:=aSm (at_ Sm.o (at_ Rc.o v.rs (k+1)).ss 0)) (zcG aSm Sm.o (at_ Rc.o v.rs (k+1)).ss 0 hm4) rfl rfl (zbj rfl)|exact Or.inr ⟨rfl,zbL (λ_=>rfl) _⟩|(first|exact Or.inr ⟨rfl,rfl⟩|(refine Or.inl ⟨rfl,?_⟩;(repeat' first|exact zT|exact rfl|refine zA ?_ ?_)<;>(try(conv=>whnf))<;>((intro _ _;rfl)))))
        ·(repeat' first|exact zT|exact rfl|refine zA ?_ ?_)<;>(try(conv=>whnf))
       ·have hm4:0=(at_ Rc.o v.rs (k+1)).ss.length:=by simp only[yrX] at hm3;omega
        (conv=>whnf);repeat(first|refine Ex.g ?_|refine Need.mk ?_ ?_;exact Ex.take_len (enc:=aRc) (sz:=10) (λ_=>rfl) hd);conv=>whnf
        refine⟨k+2,hlt,by dsimp only;omega,?_⟩;refine yLY [0,1,2,6] [] rfl rfl ?_ ?_
        ·(repeat' first|exact zT|refine zA ?_ ?_)<;>(first|exact rfl|exact WRow.snoc (x:=aRc (at_ Rc.o v.rs (k+1))) (zcG aRc Rc.o v.rs (k+1) hlt) (zbL (λ_=>rfl) _) rfl (by(repeat' first|exact zT|exact zdD rfl|exact Wv.nil (yeX hm4.symm)|refine zA ?_ ?_))|(first|exact Or.inr ⟨rfl,rfl⟩|(refine Or.inl ⟨rfl,?_⟩;(repeat' first|exact zT|exact rfl|refine zA ?_ ?_)<;>(try(conv=>whnf))<;>((intro _ _;rfl)))))
        ·(repeat' first|exact zT|exact rfl|refine zA ?_ ?_)<;>(try(conv=>whnf))
      |succ m=>
       (conv=>whnf);repeat((refine Ex.g ?_;conv=>whnf))
       refine yPX (λhm3=> ?_) (λhm3=> ?_)
       ·have hm4:(m+1)<(at_ Rc.o v.rs (k+1)).ss.length:=by simp only[yrX] at hm3;omega
        have h7:=hf.rr _ hm _ (at_mem Sm.o _ (m+1) hm4)
        (conv=>whnf);repeat(first|refine Ex.g ?_|refine yxX (zbr _ h7) ?_|refine Need.mk ?_ ?_;exact Ex.take_len (enc:=aSm) (sz:=2) (λ_=>rfl) hm2);conv=>whnf
        refine⟨m+2,zo,by dsimp only;omega,?_⟩;refine yLY [0,1,2,3,4,8] [] rfl rfl ?_ ?_
        ·(repeat' first|exact zT|refine zA ?_ ?_)<;>(first|exact rfl|exact WRow.snoc (x:=aSm (at_ Sm.o (at_ Rc.o v.rs (k+1)).ss (m+1))) (zcG aSm Sm.o (at_ Rc.o v.rs (k+1)).ss (m+1) hm4) (zbL (λ_=>rfl) _) rfl (zbj rfl)|exact Or.inr ⟨rfl,zbL (λ_=>rfl) _⟩|(first|exact Or.inr ⟨rfl,rfl⟩|(refine Or.inl ⟨rfl,?_⟩;(repeat' first|exact zT|exact rfl|refine zA ?_ ?_)<;>(try(conv=>whnf))<;>((intro _ _;rfl)))))
        ·(repeat' first|exact zT|exact rfl|refine zA ?_ ?_)<;>(try(conv=>whnf))
       ·have hm4:(m+1)=(at_ Rc.o v.rs (k+1)).ss.length:=by simp only[yrX] at hm3;omega
        (conv=>whnf);repeat(first|refine Ex.g ?_|refine Need.mk ?_ ?_;exact Ex.take_len (enc:=aRc) (sz:=10) (λ_=>rfl) hd);conv=>whnf
        refine⟨k+2,hlt,by dsimp only;omega,?_⟩;refine yLY [0,1,2,7] [5] rfl rfl ?_ ?_
        ·(repeat' first|exact zT|refine zA ?_ ?_)<;>(first|exact rfl|exact WRow.snoc (x:=aRc (at_ Rc.o v.rs (k+1))) (zcG aRc Rc.o v.rs (k+1) hlt) (zbL (λ_=>rfl) _) rfl (by(repeat' first|exact zT|exact zdD rfl|exact yjZ (λ_=>rfl) (λ_=>rfl) rfl (by simp) hm4 (by rw[hm4,yCY])|refine zA ?_ ?_))|(first|exact Or.inr ⟨rfl,rfl⟩|(refine Or.inl ⟨rfl,?_⟩;(repeat' first|exact zT|exact rfl|refine zA ?_ ?_)<;>(try(conv=>whnf))<;>((intro _ _;rfl)))))
        ·(repeat' first|exact zT|exact rfl|refine zA ?_ ?_)<;>(try(conv=>whnf))
    ·have hk:(k+1)=v.rs.length:=zo;refine Ex.go ?_;refine .z [3] ?_
     conv=>whnf
     refine⟨⟨rfl,rfl⟩,ydX rfl,?_,ydX rfl,rfl,zT⟩;exact Wz.list (λ_=>rfl) (λ_=>rfl) rfl (by simp) hk (by rw[hk,yCY])
theorem zsM (v:Pt) (r:Ref) (hn:v.rs.length<=100000):PureC Tryz.prog 78 [zbF v, .agg (ze1 r)] (bb (Ck.right v r)):=by
 have e:Ck.right v r=((wi r.r 0 (v.rs.length-1)&&Ck.own (Ck.rc v r.r))&&(Ck.rc v r.r).q==r.q):=rfl;by_cases ho:(wi r.r 0 (v.rs.length-1)&&Ck.own (Ck.rc v r.r))=true
 ·have h2:0<=r.r/\r.r<v.rs.length:=by simp[wi] at ho;omega
  refine ytX zal rfl ?_
  (conv=>whnf);repeat(first|refine Ex.g ?_|refine yxX (ziv v r.r hn) ?_);conv=>whnf
  (refine .z [] ?_;conv=>whnf);(repeat'(fail))<;>(try(conv=>whnf))<;>((rw[e,ho];simp[Ck.rc];rfl))
 ·have ho':(wi r.r 0 (v.rs.length-1)&&Ck.own (Ck.rc v r.r))=false:=by simpa using ho
  refine ytX zal rfl ?_
  (conv=>whnf);repeat(first|refine Ex.g ?_|refine yxX (ziv v r.r hn) ?_);conv=>whnf
  (refine .z [] ?_;conv=>whnf);(repeat'(fail))<;>(try(conv=>whnf))<;>((rw[e,ho'];simp))
theorem zfi (v:Pt) (r:Ref) (hn:v.rs.length<=100000) {b:Bool} (h:Ck.right v r=b):PureC Tryz.prog 78 [zbF v, .agg (ze1 r)] (bb b):=by
 rw[←h];exact zsM v r hn
theorem zsN (v:Pt) (i:Int) (hn:v.rs.length<=100000):PureC Tryz.prog 77 [zbF v,ib i] (bb (wi i 0 (v.rs.length-1)&&Ck.dir (Ck.rc v i))):=by
 by_cases ho:(wi i 0 (v.rs.length-1)&&Ck.own (Ck.rc v i))=true
 ·have h2:0<=i/\i<v.rs.length:=by simp[wi] at ho;omega
  refine ytX zal rfl ?_
  (conv=>whnf);repeat(first|refine Ex.g ?_|refine yaX (ziv v i hn) ?_);conv=>whnf
  (refine .z [] ?_;conv=>whnf);(repeat'(fail))<;>(try(conv=>whnf))<;>((simp only[ykX] at ho;unfold Ck.own at ho;unfold Ck.dir;simp[Ck.rc] at ho⊢;simp[ho];rfl))
 ·have ho':(wi i 0 (v.rs.length-1)&&Ck.own (Ck.rc v i))=false:=by simpa using ho
  refine ytX zal rfl ?_
  (conv=>whnf);repeat(first|refine Ex.g ?_|refine yaX (ziv v i hn) ?_);conv=>whnf
  (refine .z [] ?_;conv=>whnf);(repeat'(fail))<;>(try(conv=>whnf))<;>((unfold Ck.own at ho';unfold Ck.dir;simp at ho'⊢;intro h1 h2;have:=ho' h1 h2;omega))
theorem zfj (v:Pt) (i:Int) (hn:v.rs.length<=100000) {b:Bool} (h:(wi i 0 (v.rs.length-1)&&Ck.dir (Ck.rc v i))=b):PureC Tryz.prog 77 [zbF v,ib i] (bb b):=by
 rw[←h];exact zsN v i hn
end Go.Proofs.YtgcjejajljhnaaaGreatDoor

namespace Ck
open Go Go.Ex
theorem zxN (a:UInt8) (n:Int) (h0:0<=n) (h8:n<8):zeL .u8 ((a.toNat:Int)+zeL .u8 (2^n.toNat))=((a+UInt8.ofNat (2^n.toNat)).toNat:Int):=by
 have hk:∃k:Nat,k<8/\n=k:=⟨n.toNat,zo,zo⟩
 obtain⟨k,hk,rfl⟩:=hk
 have key:∀k:Fin 8,∀a:Fin 256,zeL .u8 (((a:Nat):Int)+zeL .u8 (2^k.1))=(((UInt8.ofNat a.1)+UInt8.ofNat (2^k.1)).toNat:Int):=by decide+kernel
 have:=key ⟨k,hk⟩ ⟨a.toNat,a.toNat_lt⟩;simpa using this
theorem zuY (n:Int) (h0:0<=n) (h8:n<8):zuZ .i64 1 n=2^n.toNat:=by
 have hk:∃k:Nat,k<8/\n=k:=⟨n.toNat,zo,zo⟩
 obtain⟨k,hk,rfl⟩:=hk
 have key:∀k:Fin 8,zuZ .i64 1 ((k.1:Nat):Int)=2^k.1:=by decide+kernel
 exact key ⟨k,hk⟩
end Ck
namespace Go.Proofs.YtgcjejajljhnaaaGreatDoor
open Go.Ex Ck
set_option maxRecDepth 100000
set_option maxHeartbeats 4000000
theorem zsk (n:Int) (h0:0<=n) (h8:n<8):PureC Tryz.prog 81 [ib n] (ib (2^n.toNat)):=by
 refine ytX zal rfl ?_;refine Ex.go ?_
 (refine .z [] ?_;conv=>whnf);(repeat' first|exact rfl|refine zA ?_ ?_)<;>(try(conv=>whnf))<;>(exact(zuY n h0 h8).symm)
theorem zwj (n c:Int) (hn:n= -c) (h:0<=c/\c<=100000):PureC Tryz.prog 126 [ib n,ib 8] (ib (-((c+7)/8))):=by
 have e1:n.tdiv 8= -(c/8):=by rw[hn,Int.neg_tdiv,yGY h.1]
 have e2:n.tmod 8= -(c%8):=by rw[hn,Int.neg_tmod,ymY h.1]
 have h1:(8:Int)≠0/\Small (n.tdiv 8):=⟨zo,by unfold Small;rw[e1];omega⟩
 have h2:Small (n.tdiv 8-1):=by unfold Small;rw[e1];omega
 refine ytX zal rfl ?_
 (conv=>whnf);repeat((refine Ex.g ?_;conv=>whnf))
 refine yPX (λhlt=> ?_) (λhlt=> ?_)
 ·rw[e2] at hlt
  (conv=>whnf);repeat((refine Ex.g ?_;conv=>whnf))
  (refine .z [] ?_;conv=>whnf);(repeat' first|exact rfl|refine zA ?_ ?_)<;>(try(conv=>whnf))<;>(omega)
 ·rw[e2] at hlt;refine Ex.go ?_
  (refine .z [] ?_;conv=>whnf);(repeat' first|exact rfl|refine zA ?_ ?_)<;>(try(conv=>whnf))<;>(omega)
theorem zuG (c:Int) (h:0<=c/\c<=100000):PureC Tryz.prog 80 [ib c,ib 8] (ib ((c+7)/8)):=by
 have e1:0-c= -c:=zo;have e2:0-(-((c+7)/8))=(c+7)/8:=zo
 have s1:Small (0-c):=⟨zo,zo⟩
 have s2:Small (0-(-((c+7)/8))):=⟨zo,zo⟩
 refine ytX zal rfl ?_
 (conv=>whnf);repeat(first|refine Ex.g ?_|refine yaX (zwj _ c e1 h) ?_);conv=>whnf
 (refine .z [] ?_;conv=>whnf);(repeat' first|exact rfl|refine zA ?_ ?_)<;>(try(conv=>whnf))<;>(omega)
theorem zlO (v:Pt) (hc:0<=v.c/\v.c<=100000) (hl:v.al.length<=100000) (hr:∀r∈v.al,0<=r.s/\r.s+r.l<=v.c) (N:Nat) (hN:N=v.c.toNat):
  HC Tryz.prog 0 79 [zbF v] [] (.sl 0 0 N N) [.row ((zdM v.c v.al (List.replicate v.c.toNat false)).map bb) 4 0]:=by
 have hmk:(0:Int)<=v.c/\v.c<=v.c/\v.c.toNat*1<=2^47/\v.c<=2^60:=by refine⟨?_,?_,?_,?_⟩<;>omega
 have hzr:zc8 v.c.toNat (.bool false)=(List.replicate v.c.toNat false).map bb:=by
  rw[zcE (x:=bb false) _ _ rfl];simp
 refine HC.of zal (yhX 0) ?_
 (conv=>whnf);repeat((refine Ex.g ?_;conv=>whnf))
 obtain⟨T,hT⟩:∃T,T=List.replicate v.c.toNat false:=⟨_,rfl⟩
 have hTl:T.length=N:=by rw[hT,hN];simp
 rw[←hT] at hzr⊢;clear hT;refine Ex.wl v.al.length (λd=>zag [(1, .ptr 0 0),(3, .sl 1 0 N N),(4,ib d)] 37) (λd=>zan [.row (aPt v) 26 0, .row ((it (λt i=>Ck.runT v.c (at_ Run.o v.al i) t) T d).map bb) 4 0]) ?_ ?_
 ·(refine yLY [0,1] [] rfl rfl ?_ ?_<;>(repeat' first|exact zT|refine zA ?_ ?_)<;>(conv=>whnf)<;>(repeat'(exact rfl))<;>(first|omega|(first|exact zfR hzr.symm (y4X (enc:=bb) (λ_=>rfl) _)|(exact Or.inr ⟨rfl,rfl⟩))))
 ·intro d hd
  have hbl:(it (λt i=>Ck.runT v.c (at_ Run.o v.al i) t) T d).length=N:=by rw[zcq (λt k=>Ck.znr _ _ _),hTl]
  have hout:it (λt i=>Ck.runT v.c (at_ Run.o v.al i) t) T (d+1)=Ck.runT v.c (at_ Run.o v.al d) (it (λt i=>Ck.runT v.c (at_ Run.o v.al i) t) T d):=rfl
  obtain⟨b1,hb1⟩:∃b1,b1=it (λt i=>Ck.runT v.c (at_ Run.o v.al i) t) T d:=⟨_,rfl⟩
  rw[←hb1] at hbl hout;dsimp only;rw[←hb1]
  conv=>whnf
  refine yPX (λh=> ?_) (λh=> ?_)
  ·have hlt:d<v.al.length:=zo;have hm:=hr _ (at_mem Run.o v.al d hlt);refine Ex.go ?_;refine Ex.wl ((at_ Run.o v.al d).l.toNat) (λk=>zag [(1, .ptr 0 0),(3, .sl 1 0 N N),(4,ib d),(5,ib k)] 37) (λk=>zan [.row (aPt v) 26 0, .row ((it (λt k=>if(at_ Run.o v.al d).s≠-1/\(at_ Run.o v.al d).s+(k:Nat)<v.c then t.set ((at_ Run.o v.al d).s+(k:Nat)).toNat true else t) b1 k).map bb) 4 0]) ?_ ?_
   ·exact Ex.wO [0,1] []
   ·intro k hk
    have hlen:∀n,(it (λt k=>if(at_ Run.o v.al d).s≠-1/\(at_ Run.o v.al d).s+(k:Nat)<v.c then t.set ((at_ Run.o v.al d).s+(k:Nat)).toNat true else t) b1 n).length=N:=λn=>by rw[zcq (λt k=>by split<;>simp),hbl]
    have hstep:k<(at_ Run.o v.al d).l.toNat->it (λt k=>if(at_ Run.o v.al d).s≠-1/\(at_ Run.o v.al d).s+(k:Nat)<v.c then t.set ((at_ Run.o v.al d).s+(k:Nat)).toNat true else t) b1 (k+1)=(it (λt k=>if(at_ Run.o v.al d).s≠-1/\(at_ Run.o v.al d).s+(k:Nat)<v.c then t.set ((at_ Run.o v.al d).s+(k:Nat)).toNat true else t) b1 k).set ((at_ Run.o v.al d).s+(k:Nat)).toNat true:=λhk2=>ygX ⟨zo,zo⟩;have hl2:=hlen k
    have hfin:k=(at_ Run.o v.al d).l.toNat->Ck.runT v.c (at_ Run.o v.al d) b1=it (λt k=>if(at_ Run.o v.al d).s≠-1/\(at_ Run.o v.al d).s+(k:Nat)<v.c then t.set ((at_ Run.o v.al d).s+(k:Nat)).toNat true else t) b1 k:=λhk2=>by rw[hk2];rfl
    obtain⟨b2,hb2⟩:∃b2,b2=it (λt k=>if(at_ Run.o v.al d).s≠-1/\(at_ Run.o v.al d).s+(k:Nat)<v.c then t.set ((at_ Run.o v.al d).s+(k:Nat)).toNat true else t) b1 k:=⟨_,rfl⟩
    rw[←hb2] at hl2 hstep hfin;dsimp only;rw[←hb2];clear hlen hb1 hb2;refine Ex.go ?_;refine yPX (λh2=> ?_) (λh2=> ?_)
    ·have hk2:k<(at_ Run.o v.al d).l.toNat:=by(try simp only[yrX] at h2);omega
     have hix:0<=(at_ Run.o v.al d).s+(k:Int)/\(at_ Run.o v.al d).s+(k:Int)<N:=zo;have hoff:0+((at_ Run.o v.al d).s+(k:Int)).toNat*1=((at_ Run.o v.al d).s+(k:Int)).toNat:=zo;have hj:((at_ Run.o v.al d).s+(k:Int)).toNat<b2.length:=zo
     (conv=>whnf);repeat(first|refine Ex.g ?_|refine ytY bb true rfl hoff rfl rfl rfl rfl rfl hj ?_);conv=>whnf
     refine⟨k+1,hk2,by dsimp only;omega,?_⟩;dsimp only;rw[hstep hk2];exact Ex.wO [0,1] []
    ·have hke:k=(at_ Run.o v.al d).l.toNat:=by(try simp only[yrX] at h2);omega
     refine Ex.go ?_;refine⟨d+1,hlt,by dsimp only;omega,?_⟩;dsimp only;rw[hout,hfin hke];exact Ex.wO [0,1] []
  ·have hde:d=v.al.length:=zo
   have hfin:zdM v.c v.al T=b1:=by rw[hb1,hde];rfl
   rw[hfin];refine Ex.go ?_
   (refine⟨[1],[],rfl,?_,?_⟩<;>(repeat' first|exact zT|refine zA ?_ ?_)<;>(conv=>whnf)<;>(repeat'(exact rfl))<;>((exact Or.inr ⟨rfl,yyY (λ_=>rfl) _⟩)))
structure Okr (v:Pt):Prop extends Okv v where
 ab:∀r∈v.al,0<=r.s/\r.s+r.l<=v.c
theorem zvj (v:Pt) (hv:Okr v):PureC Tryz.prog 40 [zbF v] (tb (Ck.used v)):=by
 have hc:=hv.c;have hn:=hv.rs
 obtain⟨N,hN⟩:∃N,N=v.c.toNat:=⟨_,rfl⟩
 obtain⟨N8,hN8⟩:∃N,N=((v.c+7)/8).toNat:=⟨_,rfl⟩
 have hub:=zpB v (λr hr=>(hv.ar r hr).1) (λx hx s hs r hr=>((hv.sr x hx s hs).2 r hr).1);refine ytX zal rfl ?_;refine Ex.go ?_
 (refine KCall.lf [] [] (.sl 1 0 N N) [.row ((zdM v.c v.al (List.replicate v.c.toNat false)).map bb) 4 0] (zlO v hc hv.al hv.ab N hN) ?_ (hrows:=by((repeat'(exact zT))<;>(conv=>whnf)));(conv=>whnf))
 have hT0:(zdM v.c v.al (List.replicate v.c.toNat false)).length=N:=by rw[zhi,yKZ,hN]
 have hfin:zuJ v=it (λt i=>zpW v.c (at_ Rc.o v.rs i).ss t) (zdM v.c v.al (List.replicate v.c.toNat false)) v.rs.length:=rfl
 generalize zdM v.c v.al (List.replicate v.c.toNat false)=T0 at*
 refine Ex.go ?_;refine Ex.wl v.rs.length (λx=>zag [(1, .ptr 0 0),(3, .sl 1 0 N N),(4,ib x)] 115) (λx=>zan [.row (aPt v) 26 0, .row ((it (λt i=>zpW v.c (at_ Rc.o v.rs i).ss t) T0 x).map bb) 4 0]) ?_ ?_
 ·exact Ex.wO [0,1] []
 ·intro d hd
  have hlt1:(it (λt i=>zpW v.c (at_ Rc.o v.rs i).ss t) T0 d).length=N:=by rw[zcq (λt k=>zsy _ _ _),hT0]
  have hst1:it (λt i=>zpW v.c (at_ Rc.o v.rs i).ss t) T0 (d+1)=zpW v.c (at_ Rc.o v.rs d).ss (it (λt i=>zpW v.c (at_ Rc.o v.rs i).ss t) T0 d):=rfl
  obtain⟨t1,hdt1⟩:∃x,x=it (λt i=>zpW v.c (at_ Rc.o v.rs i).ss t) T0 d:=⟨_,rfl⟩
  rw[←hdt1] at hlt1 hst1;dsimp only;rw[←hdt1];refine Ex.go ?_;refine yPX (λh=> ?_) (λh=> ?_)
  ·have hlt:d<v.rs.length:=zo;have hm:=at_mem Rc.o v.rs d hlt;have hss:=hv.ss _ hm;refine Ex.go ?_;refine Ex.wl ((at_ Rc.o v.rs d).ss.length) (λx=>zag [(1, .ptr 0 0),(3, .sl 1 0 N N),(4,ib d),(5,ib x)] 115) (λx=>zan [.row (aPt v) 26 0, .row ((it (λt i=>zdM v.c (at_ Sm.o (at_ Rc.o v.rs d).ss i).r t) t1 x).map bb) 4 0]) ?_ ?_
   ·exact Ex.wO [0,1] []
   ·intro k hk
    have hlt2:(it (λt i=>zdM v.c (at_ Sm.o (at_ Rc.o v.rs d).ss i).r t) t1 k).length=N:=by rw[zcq (λt k=>zhi _ _ _),hlt1]
    have hst2:it (λt i=>zdM v.c (at_ Sm.o (at_ Rc.o v.rs d).ss i).r t) t1 (k+1)=zdM v.c (at_ Sm.o (at_ Rc.o v.rs d).ss k).r (it (λt i=>zdM v.c (at_ Sm.o (at_ Rc.o v.rs d).ss i).r t) t1 k):=rfl
    obtain⟨t2,hdt2⟩:∃x,x=it (λt i=>zdM v.c (at_ Sm.o (at_ Rc.o v.rs d).ss i).r t) t1 k:=⟨_,rfl⟩
    rw[←hdt2] at hlt2 hst2;dsimp only;rw[←hdt2];refine Ex.go ?_;refine yPX (λh2=> ?_) (λh2=> ?_)
    ·have hk2:k<(at_ Rc.o v.rs d).ss.length:=by(try simp only[yrX] at h2);omega
     have hsr:=hv.sr _ hm _ (at_mem Sm.o _ k hk2);have hrl:=hsr.1;refine Ex.go ?_;refine Ex.wl ((at_ Sm.o (at_ Rc.o v.rs d).ss k).r.length) (λx=>zag [(1, .ptr 0 0),(3, .sl 1 0 N N),(4,ib d),(5,ib k),(6,LS 2 zaP Run.o (at_ Sm.o (at_ Rc.o v.rs d).ss k).r),(7,ib x)] 115) (λx=>zan [.row (aPt v) 26 0, .row ((it (λt i=>Ck.runT v.c (at_ Run.o (at_ Sm.o (at_ Rc.o v.rs d).ss k).r i) t) t2 x).map bb) 4 0]) ?_ ?_
     ·exact Ex.wO [0,1] []
     ·intro m hm
      have hlt3:(it (λt i=>Ck.runT v.c (at_ Run.o (at_ Sm.o (at_ Rc.o v.rs d).ss k).r i) t) t2 m).length=N:=by rw[zcq (λt k=>znr _ _ _),hlt2]
      have hst3:it (λt i=>Ck.runT v.c (at_ Run.o (at_ Sm.o (at_ Rc.o v.rs d).ss k).r i) t) t2 (m+1)=Ck.runT v.c (at_ Run.o (at_ Sm.o (at_ Rc.o v.rs d).ss k).r m) (it (λt i=>Ck.runT v.c (at_ Run.o (at_ Sm.o (at_ Rc.o v.rs d).ss k).r i) t) t2 m):=rfl
      obtain⟨t3,hdt3⟩:∃x,x=it (λt i=>Ck.runT v.c (at_ Run.o (at_ Sm.o (at_ Rc.o v.rs d).ss k).r i) t) t2 m:=⟨_,rfl⟩
      rw[←hdt3] at hlt3 hst3;dsimp only;rw[←hdt3];refine Ex.go ?_;refine yPX (λh3=> ?_) (λh3=> ?_)
      ·have hm2:m<(at_ Sm.o (at_ Rc.o v.rs d).ss k).r.length:=by(try simp only[yrX] at h3);omega
       have hrr:=hsr.2 _ (at_mem Run.o _ m hm2);have hr1:=hrr.1;have hr2:=hrr.2.1;have hr3:=hrr.2.2;refine Ex.go ?_;refine Ex.wl ((at_ Run.o (at_ Sm.o (at_ Rc.o v.rs d).ss k).r m).l.toNat) (λx=>zag [(1, .ptr 0 0),(3, .sl 1 0 N N),(4,ib d),(5,ib k),(6,LS 2 zaP Run.o (at_ Sm.o (at_ Rc.o v.rs d).ss k).r),(7,ib m),(8,ib x)] 115) (λx=>zan [.row (aPt v) 26 0, .row ((it (λt (j:Nat)=>if(at_ Run.o (at_ Sm.o (at_ Rc.o v.rs d).ss k).r m).s≠-1/\(at_ Run.o (at_ Sm.o (at_ Rc.o v.rs d).ss k).r m).s+j<v.c then t.set ((at_ Run.o (at_ Sm.o (at_ Rc.o v.rs d).ss k).r m).s+j).toNat true else t) t3 x).map bb) 4 0]) ?_ ?_
       ·exact Ex.wO [0,1] []
       ·intro n hn4
        have hl4:(it (λt (j:Nat)=>if(at_ Run.o (at_ Sm.o (at_ Rc.o v.rs d).ss k).r m).s≠-1/\(at_ Run.o (at_ Sm.o (at_ Rc.o v.rs d).ss k).r m).s+j<v.c then t.set ((at_ Run.o (at_ Sm.o (at_ Rc.o v.rs d).ss k).r m).s+j).toNat true else t) t3 n).length=N:=by rw[zcq (λt k=>by split<;>simp),hlt3]
        have hs4:it (λt (j:Nat)=>if(at_ Run.o (at_ Sm.o (at_ Rc.o v.rs d).ss k).r m).s≠-1/\(at_ Run.o (at_ Sm.o (at_ Rc.o v.rs d).ss k).r m).s+j<v.c then t.set ((at_ Run.o (at_ Sm.o (at_ Rc.o v.rs d).ss k).r m).s+j).toNat true else t) t3 (n+1)=if(at_ Run.o (at_ Sm.o (at_ Rc.o v.rs d).ss k).r m).s≠-1/\(at_ Run.o (at_ Sm.o (at_ Rc.o v.rs d).ss k).r m).s+(n:Nat)<v.c then(it (λt (j:Nat)=>if(at_ Run.o (at_ Sm.o (at_ Rc.o v.rs d).ss k).r m).s≠-1/\(at_ Run.o (at_ Sm.o (at_ Rc.o v.rs d).ss k).r m).s+j<v.c then t.set ((at_ Run.o (at_ Sm.o (at_ Rc.o v.rs d).ss k).r m).s+j).toNat true else t) t3 n).set ((at_ Run.o (at_ Sm.o (at_ Rc.o v.rs d).ss k).r m).s+(n:Nat)).toNat true else it (λt (j:Nat)=>if(at_ Run.o (at_ Sm.o (at_ Rc.o v.rs d).ss k).r m).s≠-1/\(at_ Run.o (at_ Sm.o (at_ Rc.o v.rs d).ss k).r m).s+j<v.c then t.set ((at_ Run.o (at_ Sm.o (at_ Rc.o v.rs d).ss k).r m).s+j).toNat true else t) t3 n:=rfl
        have hstop:=zqf v.c (at_ Run.o (at_ Sm.o (at_ Rc.o v.rs d).ss k).r m) t3 n hn4
        obtain⟨t4,hd4⟩:∃x,x=it (λt (j:Nat)=>if(at_ Run.o (at_ Sm.o (at_ Rc.o v.rs d).ss k).r m).s≠-1/\(at_ Run.o (at_ Sm.o (at_ Rc.o v.rs d).ss k).r m).s+j<v.c then t.set ((at_ Run.o (at_ Sm.o (at_ Rc.o v.rs d).ss k).r m).s+j).toNat true else t) t3 n:=⟨_,rfl⟩
        rw[←hd4] at hl4 hs4 hstop;dsimp only;rw[←hd4];by_cases h4:(n:Int)<(at_ Run.o (at_ Sm.o (at_ Rc.o v.rs d).ss k).r m).l
        ·by_cases h5:(at_ Run.o (at_ Sm.o (at_ Rc.o v.rs d).ss k).r m).s= -1
         ·(conv=>whnf);repeat(first|refine Ex.g ?_|refine KIf.f (yqX Bool.not (ybX h5)) ?_);conv=>whnf
          refine⟨m+1,hm2,by dsimp only;omega,?_⟩;dsimp only;rw[hst3,←hstop (λj _ h=>h.1 h5)];exact Ex.wO [0,1] []
         ·by_cases h6:(at_ Run.o (at_ Sm.o (at_ Rc.o v.rs d).ss k).r m).s+(n:Int)<v.c
          ·have hp:0<=(at_ Run.o (at_ Sm.o (at_ Rc.o v.rs d).ss k).r m).s+(n:Int):=zo;have hix:0<=(at_ Run.o (at_ Sm.o (at_ Rc.o v.rs d).ss k).r m).s+(n:Int)/\(at_ Run.o (at_ Sm.o (at_ Rc.o v.rs d).ss k).r m).s+(n:Int)<N:=zo;have hoff:0+((at_ Run.o (at_ Sm.o (at_ Rc.o v.rs d).ss k).r m).s+(n:Int)).toNat*1=((at_ Run.o (at_ Sm.o (at_ Rc.o v.rs d).ss k).r m).s+(n:Int)).toNat:=zo;have hj:((at_ Run.o (at_ Sm.o (at_ Rc.o v.rs d).ss k).r m).s+(n:Int)).toNat<t4.length:=zo
           (conv=>whnf);repeat(first|refine Ex.g ?_|refine KIf.t (yqX Bool.not (ycX h5)) ?_);conv=>whnf
           (refine ytY bb true rfl hoff rfl rfl rfl rfl rfl hj ?_;conv=>whnf)
           refine Ex.go ?_;refine⟨n+1,zo,by dsimp only;omega,?_⟩;dsimp only;rw[hs4,ygX ⟨h5,h6⟩];exact Ex.wO [0,1] []
          ·(conv=>whnf);repeat(first|refine Ex.g ?_|refine KIf.t (yqX Bool.not (ycX h5)) ?_);conv=>whnf
           refine⟨m+1,hm2,by dsimp only;omega,?_⟩;dsimp only;rw[hst3,←hstop (λj hj h=>h6 (by have:=h.2;omega))];exact Ex.wO [0,1] []
        ·have hne:n=(at_ Run.o (at_ Sm.o (at_ Rc.o v.rs d).ss k).r m).l.toNat:=zo;refine Ex.go ?_;refine⟨m+1,hm2,by dsimp only;omega,?_⟩;dsimp only;rw[hst3,show Ck.runT v.c (at_ Run.o (at_ Sm.o (at_ Rc.o v.rs d).ss k).r m) t3=t4 by rw[hd4,hne];rfl];exact Ex.wO [0,1] []
      ·have hme:m=(at_ Sm.o (at_ Rc.o v.rs d).ss k).r.length:=by(try simp only[yrX] at h3);omega
       refine Ex.go ?_;refine⟨k+1,hk2,by dsimp only;omega,?_⟩;dsimp only;rw[hst2,show zdM v.c (at_ Sm.o (at_ Rc.o v.rs d).ss k).r t2=t3 by rw[hdt3,hme];rfl];exact Ex.wO [0,1] []
    ·have hke:k=(at_ Rc.o v.rs d).ss.length:=by(try simp only[yrX] at h2);omega
     refine Ex.go ?_;refine⟨d+1,hlt,by dsimp only;omega,?_⟩;dsimp only;rw[hst1,show zpW v.c (at_ Rc.o v.rs d).ss t1=t2 by rw[hdt2,hke];rfl];exact Ex.wO [0,1] []
  ·have hde:d=v.rs.length:=zo
   have hu:zuJ v=t1:=by rw[hfin,hdt1,hde]
   rw[hu] at hub
   have hmk:0<=(v.c+7)/8/\(v.c+7)/8<=(v.c+7)/8/\((v.c+7)/8).toNat*1<=2^47/\(v.c+7)/8<=2^60:=by refine⟨?_,?_,?_,?_⟩<;>omega
   have hz:zc8 ((v.c+7)/8).toNat (.int .u8 0)=(zb5 N8 (t1.take 0)).map zbf:=by
    rw[zcE (x:= .sc (.int .u8 0)) _ _ rfl,List.take_zero,zpc,hN8];simp[zbf]
   clear hd hdt1 hst1 hfin hT0 hu h hde
   (conv=>whnf);repeat(first|refine Ex.g ?_|refine yaX (zuG v.c hc) ?_);conv=>whnf
   refine yFX zal (D:=Nat×List UInt8) (λx=>N-x.1) (λx=>x.1<=N/\x.2=zb5 N8 (t1.take x.1)) (λx=>zag [(3, .sl 1 0 N N),(9, .sl 2 0 N8 N8),(10,ib x.1)] 115)
    (λx=>zan [.row (aPt v) 26 0, .row (t1.map bb) 4 0, .row (x.2.map zbf) 5 0]) (0,zb5 N8 (t1.take 0)) ⟨ymX _,rfl⟩ ?_ ?_
   ·(refine yLY [0,1,2] [] rfl rfl ?_ ?_<;>(repeat' first|exact zT|refine zA ?_ ?_)<;>(conv=>whnf)<;>(repeat'(exact rfl))<;>(first|omega|(first|exact zfR hz.symm (y4X (enc:=zbf) (λ_=>rfl) _)|(first|exact Or.inr ⟨rfl,rfl⟩|exact Or.inr ⟨rfl,yyY (λ_=>rfl) _⟩))))
   ·rintro⟨i,b⟩ ⟨hi,hb⟩;dsimp only at hi hb;have hlb:=zpd N8 (t1.take i);have hadd:=zlQ N8 t1 i;have hno:=zmx N8 t1 i;rw[←hb] at hlb hadd hno;refine Ex.go ?_;refine yPX (λh=> ?_) (λh=> ?_)
    ·have hlt:i<N:=zo;have hj1:i<t1.length:=zo;have hof1:0+((i:Nat):Int).toNat*1=i:=zo;have hix1:(0:Int)<=i/\(i:Int)<N:=zo
     obtain⟨mk,hmk1⟩:∃x,at_ false t1 i=x:=⟨_,rfl⟩
     (conv=>whnf);repeat(first|refine Ex.g ?_|refine RK.of (yjY bb false mk hmk1 hof1 rfl rfl hj1) ?_);conv=>whnf
     cases mk
     ·refine Ex.go ?_;refine⟨(i+1,b),⟨hlt,hno hmk1⟩,by dsimp only;omega,?_⟩;exact Ex.wO [0,1,2] []
     ·have hp:(0:Int)<=i:=zo
      have hix:(0:Int)<=(i:Int).tdiv 8/\(i:Int).tdiv 8<N8:=by rw[zkL hp];omega
      have hq:(8:Int)≠0/\Small ((i:Int).tdiv 8):=⟨zo,by unfold Small;rw[zkL hp];omega⟩
      have hm8:0<=(i:Int).tmod 8:=by rw[zl4 hp];omega
      have hm88:(i:Int).tmod 8<8:=by rw[zl4 hp];omega
      have hj:i/8<b.length:=zo
      have hoff:0+((i:Int).tdiv 8).toNat*1=i/8:=by rw[zkL hp];omega
      have ev:AV.sc (.int .u8 (zeL .u8 (((at_ 0 b (i/8)).toNat:Int)+zeL .u8 (2^((i:Int).tmod 8).toNat))))=zbf (at_ 0 b (i/8)+UInt8.ofNat (2^(i%8))):=by
       rw[zxN _ _ hm8 hm88,zl4 hp];rfl
      (conv=>whnf);repeat(first|refine Ex.g ?_|refine yxX (zsk _ hm8 hm88) ?_|refine RK.of (Ck.zyp zbf 0 hoff rfl rfl hj) ?_);conv=>whnf
      (refine ytY zbf _ ev hoff rfl rfl rfl rfl rfl hj ?_;conv=>whnf)
      refine Ex.go ?_;refine⟨(i+1,b.set (i/8) (at_ 0 b (i/8)+UInt8.ofNat (2^(i%8)))),⟨hlt,hadd hj1 zo hmk1⟩,by dsimp only;omega,?_⟩;exact Ex.wO [0,1,2] []
    ·have hie:i=N:=zo
     have hbe:b=Ck.used v:=by rw[hb,hie,yqY zo,hN8];exact hub.1.symm
     (conv=>whnf);repeat(first|refine RK.of (zhM (enc:=zbf) (l:=b) rfl zo) ?_|refine RK.of (zdB b) ?_);conv=>whnf
     (refine .z [] ?_;conv=>whnf);(repeat'(fail))<;>(try(conv=>whnf))<;>(exact hbe.symm)
theorem zgQ (r:Ref):PureC Tryz.prog 90 [.agg (ze1 r)] (ib (zaJ r)):=by
 unfold zaJ;have h1:=za6 r.r 0 95;have h2:=za6 r.q 1 65535;have h3:=zbi (wi r.r 0 95&&wi r.q 1 65535) 2;refine ytX zal rfl ?_;cases e:wi r.r 0 95
 ·rw[e] at h1 h3
  (conv=>whnf);repeat(first|refine Ex.g ?_|refine yaX (h1) ?_|refine yaX (h3) ?_);conv=>whnf
  refine .z [] ?_;exact ydX rfl
 ·rw[e] at h1 h3
  (conv=>whnf);repeat(first|refine Ex.g ?_|refine yaX (h1) ?_|refine yaX (h2) ?_|refine yaX (h3) ?_);conv=>whnf
  refine .z [] ?_;exact ydX rfl
theorem zet (n:Int):PureC Tryz.prog 89 [ib n] (bb (num n)):=by
 refine ytX zal rfl ?_
 (conv=>whnf);repeat((refine yaX (za6 _ _ _) ?_;conv=>whnf))
 refine .z [] ?_;exact ydX rfl
theorem zmB (n:Int):PureC Tryz.prog 91 [ib n] (ib (zdI n)):=by
 unfold zdI;refine ytX zal rfl ?_;by_cases h:n=5
 ·rw[ygX h]
  (conv=>whnf);repeat((refine Ex.g ?_;conv=>whnf))
  refine .z [] ?_;exact ydX rfl
 ·rw[yfX h]
  (conv=>whnf);repeat((refine Ex.g ?_;conv=>whnf))
  refine .z [] ?_;exact ydX rfl
theorem zqL (x:Nm) (hx:x.n.length<=100000):PureC Tryz.prog 92 [.agg (aNm x)] (ib (zdc x)):=by
 have hf:=zf6 [zaJ x.d,zau x.n] (by decide:(2:Nat)<=1000000)
 have he:Ck.first [zaJ x.d,zau x.n]=zdc x:=by
  show(if zaJ x.d=0 then(if zau x.n=0 then 0 else zau x.n) else zaJ x.d)=_;unfold zdc;by_cases h1:zau x.n=0
  ·rw[ygX h1,h1]
  ·rw[yfX h1]
 rw[he] at hf;refine ytX zal rfl ?_
 (conv=>whnf);repeat(first|refine Ex.g ?_|refine yxX (zgQ x.d) ?_|refine yxX (zdE x.n hx) ?_|refine DCall.frz [1] (hf) ⟨yzZ rfl (by simp) rfl (yhX 2) (λ_ _=>rfl) rfl (λ_ _=>rfl),zT⟩ ?_);conv=>whnf
 refine .z [] ?_;exact ydX rfl
theorem zvN (a b c:Int):Ck.first [a,b,c]=if a=0 then(if b=0 then c else b) else a:=by
 show(if a=0 then(if b=0 then(if c=0 then 0 else c) else b) else a)=_;by_cases h:c=0
 ·rw[ygX h,h]
 ·rw[yfX h]
theorem zo6 (x:En) (hx:x.n.length<=100000):PureC Tryz.prog 94 [.agg (aEn x)] (ib (zc5 x)):=by
 have hf:=zf6 [zau x.n,zaJ x.f,if num x.z then 0 else 2] (by decide:(3:Nat)<=1000000);rw[zvN] at hf;have hf:PureC Tryz.prog 57 [LS 1 aI 0 [zau x.n,zaJ x.f,if num x.z then 0 else 2]] (ib (zc5 x)):=hf;refine ytX zal rfl ?_
 (conv=>whnf);repeat(first|refine Ex.g ?_|refine yxX (zgQ x.f) ?_|refine yxX (zdE x.n hx) ?_|refine yxX (zet x.z) ?_|refine yxX (zbi (num x.z) 2) ?_|refine DCall.frz [1] (hf) ⟨yzZ rfl (by simp) rfl (yhX 3) (λ_ _=>rfl) rfl (λ_ _=>rfl),zT⟩ ?_);conv=>whnf
 refine .z [] ?_;exact ydX rfl
theorem ztM (r:Run):PureC Tryz.prog 135 [.agg (zaP r)] (bb (za1 r)):=by
 unfold za1;have h1:=za6 r.s (-1) 2147483647;have h2:=za6 r.l 1 512;refine ytX zal rfl ?_;cases e:wi r.s (-1) 2147483647
 ·rw[e] at h1
  (conv=>whnf);repeat(first|refine Ex.g ?_|refine yaX (h1) ?_);conv=>whnf
  refine .z [] ?_;exact ydX rfl
 ·rw[e] at h1
  (conv=>whnf);repeat(first|refine Ex.g ?_|refine yaX (h1) ?_|refine yaX (h2) ?_);conv=>whnf
  refine .z [] ?_;exact ydX rfl
theorem zpq (l:List Run) (hl:l.length<=100000):PureC Tryz.prog 169 [LS 2 zaP Run.o l, .sc (.func (.func 135) #[] #[])] (ib (ixL za1 l 0)):=by
 obtain⟨W,hW⟩:∃W,ixL za1 l 0=W:=⟨_,rfl⟩
 rw[hW];have hW:ixL za1 (l.drop 0) 0=W:=hW;refine ytX zal rfl ?_;refine Ex.go ?_;refine yFX zal (D:=Nat) (λd=>l.length-d) (λd=>d<=l.length/\ixL za1 (l.drop d) d=W) (λd=>zag [(0,LS 2 zaP Run.o l),(1, .sc (.func (.func 135) #[] #[])),(7,ib l.length),(8,ib d)] 19) (λd=>zan []) 0 ⟨ymX _,hW⟩ ?_ ?_
 ·exact Ex.wO [] []
 ·clear hW;rintro d ⟨hd,hW⟩;by_cases hlt:d<l.length
  ·have hp:=ztM (at_ Run.o l d);rw[drop_at Run.o l d hlt] at hW;unfold ixL at hW;cases hx:za1 (at_ Run.o l d)
   ·rw[yfX (by simp[hx])] at hW;rw[hx] at hp
    (conv=>whnf);repeat(first|refine Ex.g ?_|refine Ex.om ?_|refine yaX (hp) ?_);conv=>whnf
    refine⟨d+1,⟨zo,hW⟩,by dsimp only;omega,?_⟩;exact Ex.wO [] []
   ·rw[ygX hx] at hW;rw[hx] at hp
    (conv=>whnf);repeat(first|refine Ex.g ?_|refine Ex.om ?_|refine yaX (hp) ?_);conv=>whnf
    refine .z [] ?_;rw[←hW];exact ydX rfl
  ·have hde:d=l.length:=zo;rw[hde,y9X] at hW
   (conv=>whnf);repeat((refine Ex.om ?_;conv=>whnf))
   refine .z [] ?_;rw[←hW];exact ydX rfl
theorem zkF (l:List Run) (hl:l.length<=100000):PureC Tryz.prog 136 [LS 2 zaP Run.o l, .sc (.func (.func 135) #[] #[])] (bb (l.any za1)):=by
 rw[←zds za1 l 0];refine ytX zal rfl ?_
 (conv=>whnf);repeat((refine yaX (zpq l hl) ?_;conv=>whnf))
 refine .z [] ?_;exact ydX rfl
theorem zl6 (x:Sm) (hx:x.r.length<=100000):PureC Tryz.prog 93 [.agg (aSm x)] (ib (zcd x)):=by
 unfold zcd;refine ytX zal rfl ?_;by_cases h:24<x.r.length
 ·rw[ygX h]
  (conv=>whnf);repeat((refine Ex.om ?_;conv=>whnf))
  refine .z [] ?_;exact ydX rfl
 ·rw[yfX h]
  obtain⟨b,hb⟩:∃b,x.r.any za1=b:=⟨_,rfl⟩
  have hC:=zkF x.r hx;have hN:=zet x.z;rw[hb] at hC⊢;cases b
  ·have hU:=zbi (num x.z) 2
   (conv=>whnf);repeat(first|refine Ex.g ?_|refine Ex.om ?_|refine yaX (hC) ?_|refine yaX (hN) ?_|refine yaX (hU) ?_);conv=>whnf
   refine .z [] ?_;exact ydX rfl
  ·have hU:=zbi false 2
   (conv=>whnf);repeat(first|refine Ex.g ?_|refine Ex.om ?_|refine yaX (hC) ?_|refine yaX (hU) ?_);conv=>whnf
   refine .z [] ?_;exact ydX rfl
end Go.Proofs.YtgcjejajljhnaaaGreatDoor
