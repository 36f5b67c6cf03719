/- Own text, part Trnk 8: walks of the package acl and of its reference, and the plain laws that they lean on; no statement of the seat is here. -/
import Derived.Test.YtgcjejajljhnaaaGreatDoorTrnk7
import Derived.Test.YtgcjejajljhnaaaGreatDoorProg
import Derived.ProofKit
import Derived.LaidMore
import Derived.OpenShut
import Derived.Deep.Slices
import Derived.Below
import Derived.WalkKit
import Derived.Laws.AppendOwn
import Derived.Laws.CopyRow
import Derived.Laws.Rows
import Derived.Orders
import Derived.Deep.Draws
import Derived.StillTail
import Derived.Maps.AppendAt
import Derived.Lib.AppendZeros
import Derived.Test.YtgcjejajljhnaaaGreatDoorTrnk3
import Derived.Deep.AppendSrc
import Derived.HandedShaped
import Derived.Handed
import Derived.Stop.LaidErr
import Derived.MakeChecks
import Derived.Stop.Joined
import Derived.Test.YtgcjejajljhnaaaGreatDoorTrnk4
import Derived.Shelf.Small.Strs
import Derived.Shelf.Strconv.Atoi
import Derived.Shelf.Strconv.Itoa0
import Derived.Shelf.Strconv.Itoa1
import Derived.Shelf.LaysM
import Derived.Shelf.Strconv.Itoa2
import Derived.Shelf.Strconv.Itoa3
import Derived.Shelf.Strconv.AtoiErrFast
import Derived.Shelf.Strconv.ParseIntEmpty
import Derived.Shelf.Strconv.AtoiFail
import Derived.Shelf.Strconv.Clone
import Derived.Shelf.Strconv.SyntaxError
import Derived.Shelf.LaysC
import Derived.Shelf.Strconv.ToError
import Derived.Shelf.Strconv.Lower
import Derived.Shelf.Strconv.ParseUint10
import Derived.Shelf.Strconv.ParseUint10Empty
import Derived.Shelf.Strconv.ParseUint10Any
import Derived.Shelf.Strconv.ParseInt10
import Derived.Shelf.Strconv.AtoiLong
import Derived.Shelf.Strconv.AtoiInnerAll
import Derived.Shelf.Strconv.RangeError
import Derived.Shelf.Strconv.ToErrorRange
import Derived.Shelf.Strconv.AtoiAll
import Derived.Shelf.Strings.Search1
import Derived.Shelf.Strings.Search2
import Derived.Shelf.Strings.Search3
import Derived.Shelf.Strings.Count
import Derived.Shelf.Strings.Shaped
import Derived.Shelf.Strings.Prefix
import Derived.Shelf.Strings.Split
import Derived.Shelf.Strings.SplitShaped
import Derived.Shelf.Unicode.DecodeSlow
import Derived.Shelf.Unicode.DecodeAny
import Derived.Lib.LaidTab
import Derived.Lib.AppendIntMem
import Derived.Test.YtgcjejajljhnaaaGreatDoorRows
set_option linter.all false
namespace Ck
open Go.Proofs.YtgcjejajljhnaaaGreatDoor
theorem nm_some {l:List Nm} (h:l≠[]):∃m,m∈l:=by
 cases l with
 |nil=>exact absurd rfl h
 |cons a l=>exact⟨a,by simp⟩
def Use (v w:Pt):Prop:=∀j,((at_ Rc.o w.rs j).u=(at_ Rc.o v.rs j).u∧(at_ Rc.o w.rs j).k=(at_ Rc.o v.rs j).k∧(at_ Rc.o w.rs j).q=(at_ Rc.o v.rs j).q)∨((at_ Rc.o v.rs j).u=true∧(at_ Rc.o v.rs j).k=3∧(at_ Rc.o w.rs j).u=false)
theorem rc_w (w:Pt) (i:Int):(⟨w,[],[]⟩:Rp).rc i=at_ Rc.o w.rs i.toNat:=rfl
theorem zoH (w:Pt) (j:Nat):(⟨w,[],[]⟩:Rp).ref j=⟨j,(at_ Rc.o w.rs j).q⟩:=by
 show(⟨((j:Nat):Int),((⟨w,[],[]⟩:Rp).rc (j:Nat)).q⟩:Ref)=_;rw[rc_w,Int.toNat_natCast]
theorem dir_reach {v w:Pt} (G:Good ⟨w,[],[]⟩) (hu:Use v w) (hfo:za4 v=false) {D:Nat} (hl:D<w.rs.length) (hd:dir (at_ Rc.o w.rs D)=true):Rch w D:=by
 by_cases h5:D=5
 ·subst h5;exact Rch.root
 by_cases h16:16≤D
 ·exact G.ar D h16 hl hd
 have hv:=foreign_f hfo D (by omega) h5;unfold dir at hd hv
 rcases hu D with⟨e1,e2,_⟩|⟨_,_,e3⟩
 ·rw[e1,e2,hv] at hd;cases hd
 ·rw[e3] at hd;cases hd
theorem zhb {v w:Pt} (G:Good ⟨w,[],[]⟩) (hu:Use v w) (hfo:za4 v=false) {j:Nat} (h16:16≤j) (hl:j<w.rs.length) (ho:own (at_ Rc.o w.rs j)=true):Rch w j:=by
 obtain⟨m,hm⟩:=nm_some (G.nf j h16 hl ho);obtain⟨h1,e,h2,h3,h4⟩:=(G.fit.nk j).1 m hm;obtain⟨d1,d2,d3,d4⟩:=zci h1;rw[rc_w] at h2 d3;have hr:=dir_reach G hu hfo (D:=m.d.r.toNat) d2 d3;have hrr:right w ((⟨w,[],[]⟩:Rp).ref j)=true:=zch (p:=⟨w,[],[]⟩) hl (by rw[zae];exact ho);rw[←h3] at hrr;have:=Rch.step hr d3 h2 hrr;rw[h3,zoH] at this;have e:(⟨(j:Nat),(at_ Rc.o w.rs j).q⟩:Ref).r.toNat=j:=Int.toNat_natCast j;rw[e] at this;exact this
theorem zlt {v:Pt} {j n:Nat} (hj:j<n) (h:rchB v j=true) (hn:n≤v.rs.length):((j:Nat):Int)∈filt v n:=by
 unfold filt;refine List.mem_map.2 ⟨j,List.mem_filter.2 ⟨List.mem_range.2 hj,?_⟩,rfl⟩;rw[zka _ _ (by omega)];exact h
theorem below_ok {v w:Pt} (G:Good ⟨w,[],[]⟩) (hu:Use v w) (hfo:za4 v=false) {j:Nat} (h16:16≤j) (hl:j<w.rs.length) (ho:own (at_ Rc.o w.rs j)=true):
  ((j:Nat):Int)∈filt w w.rs.length∧(((at_ Rc.o w.rs j).ns.length:Nat):Int)=(at_ Rc.o w.rs j).ln∧((at_ Rc.o w.rs j).k≠1→(at_ Rc.o w.rs j).ns.length=1):=by
 refine⟨zlt hl ((zcV _ _).2 (zhb G hu hfo h16 hl ho)) (Nat.le_refl _),(G.lk j h16 hl ho).symm,fun hk=> ?_⟩;have h1:(at_ Rc.o w.rs j).ns.length≤1:=(G.fit.nk j).2 hk;have h2:(at_ Rc.o w.rs j).ns≠[]:=G.nf j h16 hl ho
 have h3:(at_ Rc.o w.rs j).ns.length≠0:=fun e=>h2 (List.eq_nil_of_length_eq_zero e)
 omega
theorem snd_at {v:Pt} {p:Rp} {n k:Nat} (h:k<(snd v p n).length):∃j:Nat,at_ 0 (snd v p n) k=(j:Nat)∧j<n∧sndB v p j=true:=by
 have:=at_mem 0 _ k h;obtain⟨j,hj,e⟩:=List.mem_map.1 this;obtain⟨h1,h2⟩:=List.mem_filter.1 hj;exact⟨j,e.symm,List.mem_range.1 h1,h2⟩
def Keep (v w:Pt) (j:Nat):Prop:=16≤j∧((j:Nat):Int)∈filt w w.rs.length∧(at_ Rc.o w.rs j).ss=(at_ Rc.o v.rs j).ss∧(at_ Rc.o w.rs j).ds=(at_ Rc.o v.rs j).ds∧(at_ Rc.o w.rs j).ns=(at_ Rc.o v.rs j).ns∧(at_ Rc.o v.rs j).ns≠[]∧
   ∀m∈(at_ Rc.o v.rs j).ns,0≤m.d.r∧m.d.r.toNat<w.rs.length∧∃e∈(at_ Rc.o w.rs m.d.r.toNat).es,e.f=⟨j,(at_ Rc.o w.rs j).q⟩∧e.n=m.n
theorem sound_kept {v w:Pt} {p:Rp} (G:Good ⟨w,[],[]⟩) (hu:Use v w) (hfo:za4 v=false) (hlen:w.rs.length=v.rs.length) {j:Nat} (hcore:Nc j p→core (at_ Rc.o w.rs j)=core (at_ Rc.o v.rs j)) (hl:j<v.rs.length) (hs:sndB v p j=true):Keep v w j:=by
 unfold sndB at hs;simp only[Bool.and_eq_true,decide_eq_true_eq,Bool.not_eq_true',decide_eq_false_iff_not] at hs;obtain⟨h16,ho,hk,hc⟩:=hs;have hcore:=hcore (conc_nc hc);unfold core at hcore;simp only[Prod.mk.injEq] at hcore;obtain⟨c1,c2,c3⟩:=hcore
 have how:own (at_ Rc.o w.rs j)=true:=by
  rcases hu j with⟨e1,e2,_⟩|⟨_,e2,_⟩
  ·unfold own at ho⊢;rw[e1,e2];exact ho
  ·unfold own at ho;rw[e2] at ho;simp at ho
 have hlw:j<w.rs.length:=by omega
 have hn:(at_ Rc.o w.rs j).ns≠[]:=G.nf j h16 hlw how;refine⟨h16,zlt hlw ((zcV _ _).2 (zhb G hu hfo h16 hlw how)) (Nat.le_refl _),c2,c3,c1,by rw[←c1];exact hn,fun m hm=> ?_⟩;obtain⟨h1,e,h2,h3,h4⟩:=(G.fit.nk j).1 m (by show m∈(at_ Rc.o w.rs j).ns;rw[c1];exact hm);obtain⟨d1,d2,d3,d4⟩:=zci h1;rw[rc_w] at h2;rw[zoH] at h3;exact⟨d1,d2,e,h2,h3,h4⟩
structure Facts (v:Pt) (p:Rp):Prop where
 good:Good ⟨p.v,[],[]⟩
 use:Use v p.v
 len:p.v.rs.length=v.rs.length
 sn:∀j,Nc j p→core (at_ Rc.o p.v.rs j)=core (at_ Rc.o v.rs j)
 val:partsErr p.v=0
 map:p.v.mp=used p.v
 again:zai p.v=⟨p.v,[],[]⟩
 same:p.fd=[]→p.v=v
theorem repaired_len {v:Pt} (hf:FitP v) (he:partsErr v=0):(zai v).v.rs.length=v.rs.length:=by
 have h:=(zmm hf he).2.2.2.2.1;rw[zbO];generalize rep9 v=p at h⊢;exact h
theorem facts {v:Pt} (hf:FitP v) (he:partsErr v=0):Facts v (zai v):=by
 have h1:=zeB hf he [] [];have h2:=repaired_use v;have h3:=repaired_len hf he;have h4:=repaired_sn v;have h5:=zd1 hf he;have h6:=zfO v;have h7:=repaired_again hf he;have h8:=repaired_same hf he
 generalize zai v=p at*
 exact⟨h1,h2,h3,fun j hj=>(h4 j hj).2,h5,h6,h7,h8⟩
theorem cl_rec {v:Pt} {t:List Bool} {i:Nat} (hi:i<v.rs.length) (h:∃u,cl t (za7 v v.rs.length)=some u) {w:List Bool} (hw:cl t (za7 v i)=some w) (hu:(at_ Rc.o v.rs i).u=true∨(at_ Rc.o v.rs i).ss=[]):∃x,cl w (zdj (at_ Rc.o v.rs i))=some x∧cl t (za7 v (i+1))=some x:=by
 obtain⟨u,hu2⟩:=h;obtain⟨l,hl⟩:=zdi v v.rs.length (i+1) hi;rw[hl] at hu2;obtain⟨x,hx,_⟩:=zg5 hu2;refine⟨x,?_,hx⟩;rw[za5,zcw,hw] at hx;have hx:cl w (if(at_ Rc.o v.rs i).u then zdj (at_ Rc.o v.rs i) else [])=some x:=hx
 rcases hu with hu|hu
 ·rw[if_pos hu] at hx;exact hx
 ·have e:zdj (at_ Rc.o v.rs i)=[]:=by unfold zdj;rw[hu];rfl
  rw[e] at hx⊢;split at hx
  ·exact hx
  ·exact hx
end Ck
namespace Go.Proofs.YtgcjejajljhnaaaGreatDoor
open Go.ChangeShapes Go.WideShapes Go.ChangeAt Go.RowKit Go.Deep
theorem Tryz.own :ownKnob Tryz.prog.godebug=none:=by kernel_rfl
theorem Tryz.laidOut :laidOutB Tryz.prog=true:=by kernel_rfl
section
variable {H : Type} {enc : TypeId × Value → H} {P : Program} {W W' : World}
theorem zgv (hl:laidOutB P=true) (hb:Below W.heap.size W W'):∀(ts:List TypeId) (vs:List Value) (ds:List (DataW H)) (ps:List MemPlace),
  (∀t∈ts,P.readableRec t=true∧t<P.types.size)→DataW.TrodAll enc P W 0 (fun _=>true) true ts vs ds ps→(∀x∈ps,x.block<W.heap.size)→
  DataW.TrodAll enc P W' 0 (fun b=>decide (b<W.heap.size)) true ts vs ds ps
 |[],[],[],_,_,h,_=>h
 |t::ts,v::vs,d::ds,ps,ht,h,hlt=>by
  obtain⟨p,q,h1,h2,rfl⟩:=h;have hp:=ht t (List.mem_cons_self ..);exact⟨p,q,Below.trod hl hp.1 hp.2 h1 hb (fun x hx=>hlt x (List.mem_append_left _ hx)),zgv hl hb ts vs ds q (fun u hu=>ht u (List.mem_cons_of_mem _ hu)) h2 (fun x hx=>hlt x (List.mem_append_right _ hx)),rfl⟩
theorem zlg {f:Func} {s:ChangeSpec} {args:Array Value} {ds gs:List (DataW H)} {before:List MemPlace} {tb:TypeId} (hl:laidOutB P=true) (htb:P.underlying tb=some .bool) (hs:s.vars=[])
  (hf:f.resultTypes= #[tb]) (hr:s.fn H (ds++gs)={results:=[.lit (.bool true)],args:=ds}) (hW:DataW.Whole enc P f.params.toList s.vars false W args.toList ds gs before)
  (hts:∀t∈f.params.toList,P.readableRec t=true∧t<P.types.size) (hb:Below W.heap.size W W'):s.post enc P f false true false false W args (.bool true) W':=by
 have hlt:∀p∈before,p.block<W.heap.size:=fun p hp=>hW.lt p hp
 have hW':=hW;obtain⟨p,q,hA,hV,rfl,_,_⟩:=hW';rw[hs] at hV;obtain⟨rfl,rfl⟩:=trodVars_none hV;refine⟨ds,[],_,[],p,[],hW,?_,?_,?_,World.keptBut_mono (fun x hx=>⟨hx,?_⟩) (hb.frame (·∈p++[])),fun h=>by cases h⟩
 ·rw[hr,hf];exact trodAll_mk1 (shut_bool htb true)
 ·rw[hr];exact zgv hl hb _ _ _ _ hts hA (fun x hx=>hlt x (List.mem_append_left _ hx))
 ·rw[hr,hs];exact rfl
 ·rw[List.append_nil] at hx;exact Or.inr (Or.inl hx)
end
set_option maxRecDepth 100000
end Go.Proofs.YtgcjejajljhnaaaGreatDoor











namespace Go.Hp
open Go.RowKit
class El (α:Type) (n:outParam Nat) where
 cells:α→List Value
 o:α
 len:∀a,(cells a).length=n
 one:∀a,∀u∈cells a,u.oneCell'=true
 pos:0<n
end Go.Hp
namespace Ck
open Go Go.RowKit Go.Hp
instance elInt :El Int 1:=⟨fun x=>[.int .i64 x],0,fun _=>rfl,fun _ u hu=>by simp at hu;subst hu;rfl,by decide⟩
instance elRun :El Run 2:=⟨fun x=>[.int .i64 x.s, .int .i64 x.l],Run.o,fun _=>rfl,fun _ u hu=>by simp at hu;rcases hu with rfl|rfl<;>rfl,by decide⟩
instance elNm :El Nm 3:=⟨fun x=>[.int .i64 x.d.r, .int .i64 x.d.q, .string ⟨x.n.toArray⟩],Nm.o,fun _=>rfl,fun _ u hu=>by simp at hu;rcases hu with rfl|rfl|rfl<;>rfl,by decide⟩
instance elEn :El En 4:=⟨fun x=>[.string ⟨x.n.toArray⟩, .int .i64 x.f.r, .int .i64 x.f.q, .int .i64 x.z],En.o,fun _=>rfl,fun _ u hu=>by simp at hu;rcases hu with rfl|rfl|rfl|rfl<;>rfl,by decide⟩
end Ck
namespace Go.Proofs.YtgcjejajljhnaaaGreatDoor
open Go.ChangeShapes Go.WideShapes Go.ChangeAt Go.RowKit Go.Deep Go.Hp
set_option maxRecDepth 100000
theorem zmE {α:Type} (d:α) {p:Nat→α→Prop}:∀n:Nat,(∀i,i<n→∃a,p i a)→∃l:List α,l.length=n∧∀i,i<n→p i (Ck.at_ d l i)
 |0,_=>⟨[],rfl,fun _ h=>absurd h (by omega)⟩
 |n+1,h=>by
  obtain⟨l,hl,hp⟩:=zmE d n fun i hi=>h i (by omega)
  obtain⟨a,ha⟩:=h n (by omega);refine⟨l++[a],by simp[hl],fun i hi=> ?_⟩;unfold Ck.at_ at hp⊢;by_cases e:i=n
  ·subst e;rw[List.getElem?_append_right (by omega)];simpa[hl] using ha
  ·have:=hp i (by omega)
   rwa [List.getElem?_append_left (by omega)]
section
variable {H : Type} {enc : TypeId × Value → H} {W : World} {held : Bool}
theorem add_at (b o i:Nat):(⟨b,o,none⟩:Addr).add i=⟨b,o+i,none⟩:=by
 unfold Addr.add;split
 ·subst_vars;rfl
 ·rfl
theorem open_int1 {fuel:Nat} {cs:List Value} {x:DataW H×List MemPlace} (h:DataW.trod enc Tryz.prog W 0 (fun _=>true) held fuel 3 cs=some x) (_:cs.length=1) (_:∀p∈x.2,p.block<W.heap.size):∃a:Int,cs=El.cells a∧True:=by
 obtain⟨n,e,_,_⟩:=DataW.trod_int Tryz.underlying3 h;exact⟨n,e,trivial⟩
theorem open_run {fuel:Nat} {cs:List Value} {x:DataW H×List MemPlace} (h:DataW.trod enc Tryz.prog W 0 (fun _=>true) held fuel 78 cs=some x) (hsz:cs.length=2) (hlt:∀p∈x.2,p.block<W.heap.size):∃a:Ck.Run,cs=El.cells a∧(fun _=>True) a:=by
 obtain⟨xs,n,_,hx,_,hxl,hg⟩:=DataW.trod_struct Tryz.underlying78 h
 have hC0:Tryz.prog.cellsOf 3=1:=by kernel_rfl
 match cs,hsz,xs,hxl with
 |[c0,c1],_,[y0,y1],_=>
  have hp:x.2=([y0,y1]:List (DataW H×List MemPlace)).flatMap Prod.snd:=by rw[hx]
  have h0:DataW.trod enc Tryz.prog W 0 (fun _=>true) held n 3 (List.take (Tryz.prog.cellsOf 3) (List.drop 0 [c0,c1]))=some y0:=hg 0 _ rfl;have h1:DataW.trod enc Tryz.prog W 0 (fun _=>true) held n 3 (List.take (Tryz.prog.cellsOf 3) (List.drop 1 [c0,c1]))=some y1:=hg 1 _ rfl;rw[hC0] at h0;obtain⟨f0,e0,_,_⟩:=DataW.trod_int Tryz.underlying3 (x:=y0) h0;rw[hC0] at h1;obtain⟨f1,e1,_,_⟩:=DataW.trod_int Tryz.underlying3 (x:=y1) h1;simp at e0;subst e0;simp at e1;subst e1;exact⟨⟨f0,f1⟩,rfl,trivial⟩
theorem zik {fuel:Nat} {cs:List Value} {x:DataW H×List MemPlace} (h:DataW.trod enc Tryz.prog W 0 (fun _=>true) held fuel 61 cs=some x) (hsz:cs.length=2) (hlt:∀p∈x.2,p.block<W.heap.size):∃a:Ck.Ref,cs=[.int .i64 a.r, .int .i64 a.q]:=by
 obtain⟨xs,n,_,hx,_,hxl,hg⟩:=DataW.trod_struct Tryz.underlying61 h
 have hC0:Tryz.prog.cellsOf 3=1:=by kernel_rfl
 match cs,hsz,xs,hxl with
 |[c0,c1],_,[y0,y1],_=>
  have hp:x.2=([y0,y1]:List (DataW H×List MemPlace)).flatMap Prod.snd:=by rw[hx]
  have h0:DataW.trod enc Tryz.prog W 0 (fun _=>true) held n 3 (List.take (Tryz.prog.cellsOf 3) (List.drop 0 [c0,c1]))=some y0:=hg 0 _ rfl;have h1:DataW.trod enc Tryz.prog W 0 (fun _=>true) held n 3 (List.take (Tryz.prog.cellsOf 3) (List.drop 1 [c0,c1]))=some y1:=hg 1 _ rfl;rw[hC0] at h0;obtain⟨f0,e0,_,_⟩:=DataW.trod_int Tryz.underlying3 (x:=y0) h0;rw[hC0] at h1;obtain⟨f1,e1,_,_⟩:=DataW.trod_int Tryz.underlying3 (x:=y1) h1;simp at e0;subst e0;simp at e1;subst e1;exact⟨⟨f0,f1⟩,rfl⟩
theorem open_nm {fuel:Nat} {cs:List Value} {x:DataW H×List MemPlace} (h:DataW.trod enc Tryz.prog W 0 (fun _=>true) held fuel 71 cs=some x) (hsz:cs.length=3) (hlt:∀p∈x.2,p.block<W.heap.size):∃a:Ck.Nm,cs=El.cells a∧(fun _=>True) a:=by
 obtain⟨xs,n,_,hx,_,hxl,hg⟩:=DataW.trod_struct Tryz.underlying71 h
 have hC0:Tryz.prog.cellsOf 61=2:=by kernel_rfl
 have hC1:Tryz.prog.cellsOf 9=1:=by kernel_rfl
 match cs,hsz,xs,hxl with
 |[c0,c1,c2],_,[y0,y1],_=>
  have hp:x.2=([y0,y1]:List (DataW H×List MemPlace)).flatMap Prod.snd:=by rw[hx]
  have h0:DataW.trod enc Tryz.prog W 0 (fun _=>true) held n 61 (List.take (Tryz.prog.cellsOf 61) (List.drop 0 [c0,c1,c2]))=some y0:=hg 0 _ rfl;have h1:DataW.trod enc Tryz.prog W 0 (fun _=>true) held n 9 (List.take (Tryz.prog.cellsOf 9) (List.drop 2 [c0,c1,c2]))=some y1:=hg 1 _ rfl;rw[hC0] at h0;obtain⟨f0,e0⟩:=zik (x:=y0) h0 rfl (fun p hp2=>hlt p (by rw[hp];simp[hp2]))
  replace e0:[c0,c1]=[.int .i64 f0.r, .int .i64 f0.q]:=e0
  rw[hC1] at h1;obtain⟨f1,e1,_,_⟩:=DataW.trod_string Tryz.underlying9 (x:=y1) h1
  obtain⟨rfl,rfl⟩:c0= .int .i64 f0.r∧c1= .int .i64 f0.q:=by simpa using e0
  simp at e1;subst e1;exact⟨⟨f0,f1.data.toList⟩,rfl,trivial⟩
theorem open_en {fuel:Nat} {cs:List Value} {x:DataW H×List MemPlace} (h:DataW.trod enc Tryz.prog W 0 (fun _=>true) held fuel 73 cs=some x) (hsz:cs.length=4) (hlt:∀p∈x.2,p.block<W.heap.size):∃a:Ck.En,cs=El.cells a∧(fun _=>True) a:=by
 obtain⟨xs,n,_,hx,_,hxl,hg⟩:=DataW.trod_struct Tryz.underlying73 h
 have hC0:Tryz.prog.cellsOf 9=1:=by kernel_rfl
 have hC1:Tryz.prog.cellsOf 61=2:=by kernel_rfl
 have hC2:Tryz.prog.cellsOf 3=1:=by kernel_rfl
 match cs,hsz,xs,hxl with
 |[c0,c1,c2,c3],_,[y0,y1,y2],_=>
  have hp:x.2=([y0,y1,y2]:List (DataW H×List MemPlace)).flatMap Prod.snd:=by rw[hx]
  have h0:DataW.trod enc Tryz.prog W 0 (fun _=>true) held n 9 (List.take (Tryz.prog.cellsOf 9) (List.drop 0 [c0,c1,c2,c3]))=some y0:=hg 0 _ rfl;have h1:DataW.trod enc Tryz.prog W 0 (fun _=>true) held n 61 (List.take (Tryz.prog.cellsOf 61) (List.drop 1 [c0,c1,c2,c3]))=some y1:=hg 1 _ rfl;have h2:DataW.trod enc Tryz.prog W 0 (fun _=>true) held n 3 (List.take (Tryz.prog.cellsOf 3) (List.drop 3 [c0,c1,c2,c3]))=some y2:=hg 2 _ rfl;rw[hC0] at h0;obtain⟨f0,e0,_,_⟩:=DataW.trod_string Tryz.underlying9 (x:=y0) h0;rw[hC1] at h1;obtain⟨f1,e1⟩:=zik (x:=y1) h1 rfl (fun p hp2=>hlt p (by rw[hp];simp[hp2]))
  replace e1:[c1,c2]=[.int .i64 f1.r, .int .i64 f1.q]:=e1
  rw[hC2] at h2;obtain⟨f2,e2,_,_⟩:=DataW.trod_int Tryz.underlying3 (x:=y2) h2;simp at e0;subst e0
  obtain⟨rfl,rfl⟩:c1= .int .i64 f1.r∧c2= .int .i64 f1.q:=by simpa using e1
  simp at e2;subst e2;exact⟨⟨f0.data.toList,f1,f2⟩,rfl,trivial⟩
end
end Go.Proofs.YtgcjejajljhnaaaGreatDoor
namespace Go.Ex
open Go
def zOf (w:World) (k i:Nat):Option Value:=match w.heap[k]? with|some (.cells cur _ _)=>cur[i]? |_=>none
theorem zOf_cell {w:World} {k i:Nat} {v:Value} (h:w.cell? ⟨k,i,none⟩=some v):zOf w k i=some v:=by
 unfold World.cell? at h;unfold zOf;simp only at h;split at h
 ·rename_i cur e fr h1;rw[h1];exact h
 ·cases h
theorem Rzl.cons {z:Nat→Nat→Option Value} {x:AV} {l:List AV} {y:Value} {ys:List Value} (h:Rz z x y) (hl:Rzl z l ys):Rzl z (x::l) (y::ys):=⟨_,_,rfl,h,hl⟩
theorem Rzl.head {z:Nat→Nat→Option Value} {x:AV} {y:Value} (h:Rzl z [x] [y]):Rz z x y:=by
 obtain⟨y',ys,e,h1,_⟩:=h;cases e;exact h1
theorem calls_known {P:Program} {f:FuncId} {args:List AV} {v:Value} {W:World} {args':List Value} (h:PureC P f args (.sc v)) (hR:Rzl (zOf W) args args') (hT:TabW W):Calls P f args'.toArray W fun e w'=>e= .returned v∧RowKit.Below W.heap.size W w':=by
 have hz:∀k i v,zOf W k i=some v→∃cur e fr,W.heap[k]? =some (.cells cur e fr)∧cur[i]? =some v:=fun k i v hv=>by
  unfold zOf at hv;split at hv
  ·rename_i cur e fr h1;exact⟨cur,e,fr,h1,hv⟩
  ·cases hv
 have hok:Ok ⟨fun _=>none,zOf W⟩ (⟨.e,0⟩:St).h.get W:=⟨fun _ _ h=>(by cases h),fun _ _ _ _ h=>(by cases h),fun k i v hv=>⟨hz k i v hv,fun _ _ h=>(by cases h)⟩,fun k x hk=>⟨hT k x hk,fun _ _ h=>(by cases h)⟩⟩
 refine Calls.mono (h ⟨.e,0⟩ ⟨fun _=>none,zOf W⟩ W args' (Rzl.rl hR) hok (fun _ _ _=>rfl)) ?_;rintro e w' ⟨y,m',rfl,hg,hy⟩;refine⟨congrArg Ending.returned hy,?_⟩;exact⟨hg.fr.os,hg.fr.tape,hg.fr.output,hg.fr.size,fun k hk=>hg.fr.block k hk fun b o hb=>by cases hb⟩
end Go.Ex
namespace Go.Proofs.YtgcjejajljhnaaaGreatDoor
open Go.ChangeShapes Go.WideShapes Go.ChangeAt Go.RowKit Go.Deep Go.Hp Go.Ex Ck
set_option maxRecDepth 100000
section
variable {H : Type} {enc : TypeId × Value → H} {W : World} {held : Bool}
theorem zbP {α:Type} {k:Nat} (f:α→List AV) (o:α) (hfl:∀x,(f x).length=k+1) {t e:TypeId} (hu:Tryz.prog.underlying t=some (.slice e)) (hC:Tryz.prog.cellsOf e=k+1)
  (one:∀(fuel:Nat) (cs:List Value) (y:DataW H×List MemPlace),DataW.trod enc Tryz.prog W 0 (fun _=>true) held fuel e cs=some y→cs.length=k+1→(∀p∈y.2,p.block<W.heap.size)→∃a:α,Rzl (zOf W) (f a) cs)
  {fuel:Nat} {cs:List Value} {x:DataW H×List MemPlace} (h:DataW.trod enc Tryz.prog W 0 (fun _=>true) held fuel t cs=some x) (hlt:∀p∈x.2,p.block<W.heap.size):∃l:List α,Rzl (zOf W) [LS (k+1) f o l] cs:=by
 rcases open_slice hu h with⟨hc,_⟩|⟨a,len,cap,m,fu,D,Pl,hc,_,hle,hcap,hm,hx,hat⟩
 ·exact⟨[],_,_,hc,⟨none,0,rfl,Nat.le_refl _,fun _=>⟨rfl,rfl⟩,fun i hi=>absurd hi (Nat.not_lt_zero _)⟩,rfl⟩
 ·have hm':m=cap:=by simpa using hm
  subst hm'
  have hcell:∀i,i<len→∃q:α,∃vs,Rzl (zOf W) (f q) vs∧vs.length=k+1∧∀j v,vs[j]? =some v→W.cell? ((a.add (i*(k+1))).add j)=some v:=by
   intro i hi;obtain⟨cs',hcs,ht⟩:=hat i (by omega);rw[hC] at hcs;obtain⟨_,hl,hcl⟩:=World.cells?_some hcs
   obtain⟨q,hq⟩:=one fu cs' _ ht (by simpa using hl) (fun p hp=>hlt p (by
    rw[hx]
    exact List.mem_append_right _ (List.mem_flatMap.2 ⟨i,List.mem_range.2 (by omega),hp⟩)))
   refine⟨q,cs',hq,by simpa using hl,fun j v hj=> ?_⟩
   have hlk:cs'.length=k+1:=by simpa using hl
   have hjk:j<k+1:=by have:=(List.getElem?_eq_some_iff.1 hj).1;omega
   have:=hcl j (by omega);rw[this];rw[List.getElem?_eq_getElem (by omega)] at hj;simpa[List.getD,List.getElem?_eq_getElem (show j<cs'.length by omega)] using hj
  obtain⟨l,hl,hp⟩:=zmE o len hcell;subst hl;refine⟨l,_,_,hc,⟨some a,m,rfl,hle,fun h=>(by rcases h with h|h;cases h;omega),fun i hi=> ?_⟩,rfl⟩;obtain⟨vs,h1,h2,h3⟩:=hp i hi;obtain⟨vs0,h10,h20,h30⟩:=hp 0 (by omega);have h0:vs0[0]? =some (vs0[0]'(by omega)):=List.getElem?_eq_getElem _
  have hs:a.spot=none:=by
   have:=World.cell?_spot (h30 0 _ h0);simpa[Addr.add] using this
  clear h10 h20 h30 h0 vs0;obtain⟨b,p,sp⟩:=a;simp only at hs;subst hs;refine⟨b,p,vs,rfl,h1,h2,fun j v hj=>zOf_cell ?_⟩;have:=h3 j v hj;simpa only[add_at] using this
theorem kone_int :∀(fuel:Nat) (cs:List Value) (y:DataW H×List MemPlace),DataW.trod enc Tryz.prog W 0 (fun _=>true) held fuel 3 cs=some y→cs.length=1→(∀p∈y.2,p.block<W.heap.size)→∃a:Int,Rzl (zOf W) (aI a) cs:=fun fuel cs y h hs hl=>by
 obtain⟨a,rfl,_⟩:=open_int1 h hs hl;exact⟨a,Rzl.cons rfl rfl⟩
theorem zli :∀(fuel:Nat) (cs:List Value) (y:DataW H×List MemPlace),DataW.trod enc Tryz.prog W 0 (fun _=>true) held fuel 78 cs=some y→cs.length=2→(∀p∈y.2,p.block<W.heap.size)→∃a:Run,Rzl (zOf W) (aRun a) cs:=fun fuel cs y h hs hl=>by
 obtain⟨a,rfl,_⟩:=open_run h hs hl;exact⟨a,Rzl.cons rfl (Rzl.cons rfl rfl)⟩
theorem kone_nm :∀(fuel:Nat) (cs:List Value) (y:DataW H×List MemPlace),DataW.trod enc Tryz.prog W 0 (fun _=>true) held fuel 71 cs=some y→cs.length=3→(∀p∈y.2,p.block<W.heap.size)→∃a:Nm,Rzl (zOf W) (aNm a) cs:=fun fuel cs y h hs hl=>by
 obtain⟨a,rfl,_⟩:=open_nm h hs hl;exact⟨a,Rzl.cons rfl (Rzl.cons rfl (Rzl.cons rfl rfl))⟩
theorem kone_en :∀(fuel:Nat) (cs:List Value) (y:DataW H×List MemPlace),DataW.trod enc Tryz.prog W 0 (fun _=>true) held fuel 73 cs=some y→cs.length=4→(∀p∈y.2,p.block<W.heap.size)→∃a:En,Rzl (zOf W) (aEn a) cs:=fun fuel cs y h hs hl=>by
 obtain⟨a,rfl,_⟩:=open_en h hs hl;exact⟨a,Rzl.cons rfl (Rzl.cons rfl (Rzl.cons rfl (Rzl.cons rfl rfl)))⟩
theorem openK_sm {fuel:Nat} {cs:List Value} {x:DataW H×List MemPlace} (h:DataW.trod enc Tryz.prog W 0 (fun _=>true) held fuel 80 cs=some x) (hsz:cs.length=2) (hlt:∀p∈x.2,p.block<W.heap.size):∃a:Sm,Rzl (zOf W) (aSm a) cs:=by
 obtain⟨xs,n,_,hx,_,hxl,hg⟩:=DataW.trod_struct Tryz.underlying80 h
 have hC0:Tryz.prog.cellsOf 22=1:=by kernel_rfl
 have hC1:Tryz.prog.cellsOf 3=1:=by kernel_rfl
 match cs,hsz,xs,hxl with
 |[c0,c1],_,[y0,y1],_=>
  have hp:x.2=([y0,y1]:List (DataW H×List MemPlace)).flatMap Prod.snd:=by rw[hx]
  have h0:DataW.trod enc Tryz.prog W 0 (fun _=>true) held n 22 (List.take (Tryz.prog.cellsOf 22) (List.drop 0 [c0,c1]))=some y0:=hg 0 _ rfl;have h1:DataW.trod enc Tryz.prog W 0 (fun _=>true) held n 3 (List.take (Tryz.prog.cellsOf 3) (List.drop 1 [c0,c1]))=some y1:=hg 1 _ rfl;rw[hC0] at h0;obtain⟨f0,e0⟩:=zbP aRun Run.o (fun _=>rfl) Tryz.underlying22 (by kernel_rfl) zli (x:=y0) h0 (fun p hp2=>hlt p (by rw[hp];simp[hp2]));rw[hC1] at h1;obtain⟨f1,e1,_,_⟩:=DataW.trod_int Tryz.underlying3 (x:=y1) h1;simp at e1;subst e1;exact⟨⟨f0,f1⟩,Rzl.cons (Rzl.head e0) (Rzl.cons rfl rfl)⟩
theorem openK_rc {fuel:Nat} {cs:List Value} {x:DataW H×List MemPlace} (h:DataW.trod enc Tryz.prog W 0 (fun _=>true) held fuel 66 cs=some x) (hsz:cs.length=10) (hlt:∀p∈x.2,p.block<W.heap.size):∃a:Rc,Rzl (zOf W) (aRc a) cs:=by
 obtain⟨xs,n,_,hx,_,hxl,hg⟩:=DataW.trod_struct Tryz.underlying66 h
 have hC0:Tryz.prog.cellsOf 4=1:=by kernel_rfl
 have hC1:Tryz.prog.cellsOf 3=1:=by kernel_rfl
 have hC2:Tryz.prog.cellsOf 61=2:=by kernel_rfl
 have hC3:Tryz.prog.cellsOf 62=1:=by kernel_rfl
 have hC4:Tryz.prog.cellsOf 63=1:=by kernel_rfl
 have hC5:Tryz.prog.cellsOf 64=1:=by kernel_rfl
 match cs,hsz,xs,hxl with
 |[c0,c1,c2,c3,c4,c5,c6,c7,c8,c9],_,[y0,y1,y2,y3,y4,y5,y6,y7,y8],_=>
  have hp:x.2=([y0,y1,y2,y3,y4,y5,y6,y7,y8]:List (DataW H×List MemPlace)).flatMap Prod.snd:=by rw[hx]
  have h0:DataW.trod enc Tryz.prog W 0 (fun _=>true) held n 4 (List.take (Tryz.prog.cellsOf 4) (List.drop 0 [c0,c1,c2,c3,c4,c5,c6,c7,c8,c9]))=some y0:=hg 0 _ rfl;have h1:DataW.trod enc Tryz.prog W 0 (fun _=>true) held n 3 (List.take (Tryz.prog.cellsOf 3) (List.drop 1 [c0,c1,c2,c3,c4,c5,c6,c7,c8,c9]))=some y1:=hg 1 _ rfl;have h2:DataW.trod enc Tryz.prog W 0 (fun _=>true) held n 3 (List.take (Tryz.prog.cellsOf 3) (List.drop 2 [c0,c1,c2,c3,c4,c5,c6,c7,c8,c9]))=some y2:=hg 2 _ rfl;have h3:DataW.trod enc Tryz.prog W 0 (fun _=>true) held n 61 (List.take (Tryz.prog.cellsOf 61) (List.drop 3 [c0,c1,c2,c3,c4,c5,c6,c7,c8,c9]))=some y3:=hg 3 _ rfl;have h4:DataW.trod enc Tryz.prog W 0 (fun _=>true) held n 3 (List.take (Tryz.prog.cellsOf 3) (List.drop 5 [c0,c1,c2,c3,c4,c5,c6,c7,c8,c9]))=some y4:=hg 4 _ rfl;have h5:DataW.trod enc Tryz.prog W 0 (fun _=>true) held n 3 (List.take (Tryz.prog.cellsOf 3) (List.drop 6 [c0,c1,c2,c3,c4,c5,c6,c7,c8,c9]))=some y5:=hg 5 _ rfl;have h6:DataW.trod enc Tryz.prog W 0 (fun _=>true) held n 62 (List.take (Tryz.prog.cellsOf 62) (List.drop 7 [c0,c1,c2,c3,c4,c5,c6,c7,c8,c9]))=some y6:=hg 6 _ rfl;have h7:DataW.trod enc Tryz.prog W 0 (fun _=>true) held n 63 (List.take (Tryz.prog.cellsOf 63) (List.drop 8 [c0,c1,c2,c3,c4,c5,c6,c7,c8,c9]))=some y7:=hg 7 _ rfl;have h8:DataW.trod enc Tryz.prog W 0 (fun _=>true) held n 64 (List.take (Tryz.prog.cellsOf 64) (List.drop 9 [c0,c1,c2,c3,c4,c5,c6,c7,c8,c9]))=some y8:=hg 8 _ rfl;rw[hC0] at h0;obtain⟨f0,e0,_⟩:=DataW.trod_bool Tryz.underlying4 (x:=y0) h0;rw[hC1] at h1;obtain⟨f1,e1,_,_⟩:=DataW.trod_int Tryz.underlying3 (x:=y1) h1;rw[hC1] at h2;obtain⟨f2,e2,_,_⟩:=DataW.trod_int Tryz.underlying3 (x:=y2) h2;rw[hC2] at h3;obtain⟨f3,e3⟩:=zik (x:=y3) h3 rfl (fun p hp2=>hlt p (by rw[hp];simp[hp2]))
  replace e3:[c3,c4]=[.int .i64 f3.r, .int .i64 f3.q]:=e3
  rw[hC1] at h4;obtain⟨f4,e4,_,_⟩:=DataW.trod_int Tryz.underlying3 (x:=y4) h4;rw[hC1] at h5;obtain⟨f5,e5,_,_⟩:=DataW.trod_int Tryz.underlying3 (x:=y5) h5;rw[hC3] at h6;obtain⟨f6,e6⟩:=zbP aNm Nm.o (fun _=>rfl) Tryz.underlying62 (by kernel_rfl) kone_nm (x:=y6) h6 (fun p hp2=>hlt p (by rw[hp];simp[hp2]));rw[hC4] at h7;obtain⟨f7,e7⟩:=zbP aSm Sm.o (fun _=>rfl) Tryz.underlying63 (by kernel_rfl) (fun _ _ _=>openK_sm) (x:=y7) h7 (fun p hp2=>hlt p (by rw[hp];simp[hp2]));rw[hC5] at h8;obtain⟨f8,e8⟩:=zbP aEn En.o (fun _=>rfl) Tryz.underlying64 (by kernel_rfl) kone_en (x:=y8) h8 (fun p hp2=>hlt p (by rw[hp];simp[hp2]));simp at e0;subst e0;simp at e1;subst e1;simp at e2;subst e2
  obtain⟨rfl,rfl⟩:c3= .int .i64 f3.r∧c4= .int .i64 f3.q:=by simpa using e3
  simp at e4;subst e4;simp at e5;subst e5;exact⟨⟨f0,f1,f2,f3,f4,f5,f6,f7,f8⟩,Rzl.cons rfl (Rzl.cons rfl (Rzl.cons rfl (Rzl.cons rfl (Rzl.cons rfl (Rzl.cons rfl (Rzl.cons rfl (Rzl.cons (Rzl.head e6) (Rzl.cons (Rzl.head e7) (Rzl.cons (Rzl.head e8) rfl)))))))))⟩
theorem openK_pt {fuel:Nat} {cs:List Value} {x:DataW H×List MemPlace} (h:DataW.trod enc Tryz.prog W 0 (fun _=>true) held fuel 26 cs=some x) (hsz:cs.length=5) (hlt:∀p∈x.2,p.block<W.heap.size):∃a:Pt,Rzl (zOf W) (aPt a) cs:=by
 obtain⟨xs,n,_,hx,_,hxl,hg⟩:=DataW.trod_struct Tryz.underlying26 h
 have hC0:Tryz.prog.cellsOf 3=1:=by kernel_rfl
 have hC1:Tryz.prog.cellsOf 22=1:=by kernel_rfl
 have hC2:Tryz.prog.cellsOf 23=1:=by kernel_rfl
 have hC3:Tryz.prog.cellsOf 24=1:=by kernel_rfl
 have hC4:Tryz.prog.cellsOf 9=1:=by kernel_rfl
 match cs,hsz,xs,hxl with
 |[c0,c1,c2,c3,c4],_,[y0,y1,y2,y3,y4],_=>
  have hp:x.2=([y0,y1,y2,y3,y4]:List (DataW H×List MemPlace)).flatMap Prod.snd:=by rw[hx]
  have h0:DataW.trod enc Tryz.prog W 0 (fun _=>true) held n 3 (List.take (Tryz.prog.cellsOf 3) (List.drop 0 [c0,c1,c2,c3,c4]))=some y0:=hg 0 _ rfl;have h1:DataW.trod enc Tryz.prog W 0 (fun _=>true) held n 22 (List.take (Tryz.prog.cellsOf 22) (List.drop 1 [c0,c1,c2,c3,c4]))=some y1:=hg 1 _ rfl;have h2:DataW.trod enc Tryz.prog W 0 (fun _=>true) held n 23 (List.take (Tryz.prog.cellsOf 23) (List.drop 2 [c0,c1,c2,c3,c4]))=some y2:=hg 2 _ rfl;have h3:DataW.trod enc Tryz.prog W 0 (fun _=>true) held n 24 (List.take (Tryz.prog.cellsOf 24) (List.drop 3 [c0,c1,c2,c3,c4]))=some y3:=hg 3 _ rfl;have h4:DataW.trod enc Tryz.prog W 0 (fun _=>true) held n 9 (List.take (Tryz.prog.cellsOf 9) (List.drop 4 [c0,c1,c2,c3,c4]))=some y4:=hg 4 _ rfl;rw[hC0] at h0;obtain⟨f0,e0,_,_⟩:=DataW.trod_int Tryz.underlying3 (x:=y0) h0;rw[hC1] at h1;obtain⟨f1,e1⟩:=zbP aRun Run.o (fun _=>rfl) Tryz.underlying22 (by kernel_rfl) zli (x:=y1) h1 (fun p hp2=>hlt p (by rw[hp];simp[hp2]));rw[hC2] at h2;obtain⟨f2,e2⟩:=zbP aRc Rc.o (fun _=>rfl) Tryz.underlying23 (by kernel_rfl) (fun _ _ _=>openK_rc) (x:=y2) h2 (fun p hp2=>hlt p (by rw[hp];simp[hp2]));rw[hC3] at h3;obtain⟨f3,e3⟩:=zbP aI 0 (fun _=>rfl) Tryz.underlying24 (by kernel_rfl) kone_int (x:=y3) h3 (fun p hp2=>hlt p (by rw[hp];simp[hp2]));rw[hC4] at h4;obtain⟨f4,e4,_,_⟩:=DataW.trod_string Tryz.underlying9 (x:=y4) h4;simp at e0;subst e0;simp at e4;subst e4;exact⟨⟨f0,f1,f2,f3,f4.data.toList⟩,Rzl.cons rfl (Rzl.cons (Rzl.head e1) (Rzl.cons (Rzl.head e2) (Rzl.cons (Rzl.head e3) (Rzl.cons rfl rfl))))⟩
theorem zgI {v:Value} {d:DataW H} {p:List MemPlace} {r:Reach} {b0:Nat} (hv:Value.okWide Tryz.prog W r b0 26 v) (h:DataW.Trod enc Tryz.prog W 0 (fun _=>true) held 26 v d p) (hlt:∀x∈p,x.block<W.heap.size):
  ∃a:Pt,Rz (zOf W) (aPts a) v:=by
 obtain⟨cs,rfl,hsz⟩:=okWide_struct Tryz.underlying26 hv;obtain⟨fuel,hf⟩:=h
 have hC:Tryz.prog.cellsOf 26=5:=by kernel_rfl
 rw[hC] at hsz;obtain⟨a,ha⟩:=openK_pt hf (by simpa[Value.cells] using hsz) hlt;exact⟨a,cs.toList,ha,by simp⟩
end
end Go.Proofs.YtgcjejajljhnaaaGreatDoor
namespace Go
variable {H : Type} {enc : TypeId × Value → H}
theorem returnsInHanded_of_change_both {a:Assume} {C:Checked} {os:Os} {f:FuncId} {fn:Func} {s:ChangeSpec} {conds:List PathCond} {apart fresh handsOn again:Bool} {X:World→Array Value→Prop}
  (hX:∀(w w':World) (args:Array Value),w.heap=w'.heap→X w args→X w' args)
  (own:ownKnob C.prog.godebug=none) (started:os.Started) (noInit:C.prog.inits.idxOf? f=none) (hfn:C.prog.funcs[f]? =some fn)
  (witness:∃(w:World) (tape:Tape) (i:Input),w.os=os∧(w.forCall tape i).Shaped C.prog∧i.vars=[]∧Input.okWide C.prog (w.forCall tape i) .any w.heap.size f i∧
   ((s.pre enc C.prog fn conds apart (w.forCall tape i).memory i.args∧X (w.forCall tape i).memory i.args)∧sizedMet enc C.prog fn (OpenSpec.ofChange s) apart (w.forCall tape i).memory i.args)∧a.holds C.prog (lone (Frame.enter C.prog f i.args .normal) [] (w.forCall tape i)))
  (contract:∀(W:World) (base:Nat) (args:Array Value) (ds gs:List (DataW H)) (before:List MemPlace),
   (∀(j:Nat) t v,fn.params[j]? =some t→args[j]? =some v→Value.okWide C.prog W .any base t v)→
   DataW.Whole enc C.prog fn.params.toList s.vars apart W args.toList ds gs before→
   conds.all (PathCond.test C.prog ⟨fn.params.toList,ds,s.plain.varTypes C.prog,gs⟩)=true→
   (DataW.weightsEach C.prog (fn.params.toList++s.plain.varTypes C.prog) (ds++gs)).all (·≤reachBytes)=true→X W args→W.ShapedOpen C.prog→
   a.holds C.prog (lone (Frame.enter C.prog f args .normal) [] W)→
   Calls C.prog f args W fun e W'=>∃v,e= .returned v∧s.post enc C.prog fn apart fresh handsOn again W args v W'):
  ReturnsInHanded a C os f .any (fun w args=>(s.pre enc C.prog fn conds apart w args∧X w args)∧sizedMet enc C.prog fn (OpenSpec.ofChange s) apart w args) (s.post enc C.prog fn apart fresh handsOn again):=by
 refine returnsInHanded_of_calls own started noInit witness ?_;intro w tape i _ hsh _ hok hpre hholds;obtain⟨_,_,_,fn',hfn',_,_,_,_,hval⟩:=hok;have e:fn'=fn:=Option.some.inj (hfn'.symm.trans hfn);subst e;obtain⟨⟨⟨ds,gs,before,hw,hc⟩,hx⟩,hz⟩:=hpre;have hw':=DataW.Whole.of_heap (w':=w.forCall tape i) (by rfl) hw
 refine(contract (w.forCall tape i) w.heap.size i.args ds gs before hval hw' hc (hz.weights hw) (hX _ _ _ (by rfl) hx) hsh hholds).mono fun e W' ⟨v,he,hp⟩=> ?_
 subst he;exact ChangeSpec.post_blind hp
end Go
namespace Go.Proofs
open Go.Shelf
def Tryz.laysM171_ren :Go.Shelf.Ren:=⟨fun|171=>82|243=>127|246=>160|283=>186|284=>187|285=>188|286=>189|129=>206|317=>205|318=>207|319=>208|320=>209|337=>223|338=>224|n=>n,fun|3=>3|9=>9|2=>2|4=>4|171=>195|0=>0|53=>196|37=>117|5=>5|173=>199|212=>214|51=>215|20=>20|213=>216|46=>217|232=>240|233=>241|n=>n,fun|17=>0|18=>6|19=>7|n=>n⟩
theorem Tryz.laysM171 :Go.Proofs.LaysM.n171 Tryz.prog Tryz.laysM171_ren:={
 mixed:=by kernel_rfl
 f129:=Tryz.func206.trans (congrArg some (by kernel_rfl))
 f171:=Tryz.func82.trans (congrArg some (by kernel_rfl))
 f243:=Tryz.func127.trans (congrArg some (by kernel_rfl))
 f246:=Tryz.func160.trans (congrArg some (by kernel_rfl))
 f283:=Tryz.func186.trans (congrArg some (by kernel_rfl))
 f284:=Tryz.func187.trans (congrArg some (by kernel_rfl))
 f285:=Tryz.func188.trans (congrArg some (by kernel_rfl))
 f286:=Tryz.func189.trans (congrArg some (by kernel_rfl))
 f317:=Tryz.func205.trans (congrArg some (by kernel_rfl))
 f318:=Tryz.func207.trans (congrArg some (by kernel_rfl))
 f319:=Tryz.func208.trans (congrArg some (by kernel_rfl))
 f320:=Tryz.func209.trans (congrArg some (by kernel_rfl))
 f337:=Tryz.func223.trans (congrArg some (by kernel_rfl))
 f338:=Tryz.func224.trans (congrArg some (by kernel_rfl))
 t0:=Tryz.underlying0
 a0:=Tryz.isAgg0
 z0:=Tryz.sizeOf0
 v0:=Tryz.zeroValue0
 t2:=Tryz.underlying2
 a2:=Tryz.isAgg2
 z2:=Tryz.sizeOf2
 v2:=Tryz.zeroValue2
 t3:=Tryz.underlying3
 a3:=Tryz.isAgg3
 z3:=Tryz.sizeOf3
 v3:=Tryz.zeroValue3
 t4:=Tryz.underlying4
 a4:=Tryz.isAgg4
 z4:=Tryz.sizeOf4
 v4:=Tryz.zeroValue4
 t5:=Tryz.underlying5
 a5:=Tryz.isAgg5
 z5:=Tryz.sizeOf5
 v5:=Tryz.zeroValue5
 t9:=Tryz.underlying9
 a9:=Tryz.isAgg9
 z9:=Tryz.sizeOf9
 v9:=Tryz.zeroValue9
 t20:=Tryz.underlying20
 a20:=Tryz.isAgg20
 z20:=Tryz.sizeOf20
 v20:=Tryz.zeroValue20
 t37:=Tryz.underlying117
 a37:=Tryz.isAgg117
 z37:=Tryz.sizeOf117
 v37:=Tryz.zeroValue117
 t46:=Tryz.underlying217
 a46:=Tryz.isAgg217
 z46:=Tryz.sizeOf217
 v46:=Tryz.zeroValue217
 t51:=Tryz.underlying215
 a51:=Tryz.isAgg215
 z51:=Tryz.sizeOf215
 v51:=Tryz.zeroValue215
 t53:=Tryz.underlying196
 a53:=Tryz.isAgg196
 z53:=Tryz.sizeOf196
 v53:=Tryz.zeroValue196
 t171:=Tryz.underlying195
 a171:=Tryz.isAgg195
 z171:=Tryz.sizeOf195
 v171:=Tryz.zeroValue195
 t173:=Tryz.underlying199
 a173:=Tryz.isAgg199
 z173:=Tryz.sizeOf199
 v173:=Tryz.zeroValue199
 t212:=Tryz.underlying214
 a212:=Tryz.isAgg214
 z212:=Tryz.sizeOf214
 v212:=Tryz.zeroValue214
 t213:=Tryz.underlying216
 a213:=Tryz.isAgg216
 z213:=Tryz.sizeOf216
 t232:=Tryz.underlying240
 a232:=Tryz.isAgg240
 z232:=Tryz.sizeOf240
 v232:=Tryz.zeroValue240
 t233:=Tryz.underlying241
 a233:=Tryz.isAgg241
 z233:=Tryz.sizeOf241
 v233:=Tryz.zeroValue241
 g17:=by kernel_rfl
 g18:=by kernel_rfl
 g19:=by kernel_rfl
 i0:=by kernel_rfl
 i2:=by kernel_rfl
 i3:=by kernel_rfl
 i4:=by kernel_rfl
 i5:=by kernel_rfl
 i9:=by kernel_rfl
 i20:=by kernel_rfl
 i37:=by kernel_rfl
 i46:=by kernel_rfl
 i51:=by kernel_rfl
 i53:=by kernel_rfl
 i171:=by kernel_rfl
 i173:=by kernel_rfl
 i212:=by kernel_rfl
 i232:=by kernel_rfl
 i233:=by kernel_rfl
 m17:=by kernel_rfl
 m18:=by kernel_rfl
 m19:=by kernel_rfl}
open Go.RowKit Go.Sort Go.Lib in
theorem Tryz.strconv_Itoa (n:Int) (h0: -9223372036854775808≤n) (h1:n≤9223372036854775807) (w:World) (htab:Lib.TabIs Tryz.prog w "internal/strconv.uint64pow10" .u64 Lib.pow10Tab):
  Calls Tryz.prog 82 #[.int .i64 n] w fun e w'=>e= .returned (.string ⟨(Lib.itoa n).toArray⟩)∧∃k os,w'=grow (w.drewN k) os:=Any.strconv_Itoa Tryz.laysM171 n h0 h1 w htab
end Go.Proofs
namespace Ck
theorem zn5 :∀m n,n≤m→Go.Lib.decDigits n=dec n
 |0,n,h=>by
  rw[Go.Lib.decDigits,dif_pos (by omega),dec_lt (by omega)];unfold digit;rw[Nat.mod_eq_of_lt (by omega)]
 |m+1,n,h=>by
  by_cases h1:n<10
  ·rw[Go.Lib.decDigits,dif_pos h1,dec_lt h1];unfold digit;rw[Nat.mod_eq_of_lt h1]
  ·rw[Go.Lib.decDigits,dif_neg h1,zjM h1,zn5 m (n/10) (by omega)];rfl
theorem itoa_dec (n:Nat):Go.Lib.itoa (n:Int)=dec n:=by unfold Go.Lib.itoa;rw[if_neg (by omega),Int.toNat_natCast];exact zn5 n n (Nat.le_refl _)
end Ck
namespace Go.Proofs.YtgcjejajljhnaaaGreatDoor
open Go.Ex Ck Go.RowKit
set_option maxRecDepth 100000
theorem tabIs {w:World} (ht:TabW w):Lib.TabIs Tryz.prog w "internal/strconv.uint64pow10" .u64 Lib.pow10Tab:=by
 have e0:Tryz.prog.globalNamed "internal/strconv.uint64pow10" =some 0:=by kernel_rfl
 obtain⟨e,fr,h⟩:=ht 0 _ (by unfold tabs;rw[if_pos rfl]);unfold Lib.TabIs World.var?;rw[e0];simp only[Option.bind_some];rw[h]
theorem tabW_of {w:World} (h:Lib.TabIs Tryz.prog w "internal/strconv.uint64pow10" .u64 Lib.pow10Tab):TabW w:=fun k x hk=>by
 have e0:Tryz.prog.globalNamed "internal/strconv.uint64pow10" =some 0:=by kernel_rfl
 unfold tabs at hk;split at hk
 ·rename_i e;subst e;unfold Lib.TabIs World.var? at h;rw[e0] at h;simp only[Option.bind_some] at h;split at h
  ·rename_i cs e fr hw;have e1:cs=x:=Option.some.inj (h.trans hk);subst e1;exact⟨e,fr,hw⟩
  ·cases h
 ·cases hk
theorem znv :zjY:=fun n hn _=>CallOk.of_below (args:=[.int .i64 (n:Nat)]) fun w ht=>
 (Tryz.strconv_Itoa (n:Nat) (by omega) (by omega) w (tabIs ht)).mono fun e w' ⟨he,k,os,hw⟩=>⟨by rw[he,itoa_dec],hw▸Lib.below_grow w.heap.size w (Nat.le_refl _) k os⟩
end Go.Proofs.YtgcjejajljhnaaaGreatDoor
namespace Go.Proofs.YtgcjejajljhnaaaGreatDoor
open Go.Ex
theorem zi1 {W:World} (h2:laidMet Tryz.prog [("internal/strconv.uint64pow10",Rows.laid_internal_strconv_uint64pow10)] W):TabW W:=by
 have e0:Tryz.prog.globalNamed "internal/strconv.uint64pow10" =some 0:=by kernel_rfl
 have t0:(Tryz.prog.globals[0]?).map (·.type)=some 214:=by kernel_rfl
 have d0:(Rows.laid_internal_strconv_uint64pow10:DataW Unit)=Lib.tabData .u64 Lib.pow10Tab:=by kernel_rfl
 have h3:laidMet Tryz.prog [("internal/strconv.uint64pow10",Lib.tabData .u64 Lib.pow10Tab)] W:=by
  rw[←d0];exact h2
 exact tabW_of (Lib.tabIs_of_head (n:=20) (e:=196) e0 t0 (by kernel_rfl) (by kernel_rfl) (by kernel_rfl) (by kernel_rfl) h3)
end Go.Proofs.YtgcjejajljhnaaaGreatDoor
