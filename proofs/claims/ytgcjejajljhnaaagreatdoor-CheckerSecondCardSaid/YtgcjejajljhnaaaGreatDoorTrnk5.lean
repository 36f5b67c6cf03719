/- Own text, part Trnk 5: walks of the package acl and of its reference, and the plain laws that they lean on; no statement of the seat is here. -/
import Derived.Test.YtgcjejajljhnaaaGreatDoorTrnk4
import Derived.Test.YtgcjejajljhnaaaGreatDoorTrnk3
set_option linter.all false
namespace Ck
open Go Go.Ex
theorem xor_u8 (a b:UInt8):ze1 .xor .u8 (a.toNat:Int) (b.toNat:Int)=((a^^^b).toNat:Int):=by
 have ha:BitVec.ofInt 8 (a.toNat:Int)=a.toBitVec:=by rw[BitVec.ofInt_natCast];exact BitVec.ofNat_toNat _ _▸by simp
 have hb:BitVec.ofInt 8 (b.toNat:Int)=b.toBitVec:=by rw[BitVec.ofInt_natCast];exact BitVec.ofNat_toNat _ _▸by simp
 have hl:(a^^^b).toNat<256:=(a^^^b).toNat_lt;show IntKind.u8.wrap (((BitVec.ofInt 8 (a.toNat:Int)^^^BitVec.ofInt 8 (b.toNat:Int)).toNat:Nat):Int)=_;rw[ha,hb];show IntKind.u8.wrap (((a^^^b).toNat:Nat):Int)=_
 have key:∀x:Fin 256,IntKind.u8.wrap ((x.1:Nat):Int)=x.1:=by decide+kernel
 exact key ⟨_,hl⟩
theorem low_u8 (a:UInt8) (k:Nat) (hk:k<8):ze1 .and .u8 (shrZ .u8 (a.toNat:Int) (k:Int)) 1=((a.toNat/2^k%2:Nat):Int):=by
 have key:∀k:Fin 8,∀a:Fin 256,ze1 .and .u8 (shrZ .u8 ((a:Nat):Int) ((k:Nat):Int)) 1=((a.1/2^k.1%2:Nat):Int):=by decide+kernel
 exact key ⟨k,hk⟩ ⟨a.toNat,a.toNat_lt⟩
theorem xor_bit (a b k:Nat):(a^^^b)/2^k%2=1↔a/2^k%2≠b/2^k%2:=by
 have h:=Nat.testBit_xor a b k;rw[Nat.testBit_eq_decide_div_mod_eq,Nat.testBit_eq_decide_div_mod_eq,Nat.testBit_eq_decide_div_mod_eq] at h;have h1:a/2^k%2<2:=Nat.mod_lt _ (by omega);have h2:b/2^k%2<2:=Nat.mod_lt _ (by omega)
 generalize a/2^k%2=x at*
 generalize b/2^k%2=y at*
 generalize (a^^^b)/2^k%2=z at*
 have hx:x=0∨x=1:=by omega
 have hy:y=0∨y=1:=by omega
 rcases hx with rfl|rfl<;>rcases hy with rfl|rfl<;>simp at h⊢<;>omega
theorem bit_ne (a b:UInt8) (k:Nat) (hk:k<8):ze1 .and .u8 (shrZ .u8 (ze1 .xor .u8 (a.toNat:Int) (b.toNat:Int)) (k:Int)) 1=1↔a.toNat/2^k%2≠b.toNat/2^k%2:=by
 rw[xor_u8,low_u8 _ _ hk,←xor_bit,UInt8.toNat_xor];omega
theorem bit_v (want:List UInt8) (p:Rp) (c:Nat):(zar want p c).v=p.v∧(zar want p c).fd.length≤p.fd.length+1∧((zar want p c).fl.length=(zar want p c).fd.length↔p.fl.length=p.fd.length):=by
 unfold zar Rp.note;split
 ·exact⟨rfl,by simp,by simp⟩
 ·exact⟨rfl,by omega,Iff.rfl⟩
theorem ze0 (want:List UInt8) (p:Rp) (hl:p.fl.length=p.fd.length):∀k,(it (zar want) p k).v=p.v∧(it (zar want) p k).fd.length≤p.fd.length+k∧(it (zar want) p k).fl.length=(it (zar want) p k).fd.length
 |0=>⟨rfl,Nat.le_refl _,hl⟩
 |k+1=>by
  obtain⟨h1,h2,h3⟩:=ze0 want p hl k;obtain⟨h4,h5,h6⟩:=bit_v want (it (zar want) p k) k;exact⟨h4.trans h1,by show(zar want _ k).fd.length≤_;omega,h6.2 h3⟩
end Ck
namespace Go.Proofs.YtgcjejajljhnaaaGreatDoor
open Go.Ex Ck
set_option maxRecDepth 100000
set_option maxHeartbeats 8000000
theorem bits_h (n N:Nat) (ph:Bool) (p:Ck.Rp) (hf:Rf n p) (hn:n≤96) (ho:Okv p.v) (hm:p.v.mp.length=N) (hN:N=((p.v.c+7)/8).toNat) (hb:p.fd.length≤600000):HG Tryz.prog 2 20 220 113 [.ptr 0 0] (gP ph p) [.row (pRow 20 1 p) 106 0, .row (flatI (rcP ph 20) 0 p.v.rs) 66 10] (.tup [])
  (gP ph (Ck.bits p)) [.row (pRow 20 1 (Ck.bits p)) 106 0, .row (flatI (rcP ph 20) 0 (Ck.bits p).v.rs) 66 10]:=by
 have hpn:p.v.rs.length=n:=hf.n
 have h96:p.v.rs.length≤96:=by omega
 have hc:=ho.c
 have hul:(Ck.used p.v).length=N:=by
  unfold Ck.used;rw[zfS,zip,hN];simp
 refine HG.of kmix (by omega) ?_
 (conv=>whnf);repeat((refine KCall.lend (zF 20 [1]) (znF p.v ho) rfl ?_ ?_;exact Wzc (zje (Lies.mk (fun j hj=>zbd hj) (fun j hj=>zaq (by omega))) h96 rfl (zbA (List.mem_singleton.2 rfl)) rfl) Wzn;conv=>whnf))
 obtain⟨W,hW⟩:∃W,Ck.used p.v=W:=⟨_,rfl⟩
 rw[hW] at hul⊢
 refine WLoop.inv kmix (D:=Nat) (fun d=>p.v.c.toNat-d) (fun d=>d≤p.v.c.toNat) (fun d=>slots [(0, .ptr 0 0),(2,tb W),(13,ib p.v.c),(14,ib d)] 44)
  (fun d=>zax 20 220 (gP ph (it (zar W) p d)) [.row (pRow 20 1 (it (zar W) p d)) 106 0, .row (flatI (rcP ph 20) 0 (it (zar W) p d).v.rs) 66 10]) 0 (Nat.zero_le _) ?_ ?_
 ·(refine Weak.ofG [0,1] [] [] rfl rfl rfl rfl ?_ ?_ ?_ ?_;exact⟨pQ rfl rfl,rQ h96,trivial⟩;exact gQ;exact zN;(focus((repeat' first|exact zT|exact rfl|refine zA ?_ ?_))))
 ·intro d hd;obtain⟨h1,h2,h3⟩:=ze0 W p hf.fl d;have hst:it (zar W) p (d+1)=zar W (it (zar W) p d) d:=rfl
  have hfin:d=p.v.c.toNat→{it (zar W) p d with v:={(it (zar W) p d).v with mp:=W}}=Ck.bits p:=fun e=>by rw[e,←hW];rfl
  generalize it (zar W) p d=q at*
  have hq96:q.v.rs.length≤96:=by rw[h1];exact h96
  have stay:∀{t:Tm} {s:St} {q':Ck.Rp},zar W q d=q'→Weak 2 t s (slots [(0, .ptr 0 0),(2,tb W),(13,ib p.v.c),(14,ib (d+1:Nat))] 44) (zax 20 220 (gP ph q') [.row (pRow 20 1 q') 106 0, .row (flatI (rcP ph 20) 0 q'.v.rs) 66 10])→
    Weak 2 t s (slots [(0, .ptr 0 0),(2,tb W),(13,ib p.v.c),(14,ib (d+1:Nat))] 44) (zax 20 220 (gP ph (it (zar W) p (d+1))) [.row (pRow 20 1 (it (zar W) p (d+1))) 106 0, .row (flatI (rcP ph 20) 0 (it (zar W) p (d+1)).v.rs) 66 10]):=fun he hw=>by rw[hst,he];exact hw
  conv=>whnf
  refine KIf.dec (fun h=> ?_) (fun h=> ?_)
  ·have hd8:((d:Nat):Int).tdiv 8=((d/8:Nat):Int):=zl4 (by omega);have hm8:((d:Nat):Int).tmod 8=((d%8:Nat):Int):=znm (by omega)
   have hq:(8:Int)≠0∧Small (((d:Nat):Int).tdiv 8):=⟨by omega,by unfold Small;rw[hd8];omega⟩
   have hix:(0:Int)≤((d:Nat):Int).tdiv 8∧((d:Nat):Int).tdiv 8<(W.length:Nat):=by rw[hd8,hul];omega
   have hix2:(0:Int)≤((d:Nat):Int).tdiv 8∧((d:Nat):Int).tdiv 8<(q.v.mp.length:Nat):=by rw[hd8,h1,hm];omega
   have hm80:(0:Int)≤((d:Nat):Int).tmod 8:=by rw[hm8];omega
   (conv=>whnf);repeat(first|refine Need.mk ?_ ?_;(focus(first|exact hix|exact hix2|exact hq|exact hm80|exact hq.1))|refine Need.mk (p:=zah _=true) ?_ ?_;decide+kernel);conv=>whnf
   have hbit:ze1 .and .u8 (shrZ .u8 (ze1 .xor .u8 ((gd 0 W (((d:Nat):Int).tdiv 8).toNat).toNat:Int) ((gd 0 q.v.mp (((d:Nat):Int).tdiv 8).toNat).toNat:Int)) (((d:Nat):Int).tmod 8)) 1=1↔zcQ W d≠zcQ q.v.mp d:=by
    rw[hd8,hm8,Int.toNat_natCast];exact bit_ne (gd 0 W (d/8)) (gd 0 q.v.mp (d/8)) (d%8) (by omega)
   by_cases hbb:zcQ W d≠zcQ q.v.mp d
   ·have hb1:q.fd.length≤1000000:=by omega
    have hss:zar W q d=q.note 10 d 0:=if_pos hbb
    (conv=>whnf);repeat(first|refine KIf.t (decide_eq_true (hbit.2 hbb)) ?_|refine KCall.liftG [0,1] (.tup []) [.row (pRow 220 1 (q.note 10 d 0)) 106 0, .row (flatI (rcP ph 220) 0 ((q.note 10 d 0)).v.rs) 66 10] (zcF ph q 10 d 0 hq96 h3 hb1) rfl (zab _ _) (zab _ _) ?_ ?_ ?_ ?_;exact⟨pF FR.G ⟨rfl,rfl⟩,rF FR.G hq96,trivial⟩;(focus((repeat' first|exact zT|exact rfl|refine zA ?_ ?_)));exact⟨(by unfold Rn Rnl;trivial),rfl,⟨⟨rfl,rfl, .inl (zaA rfl)⟩,⟨rfl,rfl, .inl (zay hq96)⟩,trivial⟩⟩|refine Need.mk ?_ ?_;((constructor<;>omega)));conv=>whnf
    refine⟨d+1,by omega,by dsimp only;omega,stay (q':=q.note 10 d 0) hss ?_⟩
    (refine Weak.ofG [0,1] [] [] rfl rfl rfl rfl ?_ ?_ ?_ ?_;exact⟨pQ rfl rfl,rQ hq96,trivial⟩;exact gQ;exact zN;(focus((repeat' first|exact zT|exact rfl|refine zA ?_ ?_))))
   ·have hss:zar W q d=q:=if_neg hbb
    (conv=>whnf);repeat(first|refine KIf.f (decide_eq_false (fun e=>hbb (hbit.1 e))) ?_|refine Need.mk ?_ ?_;((constructor<;>omega)));conv=>whnf
    refine⟨d+1,by omega,by dsimp only;omega,stay (q':=q) hss ?_⟩
    (refine Weak.ofG [0,1] [] [] rfl rfl rfl rfl ?_ ?_ ?_ ?_;exact⟨pQ rfl rfl,rQ hq96,trivial⟩;exact gQ;exact zN;(focus((repeat' first|exact zT|exact rfl|refine zA ?_ ?_))))
  ·conv=>whnf
   rw[←hfin (by omega)];refine⟨?_⟩
   (refine Weak.ofG [0,1] [] [] rfl rfl rfl rfl ?_ ?_ ?_ ?_;exact⟨pQ rfl rfl,rQ hq96,trivial⟩;exact gQ;exact zN;(focus((repeat' first|exact zT|refine zA ?_ ?_))))
end Go.Proofs.YtgcjejajljhnaaaGreatDoor
namespace Ck
open Go Go.Ex
theorem ziH (t:List Bool) (s:Int):∀k,(fill t s k).length=t.length
 |0=>rfl
 |k+1=>by unfold fill;rw[List.length_set,ziH t s k]
theorem zjI (l:List Run) (t:List Bool) (n:Nat):(it (fun t i=>fill t (at_ Run.o l i).s (at_ Run.o l i).l.toNat) t n).length=t.length:=by
 induction n with
 |zero=>rfl
 |succ n ih=>
  show(fill (it (fun t i=>fill t (at_ Run.o l i).s (at_ Run.o l i).l.toNat) t n) _ _).length=_;rw[ziH,ih]
def AlOk (v:Pt):Prop:=∀r∈v.al,0≤r.s∧0≤r.l∧r.s+r.l≤v.c
end Ck
namespace Go.Proofs.YtgcjejajljhnaaaGreatDoor
open Go.Ex Ck
set_option maxRecDepth 100000
set_option maxHeartbeats 8000000
theorem taken_k (ph:Bool) (p:Ck.Rp) (hn:p.v.rs.length≤96) (hc:0≤p.v.c∧p.v.c≤100000) (hal:AlOk p.v) (hall:p.v.al.length≤100000):HK Tryz.prog 2 145 [.ptr 200 0] (gP ph p) [.row (pRow 0 201 p) 106 0, .row (flatI (rcP ph 0) 0 p.v.rs) 66 10] (.sl 202 0 p.v.c.toNat p.v.c.toNat)
  (gP ph p) [.row (pRow 0 201 p) 106 0, .row (flatI (rcP ph 0) 0 p.v.rs) 66 10, .row ((Ck.taken p.v).map bb) 4 0]:=by
 obtain⟨N,hN⟩:∃N,N=p.v.c.toNat:=⟨_,rfl⟩
 have hNc:p.v.c=(N:Int):=by omega
 have hmk:0≤p.v.c∧p.v.c≤p.v.c∧p.v.c.toNat*1≤2^47∧p.v.c≤2^60:=by refine⟨?_,?_,?_,?_⟩<;>omega
 have hz:zeros p.v.c.toNat (.bool false)=(List.replicate N false).map bb:=by
  rw[←hN,zdc (x:= .sc (.bool false)) _ _ rfl];simp[bb]
 rw[←hN];refine HK.of kmix (by omega) ?_
 (conv=>whnf);repeat((refine Need.mk ?_ ?_;trivial;conv=>whnf))
 obtain⟨F,hF⟩:∃F:List Bool→Nat→List Bool,F=fun t i=>fill t (at_ Run.o p.v.al i).s (at_ Run.o p.v.al i).l.toNat:=⟨_,rfl⟩
 have hFl:∀n,(it F (List.replicate N false) n).length=N:=fun n=>by rw[hF,zjI];simp
 have hT:Ck.taken p.v=it F (List.replicate N false) p.v.al.length:=by rw[hF,hN];rfl
 refine WLoop.inv kmix (D:=Nat) (fun d=>p.v.al.length-d) (fun d=>d≤p.v.al.length) (fun d=>slots [(3, .sl 202 0 N N),(17,LS 2 aRun Run.o p.v.al),(18,ib p.v.al.length),(19,ib d)] 37)
  (fun d=>fkOf (gP ph p) [.row (pRow 0 201 p) 106 0, .row (flatI (rcP ph 0) 0 p.v.rs) 66 10, .row ((it F (List.replicate N false) d).map bb) 4 0]) 0 (Nat.zero_le _) ?_ ?_
 ·refine Weak.ofK [200,201,220] [] rfl rfl rfl rfl ?_ ?_ ?_
  ·exact⟨pF FR.K ⟨rfl,rfl⟩,rF FR.K hn,⟨rfl,rfl, .same hz.symm (hz▸contL_map (enc:=bb) (fun _=>rfl) _)⟩,trivial⟩
  ·exact(fun j o1 h=>⟨h,zab _ _ j o1 h⟩)
  ·rw[hNc];(repeat' first|exact zT|exact rfl|(intro _ _;exact rfl)|refine zA ?_ ?_)
 ·intro d hd
  have hst:it F (List.replicate N false) (d+1)=fill (it F (List.replicate N false) d) (at_ Run.o p.v.al d).s (at_ Run.o p.v.al d).l.toNat:=by rw[hF];rfl
  have hl:=hFl d
  have hTd:d=p.v.al.length→Ck.taken p.v=it F (List.replicate N false) d:=fun e=>by rw[e,hT]
  generalize it F (List.replicate N false) d=t0 at*
  conv=>whnf
  refine KIf.dec (fun h=> ?_) (fun h=> ?_)
  ·have hlt:d<p.v.al.length:=by omega
   have hr:=hal _ (at_mem Run.o _ d hlt)
   obtain⟨r,hr0⟩:∃r,at_ Run.o p.v.al d=r:=⟨_,rfl⟩
   rw[hr0] at hr hst
   have hd0:(0:Int)≤(d:Nat)∧((d:Nat):Int)<(p.v.al.length:Nat):=⟨by omega,by omega⟩
   (conv=>whnf);repeat((refine Need.mk ?_ ?_;exact hd0;conv=>whnf))
   refine WLoop.inv kmix (D:=Nat) (fun k=>r.l.toNat-k) (fun k=>k≤r.l.toNat) (fun k=>slots [(3, .sl 202 0 N N),(5, .ptr 203 0),(17,LS 2 aRun Run.o p.v.al),(18,ib p.v.al.length),(19,ib d),(24,ib r.l),(25,ib k)] 37)
    (fun k=>fkOf (gP ph p) [.row (pRow 0 201 p) 106 0, .row (flatI (rcP ph 0) 0 p.v.rs) 66 10, .row ((fill t0 r.s k).map bb) 4 0, .row [ib r.s,ib r.l] 78 0]) 0 (Nat.zero_le _) ?_ ?_
   ·subst hr0
    (refine Weak.ofK [200,201,202,220] [] rfl rfl rfl rfl ?_ ?_ ?_;exact⟨pF FR.K ⟨rfl,rfl⟩,rF FR.K hn,⟨rfl,rfl, .same rfl (contL_map (enc:=bb) (fun _=>rfl) _)⟩,⟨rfl,rfl, .same rfl rfl⟩,trivial⟩;exact(fun j o1 h=>⟨h,zab _ _ j o1 h⟩);(focus((repeat' first|exact zT|exact rfl|(intro _ _;exact rfl)|refine zA ?_ ?_))))
   ·intro k hk
    have hfl:(fill t0 r.s k).length=N:=by rw[ziH,hl]
    have hfs:fill t0 r.s (k+1)=(fill t0 r.s k).set (r.s+k).toNat true:=rfl
    generalize hft:fill t0 r.s k=t1 at*
    conv=>whnf
    refine KIf.dec (fun h2=> ?_) (fun h2=> ?_)
    ·have hix:(0:Int)≤r.s+(k:Nat)∧r.s+((k:Nat):Int)<(N:Nat):=⟨by omega,by omega⟩
     have hsm:Small (r.s+(k:Nat)):=⟨by omega,by omega⟩
     have hoff:0+(r.s+((k:Nat):Int)).toNat*1=(r.s+k).toNat:=by omega
     have hj:(r.s+(k:Int)).toNat<t1.length:=by omega
     (conv=>whnf);repeat(first|refine Need.mk ?_ ?_;(focus(first|exact hix|exact hsm))|refine Ck.storeM bb true rfl hoff rfl rfl rfl rfl rfl hj ?_|refine Need.mk ?_ ?_;((constructor<;>omega)));conv=>whnf
     refine⟨k+1,by omega,by dsimp only;omega,?_⟩;dsimp only;rw[hfs]
     (refine Weak.ofK [200,201,202,203] [] rfl rfl rfl rfl ?_ ?_ ?_;exact⟨pF FR.K ⟨rfl,rfl⟩,rF FR.K hn,⟨rfl,rfl, .same rfl (contL_map (enc:=bb) (fun _=>rfl) _)⟩,⟨rfl,rfl, .same rfl rfl⟩,trivial⟩;exact(fun j o1 h=>⟨h,zab _ _ j o1 h⟩);(focus((repeat' first|exact zT|exact rfl|(intro _ _;exact rfl)|refine zA ?_ ?_))))
    ·(conv=>whnf);repeat(((refine Need.mk ?_ ?_;((constructor<;>omega));conv=>whnf)))
     refine⟨d+1,by omega,by dsimp only;omega,?_⟩;dsimp only;rw[hst,←show k=r.l.toNat by omega,hft]
     (refine Weak.ofK [200,201,202] [] rfl rfl rfl rfl ?_ ?_ ?_;exact⟨pF FR.K ⟨rfl,rfl⟩,rF FR.K hn,⟨rfl,rfl, .same rfl (contL_map (enc:=bb) (fun _=>rfl) _)⟩,trivial⟩;exact(fun j o1 h=>⟨h,zab _ _ j o1 h⟩);(focus((repeat' first|exact zT|exact rfl|(intro _ _;exact rfl)|refine zA ?_ ?_))))
  ·conv=>whnf
   rw[hTd (by omega)];refine⟨?_⟩
   (refine Weak.ofK [200,201,202] [] rfl rfl rfl rfl ?_ ?_ ?_;exact⟨pF FR.K ⟨rfl,rfl⟩,rF FR.K hn,⟨rfl,rfl, .same rfl (contL_map (enc:=bb) (fun _=>rfl) _)⟩,trivial⟩;exact(fun j o1 h=>⟨h,zab _ _ j o1 h⟩);(focus((repeat' first|exact zT|exact rfl|refine zA ?_ ?_))))
end Go.Proofs.YtgcjejajljhnaaaGreatDoor
namespace Ck
open Go Go.Ex
theorem zfb {h:T AO} {z:List Nat} {α:Type} {enc:α→List AV} {o:α} {l:List α} {sz i:Nat} (hi:i≤l.length):Wz h z (LS sz enc o (l.take i)) (.lst sz i fun j=>enc (at_ o l (0+j))):=by
 unfold Wz;refine⟨rfl,by simp;omega,fun j hj=> ?_⟩
 have hj2:j<i:=by simp at hj;omega
 show enc (at_ o (l.take i) j)=enc (at_ o l (0+j));rw[Nat.zero_add];unfold at_;rw[List.getElem?_take_of_lt hj2]
theorem zcM {t:List Bool} {acc l:List Run} {r:Run} (h:r.s= -1):zcm t acc (r::l)=zcm t (acc++[r]) l:=by
 conv=>lhs;unfold zcm
 rw[if_pos h]
theorem zeW {t t':List Bool} {acc l:List Run} {r:Run} (h:r.s≠-1) (h2:za9 t r.s 0 r.l.toNat=(t',none)):zcm t acc (r::l)=zcm t' (acc++[r]) l:=by
 conv=>lhs;unfold zcm
 rw[if_neg h,h2]
theorem zdz {t t':List Bool} {acc l:List Run} {r:Run} {k:Nat} (h:r.s≠-1) (h2:za9 t r.s 0 r.l.toNat=(t',some k)):zcm t acc (r::l)=(t',some (acc++if 0<k then [⟨r.s,k⟩] else [])):=by
 conv=>lhs;unfold zcm
 rw[if_neg h,h2]
theorem take1_in {t:List Bool} {s:Int} {k n:Nat} (h:s+k<t.length∧at_ false t (s+k).toNat=false):za9 t s k (n+1)=za9 (t.set (s+k).toNat true) s (k+1) n:=by
 conv=>lhs;unfold za9
 rw[if_pos h]
theorem ziZ {t:List Bool} {s:Int} {k n:Nat} (h:¬(s+k<t.length∧at_ false t (s+k).toNat=false)):za9 t s k (n+1)=(t,some k):=by
 conv=>lhs;unfold za9
 rw[if_neg h]
theorem zgj {h:T AO} {z:List Nat} {R:Nat→Option Nat} {x w:AV} {v:Value} (hn:NmP (RS R) x) (hw:Wv h z (RD R) x w):NmP (RS R) (.tup [x, .sc v])∧Wv h z (RD R) (.tup [x, .sc v]) (.tup [w, .sc v]):=by
 refine⟨?_,?_⟩
 ·unfold NmP;exact⟨hn,trivial,trivial⟩
 ·unfold Wv Wvl;refine⟨hw,?_⟩;unfold Wvl;refine⟨?_,?_⟩
  ·exact(zc6 (p:=fun _=>True) rfl).2
  ·unfold Wvl;trivial
theorem at_take (l:List Run) (i:Nat) (h:i<l.length):l.take (i+1)=l.take i++[at_ Run.o l i]∧l.drop i=at_ Run.o l i::l.drop (i+1):=by
 rw[zaG _ _ _ h];exact⟨(List.take_append_getElem h).symm,List.drop_eq_getElem_cons h⟩
end Ck
namespace Go.Proofs.YtgcjejajljhnaaaGreatDoor
open Go.Ex Ck
set_option maxRecDepth 100000
set_option maxHeartbeats 4000000
theorem zhZ :Ex.bang Tryz.prog awext 2000 139 [.slice none 0 0] (.slice none 0 0)=true:=by decide+kernel
theorem zjZ :PureC Tryz.prog 139 [LS 2 aRun Run.o []] (.lst 0 0 fun i=>aRun (at_ Run.o [] i)):=by
 refine mt2 kmix (fun s=>CallOk.of_below (args:=[.slice none 0 0]) fun w=>Ex.calls_of_bang awmix zcy (args:=[.slice none 0 0]) zhZ w) (fun a cap=> ?_)
 (conv=>whnf);repeat(first|refine KIf.t rfl ?_|refine KIf.f rfl ?_|refine Need.mk ?_ ?_;trivial);conv=>whnf
 refine .z [0] ?_;exact Wz.ownS rfl (by simp) rfl (Nat.le_refl _) (fun i hi=>absurd hi (Nat.not_lt_zero _)) rfl (fun i hi=>absurd hi (Nat.not_lt_zero _))
theorem zhY (l:List Run) (hl:l.length≤100000) (h0:0<l.length):HC Tryz.prog 0 139 [LS 2 aRun Run.o l] [] (.so 0 0 l.length 0) [.row (l.flatMap aRun) 78 2]:=by
 have hb:Nat.ble (0+l.length) 0=false:=by cases h:Nat.ble (0+l.length) 0 with|false=>rfl|true=>have:=Nat.le_of_ble_eq_true h;omega
 refine HC.of kmix (Nat.le_refl 0) ?_
 (conv=>whnf);repeat(first|refine KIf.f ?_ ?_;assumption|refine KIf.f rfl ?_|refine Need.mk ?_ ?_;omega|refine Need.mk (fun _ _=>rfl) ?_|refine RK.of (zeh rfl rfl h0) ?_);conv=>whnf
 have e:([]++(List.range l.length).flatMap fun i=>aRun (at_ Run.o l i))=l.flatMap aRun:=by exact zaK aRun Run.o l
 rw[e];refine⟨[1],[],rfl,⟨⟨rfl,rfl,Or.inr ⟨rfl,zas (fun _=>rfl) _⟩⟩,trivial⟩,?_⟩
 (repeat' first|exact zT|exact rfl|refine zA ?_ ?_)
 exact Nat.zero_add _
theorem zfa (l:List Run) (hl:l.length≤100000):PureC Tryz.prog 139 [LS 2 aRun Run.o l] (LS 2 aRun Run.o l):=by
 by_cases h0:l.length=0
 ·obtain rfl:l=[]:=List.eq_nil_of_length_eq_zero h0;refine mt2 kmix (fun s=>CallOk.of_below (args:=[.slice none 0 0]) fun w=>Ex.calls_of_bang awmix zcy (args:=[.slice none 0 0]) zhZ w) (fun a cap=> ?_)
  ·(conv=>whnf);repeat(first|refine KIf.t rfl ?_|refine KIf.f rfl ?_|refine Need.mk ?_ ?_;trivial);conv=>whnf
   refine .z [0] ?_;exact Wz.ownS rfl (by simp) rfl (Nat.le_refl _) (fun i hi=>absurd hi (Nat.not_lt_zero _)) rfl (fun i hi=>absurd hi (Nat.not_lt_zero _))
 ·have hb:Nat.ble (0+l.length) 0=false:=by cases h:Nat.ble (0+l.length) 0 with|false=>rfl|true=>have:=Nat.le_of_ble_eq_true h;omega
  refine PureC.of kmix rfl ?_
  (conv=>whnf);repeat(first|refine KIf.f ?_ ?_;assumption|refine KIf.f rfl ?_|refine Need.mk ?_ ?_;omega|refine Need.mk (fun _ _=>rfl) ?_|refine RK.of (zeh rfl rfl (Nat.pos_of_ne_zero h0)) ?_);conv=>whnf
  refine .z [1] ?_;exact Wz.list (fun _=>rfl) (fun _=>rfl) rfl (by simp) (Nat.zero_add _) (by exact zaK aRun Run.o l)
def CutR (l:List Run) (x:Option (List Run)):List Run:=match x with|none=>l|some l'=>l'
theorem cut_k (ph:Bool) (p:Ck.Rp) (l:List Run) (t0:List Bool) (M:Nat) (hl:l.length≤100000) (hr:∀r∈l,-1≤r.s∧r.s≤2147483647∧0≤r.l∧r.l≤100000) (ht:t0.length=M) (hM:M≤100000):HK Tryz.prog 1 146 [LS 2 aRun Run.o l, .sl 200 0 M M] (gP ph p) [.row (t0.map bb) 4 0]
  (.tup [LS 2 aRun Run.o (CutR l (Ck.cut l t0).2),bb (Ck.cut l t0).2.isSome]) (gP ph p) [.row ((Ck.cut l t0).1.map bb) 4 0]:=by
 refine HK.of kmix (by omega) ?_
 obtain⟨C,hC⟩:∃C,Ck.cut l t0=C:=⟨_,rfl⟩
 rw[hC]
 conv=>whnf
 refine WLoop.inv kmix (D:=Nat×List Bool) (fun d=>l.length-d.1) (fun d=>d.1≤l.length∧d.2.length=M∧C=zcm d.2 (l.take d.1) (l.drop d.1)) (fun d=>slots [(0,LS 2 aRun Run.o l),(1, .sl 200 0 M M),(11,LS 2 aRun Run.o l),(12,ib l.length),(13,ib d.1)] 61)
  (fun d=>fkOf (gP ph p) [.row (d.2.map bb) 4 0]) (0,t0) ⟨Nat.zero_le _,ht,hC.symm⟩ ?_ ?_
 ·(refine Weak.ofK [200] [] rfl rfl rfl rfl ?_ ?_ ?_;exact⟨⟨rfl,rfl, .same rfl (contL_map (enc:=bb) (fun _=>rfl) _)⟩,trivial⟩;exact(fun j o1 h=>⟨h,zab _ _ j o1 h⟩);(focus((repeat' first|exact zT|exact rfl|(intro _ _;exact rfl)|refine zA ?_ ?_))))
 ·rintro⟨i,t⟩ ⟨hi,htl,hCi⟩;dsimp only at hi htl hCi;dsimp only
  conv=>whnf
  refine KIf.dec (fun h=> ?_) (fun h=> ?_)
  ·have hlt:i<l.length:=by omega
   have hi0:(0:Int)≤(i:Nat)∧((i:Nat):Int)<(l.length:Nat):=⟨by omega,by omega⟩
   obtain⟨e1,e2⟩:=at_take l i hlt;have hri:=hr _ (at_mem Run.o l i hlt);rw[e2] at hCi;by_cases hs:(at_ Run.o l i).s= -1
   ·(conv=>whnf);repeat(first|refine Need.mk ?_ ?_;exact hi0|refine KIf.t (decide_eq_true hs) ?_|refine Need.mk ?_ ?_;((constructor<;>omega)));conv=>whnf
    refine⟨(i+1,t),⟨by dsimp only;omega,htl,by rw[hCi,zcM hs];dsimp only;rw[e1]⟩,by dsimp only;omega,?_⟩
    (refine Weak.ofK [200] [] rfl rfl rfl rfl ?_ ?_ ?_;exact⟨⟨rfl,rfl, .same rfl (contL_map (enc:=bb) (fun _=>rfl) _)⟩,trivial⟩;exact(fun j o1 h=>⟨h,zab _ _ j o1 h⟩);(focus((repeat' first|exact zT|exact rfl|(intro _ _;exact rfl)|refine zA ?_ ?_))))
   ·(conv=>whnf);repeat(first|refine Need.mk ?_ ?_;exact hi0|refine KIf.f (decide_eq_false hs) ?_);conv=>whnf
    obtain⟨r,hr0⟩:∃r,at_ Run.o l i=r:=⟨_,rfl⟩
    refine WLoop.inv kmix (D:=Nat×List Bool) (fun d=>r.l.toNat-d.1) (fun d=>d.1≤r.l.toNat∧d.2.length=M∧za9 t r.s 0 r.l.toNat=za9 d.2 r.s d.1 (r.l.toNat-d.1)) (fun d=>slots [(0,LS 2 aRun Run.o l),(1, .sl 200 0 M M),(6,ib i),(7, .ptr 201 0),(11,LS 2 aRun Run.o l),(12,ib l.length),(13,ib i),(22,ib r.l),(23,ib d.1)] 61)
     (fun d=>fkOf (gP ph p) [.row (d.2.map bb) 4 0, .row [ib r.s,ib r.l] 78 0]) (0,t) ⟨Nat.zero_le _,htl,rfl⟩ ?_ ?_
    ·subst hr0
     (refine Weak.ofK [200,220] [] rfl rfl rfl rfl ?_ ?_ ?_;exact⟨⟨rfl,rfl, .same rfl (contL_map (enc:=bb) (fun _=>rfl) _)⟩,⟨rfl,rfl, .same rfl rfl⟩,trivial⟩;exact(fun j o1 h=>⟨h,zab _ _ j o1 h⟩);(focus((repeat' first|exact zT|exact rfl|(intro _ _;exact rfl)|refine zA ?_ ?_))))
    ·rintro⟨k,t1⟩ ⟨hk,ht1,hT⟩;dsimp only at hk ht1 hT;dsimp only;rw[hr0] at hs hri hCi e1
     conv=>whnf
     refine KIf.dec (fun h2=> ?_) (fun h2=> ?_)
     ·obtain⟨n,hn⟩:∃n,r.l.toNat-k=n+1:=⟨r.l.toNat-k-1,by omega⟩
      rw[hn] at hT
      have hsm:Small (r.s+(k:Nat)):=⟨by omega,by omega⟩
      by_cases hlt2:r.s+(k:Nat)<(M:Nat)
      ·have hix:(0:Int)≤r.s+(k:Nat)∧r.s+((k:Nat):Int)<(M:Nat):=⟨by omega,hlt2⟩
       have hj:(r.s+(k:Int)).toNat<t1.length:=by omega
       have hoff:0+(r.s+((k:Nat):Int)).toNat*1=(r.s+(k:Int)).toNat:=by omega
       obtain⟨bt,hbt⟩:∃b,at_ false t1 (r.s+(k:Int)).toNat=b:=⟨_,rfl⟩
       cases bt
       ·have hT2:=take1_in (t:=t1) (s:=r.s) (k:=k) (n:=n) ⟨by omega,hbt⟩
        (conv=>whnf);repeat(first|refine Need.mk ?_ ?_;(focus(first|exact hix|exact hsm))|refine KIf.t (decide_eq_true hlt2) ?_|refine RK.of (Ck.loadMx bb false false hbt hoff rfl rfl hj) ?_|refine Ck.storeM bb true rfl hoff rfl rfl rfl rfl rfl hj ?_|refine KIf.t rfl ?_|refine Need.mk ?_ ?_;((constructor<;>omega)));conv=>whnf
        refine⟨(k+1,t1.set (r.s+(k:Int)).toNat true),⟨by dsimp only;omega,by rw[List.length_set];exact ht1,by rw[hT,hT2];dsimp only;rw[show r.l.toNat-(k+1)=n by omega]⟩,by dsimp only;omega,?_⟩
        (refine Weak.ofK [200,201] [] rfl rfl rfl rfl ?_ ?_ ?_;exact⟨⟨rfl,rfl, .same rfl (contL_map (enc:=bb) (fun _=>rfl) _)⟩,⟨rfl,rfl, .same rfl rfl⟩,trivial⟩;exact(fun j o1 h=>⟨h,zab _ _ j o1 h⟩);(focus((repeat' first|exact zT|exact rfl|(intro _ _;exact rfl)|refine zA ?_ ?_))))
       ·have hT2:=ziZ (t:=t1) (s:=r.s) (k:=k) (n:=n) (fun e=>by rw[hbt] at e;exact absurd e.2 (by decide))
        have hi1:(0:Int)≤(i:Nat)∧((i:Nat):Int)≤(l.length:Nat):=⟨by omega,by omega⟩
        have hCs:C=(t1,some (l.take i++if 0<k then [⟨r.s,k⟩] else [])):=by rw[hCi,zdz hs (hT.trans hT2)]
        by_cases hk0:k=0
        ·have hk1:¬(0:Int)<(k:Nat):=by omega
         rw[if_neg (by omega),List.append_nil] at hCs;rw[hCs]
         (conv=>whnf);repeat(first|refine Need.mk ?_ ?_;(focus(first|exact hix|exact hsm|exact hi1))|refine KIf.t (decide_eq_true hlt2) ?_|refine RK.of (Ck.loadMx bb false true hbt hoff rfl rfl hj) ?_|refine KIf.f (decide_eq_false hk1) ?_|refine KCall.frz [] (zfa (l.take i) (by rw[List.length_take];omega)) ⟨zfb (by omega),trivial⟩ ?_|refine KIf.f rfl ?_);conv=>whnf
         refine⟨?_⟩;refine Weak.ofK [200] [] rfl rfl rfl rfl ?_ ?_ ?_
         ·exact⟨⟨rfl,rfl, .same rfl (contL_map (enc:=bb) (fun _=>rfl) _)⟩,trivial⟩
         ·exact(fun j o1 h=>⟨h,zab _ _ j o1 h⟩)
         ·exact⟨zgj (by unfold NmP;trivial) (zc3 rfl),trivial⟩
        ·have hk1:(0:Int)<(k:Nat):=by omega
         rw[if_pos (by omega)] at hCs;rw[hCs]
         have hb1:(0+1)*16≤2^47∧0+1≤2^60:=by decide
         rcases Nat.eq_zero_or_pos i with rfl|hip
         ·(conv=>whnf);repeat(first|refine Need.mk ?_ ?_;(focus(first|exact hix|exact hsm|exact hi1|exact hb1))|refine KIf.t (decide_eq_true hlt2) ?_|refine RK.of (Ck.loadMx bb false true hbt hoff rfl rfl hj) ?_|refine KIf.t (decide_eq_true hk1) ?_|refine KCall.frz [] (zjZ) ⟨zfb (Nat.zero_le _),trivial⟩ ?_|refine NCase.s (Nat.succ_ne_zero _) ?_|refine KIf.f rfl ?_|refine Need.mk ?_ ?_;trivial);conv=>whnf
          refine⟨?_⟩;refine Weak.ofK [200] [221] rfl rfl rfl rfl ?_ ?_ ?_
          ·exact⟨⟨rfl,rfl, .same rfl (contL_map (enc:=bb) (fun _=>rfl) _)⟩,trivial⟩
          ·exact(fun j o1 h=>⟨h,zab _ _ j o1 h⟩)
          ·exact⟨zgj (by unfold NmP;trivial) (Wv.list (enc:=aRun) (o:=Run.o) (l:=[⟨r.s,k⟩]) (fun _=>rfl) (fun _=>rfl) rfl (by simp) rfl rfl),trivial⟩
         ·have hb2:((l.take i).length+1)*16≤2^47∧(l.take i).length+1≤2^60:=by rw[List.length_take];omega
          have hb3:((l.take i).flatMap aRun).length=0+(l.take i).length*2:=by rw[zbj (sz:=2) (fun _=>rfl),Nat.zero_add]
          have hcl:=zhY (l.take i) (by rw[List.length_take];omega) (by rw[List.length_take];omega)
          (conv=>whnf);repeat(first|refine Need.mk ?_ ?_;(focus(first|exact hix|exact hsm|exact hi1|exact hb2|exact hb3))|refine KIf.t (decide_eq_true hlt2) ?_|refine RK.of (Ck.loadMx bb false true hbt hoff rfl rfl hj) ?_|refine KIf.t (decide_eq_true hk1) ?_|refine KCall.lift [] [] (.so 220 0 (l.take i).length 0) [.row ((l.take i).flatMap aRun) 78 2] hcl rfl trivial ⟨rfl,zfb (by omega),trivial⟩ ⟨(by unfold Rn;rfl),rfl,⟨rfl,rfl, .inr ⟨rfl,zas (fun _=>rfl) _⟩⟩,trivial⟩ ?_|refine NCase.s (Nat.succ_ne_zero _) ?_|refine KIf.f rfl ?_|refine Need.mk ?_ ?_;trivial);conv=>whnf
          refine⟨?_⟩;refine Weak.ofK [200] [222] rfl rfl rfl rfl ?_ ?_ ?_
          ·exact⟨⟨rfl,rfl, .same rfl (contL_map (enc:=bb) (fun _=>rfl) _)⟩,trivial⟩
          ·exact(fun j o1 h=>⟨h,zab _ _ j o1 h⟩)
          ·exact⟨zgj (by unfold NmP;trivial) (Wv.list (enc:=aRun) (o:=Run.o) (l:=l.take i++[⟨r.s,k⟩]) (fun _=>rfl) (fun _=>rfl) rfl (by simp) (by simp) (by rw[List.flatMap_append];rfl)),trivial⟩
      ·have hT2:=ziZ (t:=t1) (s:=r.s) (k:=k) (n:=n) (fun e=>hlt2 (by omega))
       have hi1:(0:Int)≤(i:Nat)∧((i:Nat):Int)≤(l.length:Nat):=⟨by omega,by omega⟩
       have hCs:C=(t1,some (l.take i++if 0<k then [⟨r.s,k⟩] else [])):=by rw[hCi,zdz hs (hT.trans hT2)]
       by_cases hk0:k=0
       ·have hk1:¬(0:Int)<(k:Nat):=by omega
        rw[if_neg (by omega),List.append_nil] at hCs;rw[hCs]
        (conv=>whnf);repeat(first|refine Need.mk ?_ ?_;(focus(first|exact hsm|exact hi1))|refine KIf.f (decide_eq_false hlt2) ?_|refine KIf.f (decide_eq_false hk1) ?_|refine KCall.frz [] (zfa (l.take i) (by rw[List.length_take];omega)) ⟨zfb (by omega),trivial⟩ ?_|refine KIf.f rfl ?_);conv=>whnf
        refine⟨?_⟩;refine Weak.ofK [200] [] rfl rfl rfl rfl ?_ ?_ ?_
        ·exact⟨⟨rfl,rfl, .same rfl (contL_map (enc:=bb) (fun _=>rfl) _)⟩,trivial⟩
        ·exact(fun j o1 h=>⟨h,zab _ _ j o1 h⟩)
        ·exact⟨zgj (by unfold NmP;trivial) (zc3 rfl),trivial⟩
       ·have hk1:(0:Int)<(k:Nat):=by omega
        rw[if_pos (by omega)] at hCs;rw[hCs]
        have hb1:(0+1)*16≤2^47∧0+1≤2^60:=by decide
        rcases Nat.eq_zero_or_pos i with rfl|hip
        ·(conv=>whnf);repeat(first|refine Need.mk ?_ ?_;(focus(first|exact hsm|exact hi1|exact hb1))|refine KIf.f (decide_eq_false hlt2) ?_|refine KIf.t (decide_eq_true hk1) ?_|refine KCall.frz [] (zjZ) ⟨zfb (Nat.zero_le _),trivial⟩ ?_|refine NCase.s (Nat.succ_ne_zero _) ?_|refine KIf.f rfl ?_|refine Need.mk ?_ ?_;trivial);conv=>whnf
         refine⟨?_⟩;refine Weak.ofK [200] [221] rfl rfl rfl rfl ?_ ?_ ?_
         ·exact⟨⟨rfl,rfl, .same rfl (contL_map (enc:=bb) (fun _=>rfl) _)⟩,trivial⟩
         ·exact(fun j o1 h=>⟨h,zab _ _ j o1 h⟩)
         ·exact⟨zgj (by unfold NmP;trivial) (Wv.list (enc:=aRun) (o:=Run.o) (l:=[⟨r.s,k⟩]) (fun _=>rfl) (fun _=>rfl) rfl (by simp) rfl rfl),trivial⟩
        ·have hb2:((l.take i).length+1)*16≤2^47∧(l.take i).length+1≤2^60:=by rw[List.length_take];omega
         have hb3:((l.take i).flatMap aRun).length=0+(l.take i).length*2:=by rw[zbj (sz:=2) (fun _=>rfl),Nat.zero_add]
         have hcl:=zhY (l.take i) (by rw[List.length_take];omega) (by rw[List.length_take];omega)
         (conv=>whnf);repeat(first|refine Need.mk ?_ ?_;(focus(first|exact hsm|exact hi1|exact hb2|exact hb3))|refine KIf.f (decide_eq_false hlt2) ?_|refine KIf.t (decide_eq_true hk1) ?_|refine KCall.lift [] [] (.so 220 0 (l.take i).length 0) [.row ((l.take i).flatMap aRun) 78 2] hcl rfl trivial ⟨rfl,zfb (by omega),trivial⟩ ⟨(by unfold Rn;rfl),rfl,⟨rfl,rfl, .inr ⟨rfl,zas (fun _=>rfl) _⟩⟩,trivial⟩ ?_|refine NCase.s (Nat.succ_ne_zero _) ?_|refine KIf.f rfl ?_|refine Need.mk ?_ ?_;trivial);conv=>whnf
         refine⟨?_⟩;refine Weak.ofK [200] [222] rfl rfl rfl rfl ?_ ?_ ?_
         ·exact⟨⟨rfl,rfl, .same rfl (contL_map (enc:=bb) (fun _=>rfl) _)⟩,trivial⟩
         ·exact(fun j o1 h=>⟨h,zab _ _ j o1 h⟩)
         ·exact⟨zgj (by unfold NmP;trivial) (Wv.list (enc:=aRun) (o:=Run.o) (l:=l.take i++[⟨r.s,k⟩]) (fun _=>rfl) (fun _=>rfl) rfl (by simp) (by simp) (by rw[List.flatMap_append];rfl)),trivial⟩
     ·have hke:k=r.l.toNat:=by omega
      have hT2:za9 t r.s 0 r.l.toNat=(t1,none):=by rw[hT,hke,Nat.sub_self];rfl
      (conv=>whnf);repeat(((refine Need.mk ?_ ?_;((constructor<;>omega));conv=>whnf)))
      refine⟨(i+1,t1),⟨by dsimp only;omega,ht1,by rw[hCi,zeW hs hT2];dsimp only;rw[e1]⟩,by dsimp only;omega,?_⟩
      (refine Weak.ofK [200] [] rfl rfl rfl rfl ?_ ?_ ?_;exact⟨⟨rfl,rfl, .same rfl (contL_map (enc:=bb) (fun _=>rfl) _)⟩,trivial⟩;exact(fun j o1 h=>⟨h,zab _ _ j o1 h⟩);(focus((repeat' first|exact zT|exact rfl|(intro _ _;exact rfl)|refine zA ?_ ?_))))
  ·have hil:i=l.length:=by omega
   have hCe:C=(t,none):=by rw[hCi,hil,List.drop_length];rfl
   conv=>whnf
   rw[hCe];refine⟨?_⟩;refine Weak.ofK [200] [] rfl rfl rfl rfl ?_ ?_ ?_
   ·exact⟨⟨rfl,rfl, .same rfl (contL_map (enc:=bb) (fun _=>rfl) _)⟩,trivial⟩
   ·exact(fun j o1 h=>⟨h,zab _ _ j o1 h⟩)
   ·exact⟨zgj (by unfold NmP;trivial) (zc3 rfl),trivial⟩
end Go.Proofs.YtgcjejajljhnaaaGreatDoor
namespace Ck
open Go Go.Ex
def RnOk (r:Run):Prop:= -1≤r.s∧r.s≤2147483647∧0≤r.l∧r.l≤100000
theorem zh2 (t:List Bool) (s:Int):∀(n k:Nat),(za9 t s k n).1.length=t.length∧∀j,(za9 t s k n).2=some j→j<k+n
 |0,k=>⟨rfl,fun j h=>by unfold za9 at h;cases h⟩
 |n+1,k=>by
  unfold za9;split
  ·obtain⟨h1,h2⟩:=zh2 (t.set (s+k).toNat true) s n (k+1);exact⟨by rw[h1,List.length_set],fun j h=>by have:=h2 j h;omega⟩
  ·exact⟨rfl,fun j h=>by cases h;omega⟩
theorem ziQ :∀(l:List Run) (t:List Bool) (acc:List Run),(∀r∈l,RnOk r)→(∀r∈acc,RnOk r)→(zcm t acc l).1.length=t.length∧∀l',(zcm t acc l).2=some l'→l'.length≤acc.length+l.length∧∀r∈l',RnOk r
 |[],t,acc,_,_=>⟨rfl,fun l' h=>by unfold zcm at h;cases h⟩
 |r::l,t,acc,hl,ha=>by
  have hr:=hl r (List.mem_cons_self ..)
  have hl':∀r∈l,RnOk r:=fun x hx=>hl x (List.mem_cons_of_mem _ hx)
  have hacc:∀x∈acc++[r],RnOk x:=fun x hx=>by
   rcases List.mem_append.1 hx with hx|hx
   ·exact ha x hx
   ·rw[List.mem_singleton.1 hx];exact hr
  by_cases hs:r.s= -1
  ·rw[zcM hs];obtain⟨h1,h2⟩:=ziQ l t (acc++[r]) hl' hacc;exact⟨h1,fun l' h=>⟨by have:=(h2 l' h).1;simp at this⊢;omega,(h2 l' h).2⟩⟩
  ·obtain⟨h3,h4⟩:=zh2 t r.s r.l.toNat 0
   cases ht:za9 t r.s 0 r.l.toNat with
   |mk t' o=>
    rw[ht] at h3 h4
    cases o with
    |none=>
     rw[zeW hs ht];obtain⟨h1,h2⟩:=ziQ l t' (acc++[r]) hl' hacc;exact⟨h1.trans h3,fun l' h=>⟨by have:=(h2 l' h).1;simp at this⊢;omega,(h2 l' h).2⟩⟩
    |some k=>
     rw[zdz hs ht];have hk:=h4 k rfl;refine⟨h3,fun l' h=> ?_⟩;cases h;obtain⟨p1,p2,p3,p4⟩:=hr;refine⟨by split<;>simp<;>omega,fun x hx=> ?_⟩
     rcases List.mem_append.1 hx with hx|hx
     ·exact ha x hx
     ·split at hx
      ·rw[List.mem_singleton.1 hx];exact⟨p1,p2,by show(0:Int)≤(k:Nat);omega,by show((k:Nat):Int)≤100000;omega⟩
      ·cases hx
theorem zn6 (l:List Run) (t:List Bool) (hl:∀r∈l,RnOk r):(cut l t).1.length=t.length∧∀l',(cut l t).2=some l'→l'.length≤l.length∧∀r∈l',RnOk r:=by
 obtain⟨h1,h2⟩:=ziQ l t [] hl (fun _ h=>(by cases h));exact⟨h1,fun l' h=>⟨by have:=(h2 l' h).1;simpa using this,(h2 l' h).2⟩⟩
theorem zc2 (l:List Run) (hl:∀r∈l,RnOk r):∀k,k≤l.length→0≤it (fun n i=>n+(at_ Run.o l i).l) (0:Int) k∧it (fun n i=>n+(at_ Run.o l i).l) (0:Int) k≤k*100000
 |0,_=>⟨Int.le_refl _,Int.le_refl _⟩
 |k+1,hk=>by
  obtain⟨h1,h2⟩:=zc2 l hl k (by omega);obtain⟨_,_,h3,h4⟩:=hl _ (at_mem Run.o l k (by omega));show 0≤it (fun n i=>n+(at_ Run.o l i).l) (0:Int) k+_∧it (fun n i=>n+(at_ Run.o l i).l) (0:Int) k+_≤_;omega
structure Rb (n M:Nat) (s:Rp×List Bool):Prop where
 rf:Rf n s.1
 tl:s.2.length=M
 ss:∀x∈s.1.v.rs,x.ss.length≤1000∧∀y∈x.ss,y.r.length≤100000∧0≤y.z∧y.z≤100000000000∧∀r∈y.r,RnOk r
theorem Rb.at {n M:Nat} {s:Rp×List Bool} (h:Rb n M s) {i:Nat} (hi:i<n):(at_ Rc.o s.1.v.rs i).ss.length≤1000∧∀y∈(at_ Rc.o s.1.v.rs i).ss,y.r.length≤100000∧0≤y.z∧y.z≤100000000000∧∀r∈y.r,RnOk r:=h.ss _ (at_mem Rc.o _ i (by rw[h.rf.n];exact hi))
theorem Rb.sm {n M:Nat} {s:Rp×List Bool} (h:Rb n M s) {i:Nat} (hi:i<n) (k:Nat):(at_ Sm.o (at_ Rc.o s.1.v.rs i).ss k).r.length≤100000∧0≤(at_ Sm.o (at_ Rc.o s.1.v.rs i).ss k).z∧(at_ Sm.o (at_ Rc.o s.1.v.rs i).ss k).z≤100000000000∧∀r∈(at_ Sm.o (at_ Rc.o s.1.v.rs i).ss k).r,RnOk r:=
 ze4 (P:=fun y:Sm=>y.r.length≤100000∧0≤y.z∧y.z≤100000000000∧∀r∈y.r,RnOk r) ⟨Nat.zero_le _,Int.le_refl _,by decide,fun _ h=>(by cases h)⟩ (h.at hi).2 k
theorem cutStep_ok {n M i:Nat} {s:Rp×List Bool} (h:Rb n M s) (hi:i<n) (k:Nat):Rb n M (cutStep i s k)∧(cutStep i s k).1.fd.length≤s.1.fd.length+1∧(at_ Rc.o (cutStep i s k).1.v.rs i).ss.length=(at_ Rc.o s.1.v.rs i).ss.length:=by
 obtain⟨h1,h2,h3,h4⟩:=h.sm hi k;obtain⟨c1,c2⟩:=zn6 _ s.2 h4;unfold cutStep;simp only[zae]
 cases hc:cut (at_ Sm.o (at_ Rc.o s.1.v.rs i).ss k).r s.2 with
 |mk t o=>
  rw[hc] at c1 c2
  cases o with
  |none=>exact⟨⟨h.rf,c1.trans h.tl,h.ss⟩,by simp,rfl⟩
  |some l=>
   obtain⟨c3,c4⟩:=c2 l rfl;have hcl:=(zc2 l c4 l.length (Nat.le_refl _)).1;refine⟨⟨(h.rf.note 1 i k).setR i _ (h.rf.at hi),c1.trans h.tl,fun x hx=> ?_⟩,?_,?_⟩
   ·rcases mem_set hx with hx|rfl
    ·exact h.ss x hx
    ·refine⟨by rw[List.length_set];exact(h.at hi).1,fun y hy=> ?_⟩
     rcases mem_set hy with hy|rfl
     ·exact(h.at hi).2 y hy
     ·have hcl2:0≤clusters l:=hcl;exact⟨by show l.length≤_;omega,by show(0:Int)≤min _ _;omega,by show min _ _≤_;omega,c4⟩
   ·have:=zbF s.1 1 i k;show(s.1.note 1 i k).fd.length≤_;omega
   ·show(at_ Rc.o (s.1.v.rs.set i _) i).ss.length=_;rw[zal _ _ _ _ (by rw[h.rf.n];exact hi)];exact List.length_set
theorem zm0 {n M i:Nat} {s:Rp×List Bool} (h:Rb n M s) (hi:i<n):∀k,Rb n M (it (cutStep i) s k)∧(it (cutStep i) s k).1.fd.length≤s.1.fd.length+k∧(at_ Rc.o (it (cutStep i) s k).1.v.rs i).ss.length=(at_ Rc.o s.1.v.rs i).ss.length
 |0=>⟨h,Nat.le_refl _,rfl⟩
 |k+1=>by
  obtain⟨h1,h2,h3⟩:=zm0 h hi k;obtain⟨h4,h5,h6⟩:=cutStep_ok h1 hi k;exact⟨h4,by show(cutStep i _ k).1.fd.length≤_;omega,h6.trans h3⟩
theorem zia {n M B:Nat} {s:Rp×List Bool} (hB:B=1000) (h:Rb n M s):∀k,k≤n→Rb n M (it zad s k)∧(it zad s k).1.fd.length≤s.1.fd.length+k*B
 |0,_=>⟨h,by show s.1.fd.length≤_;omega⟩
 |k+1,hk=>by
  obtain⟨h1,h2⟩:=zia hB h k (by omega);have e:it zad s (k+1)=zad (it zad s k) k:=rfl;rw[e]
  generalize it zad s k=q at*
  have hm:(k+1)*B=k*B+B:=by rw[Nat.add_mul,Nat.one_mul]
  unfold zad;simp only[zae];split
  ·obtain⟨h3,h4,_⟩:=zm0 h1 (show k<n by omega) (at_ Rc.o q.1.v.rs k).ss.length;have h5:=(h1.at (show k<n by omega)).1;exact⟨h3,by omega⟩
  ·exact⟨h1,by omega⟩
theorem slF_RR {ρ:Nat→Nat} {a A:Nat} (H:FN ρ a A) {l:List Fd}:Rn ρ (slF a l) (slF A l):=by
 unfold slF
 by_cases h:l=[]
 ·rw[if_pos h,if_pos h];exact Rn.sc
 ·rw[if_neg h,if_neg h];exact zno H (by omega)
theorem slL_RR {ρ:Nat→Nat} {a A:Nat} (H:FN ρ a A) {l:List Int}:Rn ρ (slL a l) (slL A l):=by
 unfold slL
 by_cases h:l=[]
 ·rw[if_pos h,if_pos h];exact Rn.sc
 ·rw[if_neg h,if_neg h];exact zno H (by omega)
theorem pRow_RR {ρ:Nat→Nat} {a A:Nat} (H:FN ρ a A) {p:Rp} {k k0:Nat} (hk:ρ k=k0):Rnl ρ (pRow a k p) (pRow A k0 p):=by
 unfold pRow;exact Rnl.cons Rn.sc (Rnl.cons Rn.lst (Rnl.cons (by unfold Rn;rw[hk]) (Rnl.cons Rn.lst (Rnl.cons Rn.sc (Rnl.cons (slF_RR H) (Rnl.cons (slL_RR H) Rnl.nil))))))
theorem zld {P:Program} {s:St} {α:Type} {enc:α→List AV} {sz:Nat} (hf:∀x,(enc x).length=sz) (o:α) {l:List α} {T:TypeId} {b j k n off:Nat} {e:TypeId} {q:Nat} {v:AV} (hoff:off=j*sz+k) (hT:tyS P T= .ok (false,n)) (hr:s.h.get b=some (.row (l.flatMap enc) e q)) (hj:j<l.length) (hk:k<sz) (hv:(enc (at_ o l j))[k]? =some v):zct P s T b off= .ok v:=
 zaP (f:=fun _ x=>enc x) (fun _ x=>hf x) o hoff hT (by rw[zbQ];exact hr) hj hk hv
theorem zoJ {h:T AO} {z:List Nat} {A j o:Nat} {ov:List (Nat×Nat)} {r:List Nat} (hj:j<200) (hp:∀p∈ov,j≠p.1):NmP (RS (RG A ov r)) (.ptr (fam 20 j) o)∧Wv h z (RD (RG A ov r)) (.ptr (fam 20 j) o) (.ptr (fam A j) o):=by
 refine⟨by unfold NmP;exact zjX hj,?_⟩;unfold Wv;exact⟨(znk hj hp).symm,rfl⟩
theorem znS {h:T AO} {z:List Nat} {A k a b k0 a0 b0:Nat} {ov:List (Nat×Nat)} {r:List Nat} {p:Rp} (hk:RS (RG A ov r) k∧RD (RG A ov r) k=k0) (ha:RS (RG A ov r) a∧RD (RG A ov r) a=a0) (hb:RS (RG A ov r) b∧RD (RG A ov r) b=b0):WL h z (RG A ov r) (nRow k a b p) (nRow k0 a0 b0 p):=by
 unfold nRow;exact WL.sc rfl (WL.sc rfl (WL.cons (zfJ hk) (WL.sc rfl (WL.sc rfl (WL.cons (zfJ ha) (WL.cons (zfJ hb) WL.nil))))))
theorem minZ_eq (a b:Int):minZ a b=min a b:=by unfold minZ;omega
theorem seS_len {ph:Bool} {A i:Nat} {x y:Rc} (hph:ph=false) (h:x.ss.length=y.ss.length):seS ph A i x=seS ph A i y:=by
 subst hph;unfold seS
 by_cases hx:x.ss=[]
 ·have hy:y.ss=[]:=List.eq_nil_of_length_eq_zero (by rw[←h,hx];rfl);rw[if_pos (.inr hx),if_pos (.inr hy),hx,hy]
 ·have hy:y.ss≠[]:=fun e=>hx (List.eq_nil_of_length_eq_zero (by rw[h,e];rfl))
  rw[if_neg (by simp[hx]),if_neg (by simp[hy]),h]
theorem rcP_ss {A i:Nat} {x:Rc} {ss:List Sm} (h:ss.length=x.ss.length):rcP false A i {x with ss:=ss}=rcP false A i x:=by
 unfold rcP;rw[show seS false A i {x with ss:=ss}=seS false A i x from seS_len rfl h];rfl
theorem gP_setS {q:Rp} {d:Nat} {ss:List Sm} (hd:d<q.v.rs.length) (h96:d<96) (hne:ss≠[]):gP false (q.setR d {at_ Rc.o q.v.rs d with ss:=ss})=updF (gP false q) (2*d) (some (.row (ss.flatMap aSm) 80 2)):=by
 funext j
 have hat:at_ Rc.o (q.setR d {at_ Rc.o q.v.rs d with ss:=ss}).v.rs d={at_ Rc.o q.v.rs d with ss:=ss}:=zal _ _ _ _ hd;by_cases h1:j=2*d
 ·subst h1;rw[zcc,if_pos rfl];have:=znw (p:=q.setR d {at_ Rc.o q.v.rs d with ss:=ss}) (i:=d) (by show d<(q.v.rs.set _ _).length;rw[List.length_set];exact hd) h96 (by rw[hat];exact hne);rw[hat] at this;exact this
 ·rw[zbh h1];by_cases h2:j=2*d+1
  ·subst h2;rw[zcJ (by omega),zcJ (by omega)]
   have e:(2*d+1)/2=d:=by omega
   rw[e];show(match(q.v.rs.set d _)[d]? with|none=>none|some x=>_)=_;rw[List.getElem?_set_self hd,List.getElem?_eq_getElem hd,←zaG Rc.o _ _ hd]
   have e2:¬(2*d+1)%2=0:=by omega
   simp only[e2,if_false]
  ·exact znx (p:=q) (q:=q.setR d {at_ Rc.o q.v.rs d with ss:=ss}) (i:=d) List.length_set rfl rfl (fun k hk=>zau _ _ _ _ _ (Ne.symm hk)) h1 h2
theorem CallOk.clip {P:Program} {f:FuncId} {s:St} {b n:Nat} (h:∀a cap,n≤cap→PureC P f [.sc (.slice (some a) n cap)] (.sc (.slice (some a) n n))):CallOk P f [.so b 0 n 0] s (.sl b 0 n n) s:=by
 intro m w args' hR hok hfr;obtain⟨x,_,rfl,⟨k,o,c,hm,hc,rfl⟩,rfl⟩:=hR;refine Calls.mono (h ⟨k,o+0,none⟩ (c-0) (by omega) s m w _ ⟨_,_,rfl,rfl,rfl⟩ hok hfr) ?_;rintro e w' ⟨y,m',rfl,hg,hy⟩;cases hy;refine⟨_,m',rfl,hg,k,o,c,?_,rfl⟩;rw[←hm];exact hg.ext b (by rcases Nat.lt_or_ge b s.n with h|h;exact .inl h;exact .inr h)
theorem DCall.clip {P:Program} {f:FuncId} {s:St} {b n:Nat} {light:AV→Prop} {heavy:AV→St→Prop} (h:∀a cap,n≤cap→PureC P f [.sc (.slice (some a) n cap)] (.sc (.slice (some a) n n))) (hk:heavy (.sl b 0 n n) s):DCall P f [.so b 0 n 0] light heavy s:=⟨.inr ⟨_,s,CallOk.clip h,hk⟩⟩
theorem loadC_flat {s:St} {α:Type} {enc:α→List AV} {sz:Nat} (hf:∀x,(enc x).length=sz) {l:List α} {b n:Nat} {e:TypeId} {q:Nat} (hr:s.h.get b=some (.row (l.flatMap enc) e q)) (hn:n=l.length*sz):zeQ s b 0 n= .ok (l.flatMap enc):=by
 subst hn
 have hl:(l.flatMap enc).length=l.length*sz:=by rw[zbj hf]
 unfold zeQ Ex.rowAt;rw[hr];show takeN (l.flatMap enc) 0 (l.length*sz)=_;unfold takeN;rw[List.drop_zero,zf1 (by omega),List.take_of_length_le (by omega)]
theorem zfp {ph:Bool} {q:Rp} {d j:Nat} {x:Rc} (hd:d<q.v.rs.length) (hx:x.ss=(at_ Rc.o q.v.rs d).ss) (hj:j≠2*d+1):gP ph (q.setR d x) j=gP ph q j:=by
 by_cases h1:j=2*d
 ·subst h1;by_cases h2:2*d<192
  ·rw[zcJ h2,zcJ h2,show 2*d/2=d by omega];show(match(q.v.rs.set d x)[d]? with|none=>none|some x=>_)=_;rw[List.getElem?_set_self hd,List.getElem?_eq_getElem hd,←zaG Rc.o _ _ hd];simp only[show 2*d%2=0 by omega,if_true,hx]
  ·unfold gP;by_cases h3:2*d=192
   ·rw[if_pos h3,if_pos h3];rfl
   ·rw[if_neg h3,if_neg h3,if_neg (by omega),if_neg (by omega),show 2*d/2=d by omega];show(match(q.v.rs.set d x)[d]? with|none=>none|some x=>_)=_;rw[List.getElem?_set_self hd,List.getElem?_eq_getElem hd,←zaG Rc.o _ _ hd];simp only[show 2*d%2=0 by omega,if_true,hx]
 ·exact znx (p:=q) (q:=q.setR d x) (i:=d) List.length_set rfl rfl (fun k hk=>zau _ _ _ _ _ (Ne.symm hk)) h1 hj
theorem zbp {A k i:Nat} {p:Rp} {x:Rc}:pRow A k (p.setR i x)=pRow A k p:=by
 unfold pRow Rp.setR;simp only[List.length_set]
noncomputable def rcE (A i:Nat) (x:Rc) (v:AV):List AV:=[bb x.u,ib x.q,ib x.k,ib x.b.r,ib x.b.q,ib x.ln,ib x.ds,LS 3 aNm Nm.o x.ns,seS false A i x,v]
theorem zmo {h:T AO} {z:List Nat} {A i k n:Nat} {r:List Nat} {x:Rc} {es:List En} (hi:i<96) (hn:n=es.length) (hne:es≠[]):WL h z (RG A [(2*i+1,k)] r) (rcP false 20 i {x with es:=es}) (rcE A i x (.so k 0 n 0)):=by
 unfold rcP rcE;rw[zfL hne,hn];have e:seS false 20 i {x with es:=es}=seS false 20 i x:=rfl;rw[e]
 repeat refine WL.sc rfl ?_
 exact WL.cons (zlV hi (fun p hp=>by rcases List.mem_singleton.1 hp with rfl;show 2*i≠2*i+1;omega)) (WL.cons (zlU (by omega)) WL.nil)
theorem znt {d k:Nat} (hd:d<96):∀p∈[(2*d+1,k)],192≠p.1∧193≠p.1:=fun p hp=>by rcases List.mem_singleton.1 hp with rfl;show 192≠2*d+1∧193≠2*d+1;omega
theorem zol {d k:Nat}:∀p∈[(2*d+1,k)],∀j,j<96→j≠d→2*j≠p.1∧2*j+1≠p.1:=fun p hp j _ hj=>by rcases List.mem_singleton.1 hp with rfl;show 2*j≠2*d+1∧2*j+1≠2*d+1;omega
theorem famE {p:Rp} {d k:Nat} {x:Rc} (hd:d<p.v.rs.length) (hx:x.ss=(at_ Rc.o p.v.rs d).ss):∀j o1,gP false (p.setR d x) j=some o1→(∀q∈[(2*d+1,k)],j≠q.1)→gP false p j=some o1∧zbn o1:=fun j o1 ho hj=>⟨by rw[←zfp hd hx (hj (2*d+1,k) (by simp))];exact ho,zab _ _ j o1 ho⟩
theorem zns {h:T AO} {z:List Nat} {R:Nat→Option Nat} {p:Rp} {d k:Nat} {es:List En} {c:List AV} (hd:d<p.v.rs.length) (hd96:d<96) (hne:es≠[]) (hk:h.get k=some (.row c 73 4)) (hc:∃t,c=es.flatMap aEn++t):∀q∈[(2*d+1,k)],∀o1,gP false (p.setR d {at_ Rc.o p.v.rs d with es:=es}) q.1=some o1→∃o,h.get q.2=some o∧WOG h z R o1 o:=fun q hq o1 ho=>by
 rcases List.mem_singleton.1 hq with rfl
 have hat:at_ Rc.o (p.setR d {at_ Rc.o p.v.rs d with es:=es}).v.rs d={at_ Rc.o p.v.rs d with es:=es}:=zal _ _ _ _ hd;have hge:=zjD (ph:=false) (p:=p.setR d {at_ Rc.o p.v.rs d with es:=es}) (i:=d) (by show d<(p.v.rs.set _ _).length;rw[List.length_set];exact hd) hd96 (by rw[hat];exact hne);rw[hat] at hge;have ho:gP false (p.setR d {at_ Rc.o p.v.rs d with es:=es}) (2*d+1)=some o1:=ho;rw[hge] at ho;cases ho;obtain⟨t,ht⟩:=hc;exact⟨_,hk,rfl,rfl, .inr ⟨t,ht,zbx _⟩⟩
theorem zhi {h:T AO} {z:List Nat} {A:Nat} {ph:Bool} {p:Rp} (H:Lies h z A ph p) {b k:Nat} {e e':TypeId} {q q':Nat} (h96:p.v.rs.length≤96) (hp:h.get b=some (.row (pRow A k p) e q)) (hb:b∈z) (hr:h.get k=some (.row (flatI (rcP ph A) 0 p.v.rs) e' q')) (hk:k∈z):Wz h z (.cp (pC p) 0) (.ptr b 0):=by
 unfold Wz;refine⟨rfl,hb,_,_,_,hp,(by show 7≤7;omega),?_⟩;show Wzl h z (pC p) (pRow A k p);exact Wzc (zaa rfl) (Wzc (zaa rfl) (Wzc (zmn H h96 hr hk rfl) (Wzc (zaa rfl) (Wzc (zaa rfl) (Wzc Wza (Wzc Wza Wzn))))))
end Ck
namespace Go.Proofs.YtgcjejajljhnaaaGreatDoor
open Go.Ex Ck
set_option maxRecDepth 100000
set_option maxHeartbeats 8000000
theorem Clip_lit (n:Nat) (a:Addr) (cap:Nat) (h:n≤cap):PureC Tryz.prog 182 [.sc (.slice (some a) n cap)] (.sc (.slice (some a) n n)):=by
 refine PureC.of kmix rfl ?_
 (conv=>whnf);repeat((refine Need.mk ?_ ?_;omega;conv=>whnf))
 refine .z [] ?_;exact zaa rfl
theorem Clip_mt :PureC Tryz.prog 182 [LS 4 aEn En.o []] (.lst 0 0 fun i=>aEn (at_ En.o [] i)):=by
 refine PureC.of kmix rfl ?_
 conv=>whnf
 refine .z [] ?_;exact zaa rfl
theorem zkr (n:Nat) (p:Ck.Rp) (d r:Nat) (nm:List UInt8) (hf:Rf n p) (hn:n≤96) (hd:d<n) (hr:r<n) (hse:∀x∈p.v.rs,x.ss.length≤100000∧x.es.length≤1000):HG Tryz.prog 2 20 220 154 [.ptr 0 0,ib (d:Nat),tb nm,ib (r:Nat)] (gP false p) [.row (pRow 20 1 p) 106 0, .row (flatI (rcP false 20) 0 p.v.rs) 66 10] (.tup [])
  (gP false (Ck.enter p d nm r)) [.row (pRow 20 1 (Ck.enter p d nm r)) 106 0, .row (flatI (rcP false 20) 0 (Ck.enter p d nm r).v.rs) 66 10]:=by
 have hpn:p.v.rs.length=n:=hf.n
 have h96:p.v.rs.length≤96:=by omega
 have hd0:(0:Int)≤(d:Nat)∧((d:Nat):Int)<(p.v.rs.length:Nat):=⟨by omega,by omega⟩
 have hr0:(0:Int)≤(r:Nat)∧((r:Nat):Int)<(p.v.rs.length:Nat):=⟨by omega,by omega⟩
 have hdl:d<p.v.rs.length:=by omega
 have hrl:r<p.v.rs.length:=by omega
 have hd96:d<96:=by omega
 have hr96:r<96:=by omega
 have hoff9:0+((d:Nat):Int).toNat*10+9=d*10+9:=by simp
 have hoffr:0+((r:Nat):Int).toNat*10=r*10:=by simp
 have href:=zhh p r hrl h96
 obtain⟨y,hy⟩:∃y,at_ Rc.o p.v.rs r=y:=⟨_,rfl⟩
 have hsz:=zkO y (by rw[←hy];exact(hse _ (at_mem Rc.o p.v.rs r hrl)).1);have hxe:(at_ Rc.o p.v.rs d).es.length≤1000:=(hse _ (at_mem Rc.o p.v.rs d hdl)).2
 have hent:Ck.enter p d nm r=p.setR d {at_ Rc.o p.v.rs d with es:=(at_ Rc.o p.v.rs d).es++[⟨nm,p.ref r,Ck.sizeOf y⟩]}:=by
  unfold Ck.enter;rw[zae,zae,hy,Int.toNat_natCast]
 rw[hent]
 have hrow:∀{h:T AO} {z:List Nat} {k m:Nat} {X:Rc},m=X.es.length→X.es≠[]→X={at_ Rc.o p.v.rs d with es:=X.es}→WRowG h z (RG 20 [(2*d+1,k)] [0,1]) (flatI (rcP false 20) 0 (p.setR d X).v.rs) (flatI (updI (rcP false 20) d (rcE 20 d (at_ Rc.o p.v.rs d) (.so k 0 m 0))) 0 p.v.rs):=fun hm hne hX=>by
  refine WL.row (zbf (i:=d) h96 List.length_set (fun k hk=>zau _ _ _ _ _ (Ne.symm hk)) zol ?_);show WL _ _ _ (rcP false 20 d (at_ Rc.o (p.v.rs.set d _) d)) _;rw[zal _ _ _ _ hdl,hX];exact zmo hd96 hm hne
 have hne:(at_ Rc.o p.v.rs d).es++[(⟨nm,p.ref r,Ck.sizeOf y⟩:En)]≠[]:=by simp
 refine HG.of kmix (by omega) ?_
 by_cases he:(at_ Rc.o p.v.rs d).es=[]
 ·have e1:seE 20 d (at_ Rc.o p.v.rs d)=LS 4 aEn En.o []:=zdh he
  (conv=>whnf);repeat(first|refine Need.mk ?_ ?_;(focus(first|exact hd0|exact hr0))|refine RK.of (zaP (zat false 20) Rc.o (k:=9) hoff9 rfl rfl hdl (by decide) rfl) ?_|rw[e1]|refine DCall.pure (Clip_mt) ?_|refine DCall.lend (zF 20 [0,1]) (href) rfl ?_ ?_;exact Wzc (zhi (Lies.mk (fun j hj=>zbd hj) (fun j hj=>zaq (by omega))) h96 rfl (zbA (by simp)) rfl (zbA (by simp))) (Wzc (zaa rfl) Wzn)|refine RK.of (zcI (zat false 20) Rc.o hoffr rfl rfl hrl rfl) ?_|rw[hy]|refine DCall.lend (zF 20 []) (hsz) rfl ?_ ?_;exact zi2 (LiesS.mk (fun j hj=>zbd (Nat.lt_trans hj (by decide))) (fun j hj=>zaq (show j<220-20 from Nat.lt_trans hj (by decide)))) hrl hr96 hy|refine zbC (zat false 20) Rc.o (k:=9) [.so 221 0 1 0] (rcE 20 d (at_ Rc.o p.v.rs d) (.so 221 0 1 0)) hoff9 rfl rfl rfl rfl rfl rfl hdl (by decide) rfl ?_|refine NCase.s (Nat.succ_ne_zero _) ?_|refine Need.mk (p:=zah _=true) ?_ ?_;decide+kernel|refine Need.mk ?_ ?_;trivial);conv=>whnf
  refine⟨?_⟩;refine Weak.ofG [0,1] [] [(2*d+1,221)] rfl rfl rfl rfl ?_ ?_ ?_ ?_
  ·refine⟨⟨rfl,rfl,?_⟩,⟨rfl,rfl,hrow (by rw[he];rfl) hne rfl⟩,trivial⟩;rw[zbp];exact WL.row (zdp ⟨rfl,rfl⟩ (znt hd96))
  ·exact famE hdl rfl
  ·exact zns hdl hd96 hne rfl ⟨[],by rw[he];rfl⟩
  ·(repeat' first|exact zT|refine zA ?_ ?_)
 ·have e1:seE 20 d (at_ Rc.o p.v.rs d)= .so (fam 20 (2*d+1)) 0 (at_ Rc.o p.v.rs d).es.length 0:=zfL he
  have hble:Nat.ble ((at_ Rc.o p.v.rs d).es.length+1) (at_ Rc.o p.v.rs d).es.length=false:=by cases h:Nat.ble ((at_ Rc.o p.v.rs d).es.length+1) (at_ Rc.o p.v.rs d).es.length with|false=>rfl|true=>have:=Nat.le_of_ble_eq_true h;omega
  have hge:gP false p (2*d+1)=some (.row ((at_ Rc.o p.v.rs d).es.flatMap aEn) 73 4):=zjD hdl hd96 he
  have h9:2*d+1<220-20:=by omega
  (conv=>whnf);repeat(first|refine Need.mk ?_ ?_;(focus(first|exact hd0|exact hr0))|refine RK.of (zaP (zat false 20) Rc.o (k:=9) hoff9 rfl rfl hdl (by decide) rfl) ?_|rw[e1]|refine DCall.clip (fun a cap h=>Clip_lit _ a cap h) ?_|refine DCall.lend (zF 20 [0,1]) (href) rfl ?_ ?_;exact Wzc (zhi (Lies.mk (fun j hj=>zbd hj) (fun j hj=>zaq (by omega))) h96 rfl (zbA (by simp)) rfl (zbA (by simp))) (Wzc (zaa rfl) Wzn)|refine RK.of (zcI (zat false 20) Rc.o hoffr rfl rfl hrl rfl) ?_|rw[hy]|refine DCall.lend (zF 20 []) (hsz) rfl ?_ ?_;exact zi2 (LiesS.mk (fun j hj=>zbd (Nat.lt_trans hj (by decide))) (fun j hj=>zaq (show j<220-20 from Nat.lt_trans hj (by decide)))) hrl hr96 hy|refine KIf.f hble ?_|refine RK.of (loadC_flat (enc:=aEn) (sz:=4) (fun _=>rfl) ((zaq h9).trans hge) rfl) ?_|refine zbC (zat false 20) Rc.o (k:=9) [.so 221 0 ((at_ Rc.o p.v.rs d).es.length+1) 0] (rcE 20 d (at_ Rc.o p.v.rs d) (.so 221 0 ((at_ Rc.o p.v.rs d).es.length+1) 0)) hoff9 rfl rfl rfl rfl rfl rfl hdl (by decide) rfl ?_|refine Need.mk (p:=zah _=true) ?_ ?_;decide+kernel|refine Need.mk ?_ ?_;(first|trivial|omega));conv=>whnf
  refine⟨?_⟩;refine Weak.ofG [0,1] [] [(2*d+1,221)] rfl rfl rfl rfl ?_ ?_ ?_ ?_
  ·refine⟨⟨rfl,rfl,?_⟩,⟨rfl,rfl,hrow (by simp) hne rfl⟩,trivial⟩;rw[zbp];exact WL.row (zdp ⟨rfl,rfl⟩ (znt hd96))
  ·exact famE hdl rfl
  ·exact zns hdl hd96 hne rfl ⟨[],by rw[List.flatMap_append,List.append_nil];rfl⟩
  ·(repeat' first|exact zT|refine zA ?_ ?_)
end Go.Proofs.YtgcjejajljhnaaaGreatDoor
namespace Ck
open Go Go.Ex
theorem zlk {α:Type} {P:α→Bool}:∀(l:List α) (i:Nat),ixL P l i= -1→∀x∈l,P x=false
 |[],_,_,x,hx=>by cases hx
 |y::l,i,h,x,hx=>by
  unfold ixL at h;cases hy:P y
  ·rw[if_neg (by simp[hy])] at h
   rcases List.mem_cons.1 hx with rfl|hx
   ·exact hy
   ·exact zlk l (i+1) h x hx
  ·rw[if_pos hy] at h;omega
theorem zlj {α:Type} {P:α→Bool} (o:α):∀(l:List α) (i:Nat),ixL P l i≠-1→∃k,k<l.length∧ixL P l i=((i+k:Nat):Int)∧P (at_ o l k)=true∧∀x∈l.take k,P x=false
 |[],_,h=>absurd rfl h
 |y::l,i,h=>by
  unfold ixL at h⊢;cases hy:P y
  ·rw[if_neg (by simp[hy])] at h⊢;obtain⟨k,h1,h2,h3,h4⟩:=zlj o l (i+1) h;refine⟨k+1,by simpa using h1,by rw[h2];omega,h3,fun x hx=> ?_⟩;rw[List.take_succ_cons] at hx
   rcases List.mem_cons.1 hx with rfl|hx
   ·exact hy
   ·exact h4 x hx
  ·exact⟨0,by simp,by simp,hy,fun x hx=>by cases hx⟩
def kept {α:Type} (P:α→Bool) (l:List α) (d:Nat):List α:=(l.take d).filter fun x=> !P x
theorem kept_le {α:Type} (P:α→Bool) (l:List α) (d:Nat):(kept P l d).length≤d:=by
 have h1:=List.length_filter_le (fun x=> !P x) (l.take d)
 have h2:(l.take d).length≤d:=by simp;omega
 unfold kept;omega
theorem znV {α:Type} {P:α→Bool} (o:α) {l:List α} {d:Nat} (hd:d<l.length) (h:P (at_ o l d)=true):kept P l (d+1)=kept P l d:=by
 unfold kept;rw[zcz o l d hd,List.filter_append];simp[h]
theorem kept_f {α:Type} {P:α→Bool} (o:α) {l:List α} {d:Nat} (hd:d<l.length) (h:P (at_ o l d)=false):kept P l (d+1)=kept P l d++[at_ o l d]:=by
 unfold kept;rw[zcz o l d hd,List.filter_append];simp[h]
theorem kept_all {α:Type} {P:α→Bool} {l:List α} {d:Nat} (h:∀x∈l.take d,P x=false):kept P l d=l.take d:=by
 unfold kept;exact List.filter_eq_self.2 fun x hx=>by rw[h x hx];rfl
theorem at_mid {α:Type} (o:α) {K l:List α} {d:Nat} (h:K.length≤d):at_ o (K++l.drop K.length) d=at_ o l d:=by
 unfold at_;rw[List.getElem?_append_right h,List.getElem?_drop,show K.length+(d-K.length)=d by omega]
theorem set_mid {α:Type} {K l:List α} (v:α) (h:K.length<l.length):(K++l.drop K.length).set K.length v=(K++[v])++l.drop (K++[v]).length:=by
 rw[List.set_append_right _ _ (Nat.le_refl _),Nat.sub_self,List.drop_eq_getElem_cons h,List.set_cons_zero];simp
theorem forceK_of {n:Nat} {K:Nat→Prop} (h:K n):Nat.forceK n K:=by
 unfold Nat.forceK;split
 ·rename_i b hb;rw[zmD n b hb];exact h
 ·exact h
theorem zne (x:En):∀y∈aEn x,oneA y=true:=by
 intro y hy;unfold aEn at hy;simp only[List.mem_cons,List.not_mem_nil,or_false] at hy
 rcases hy with rfl|rfl|rfl|rfl<;>rfl
theorem storeC_tail {s:St} {b off m:Nat} {L R:List En} {e:TypeId} {q:Nat} {cs:List AV} (hr:s.h.get b=some (.row ((L++R).flatMap aEn) e q)) (hoff:off=L.length*4) (hcs:cs=(List.replicate m En.o).flatMap aEn) (hm:m=R.length):zcd s b off cs= .ok (s.set b (.row (L.flatMap aEn++(List.replicate m En.o).flatMap aEn) e q)):=by
 subst hoff hcs hm
 have hf:∀l:List En,(l.flatMap aEn).length=l.length*4:=fun l=>zbj (enc:=aEn) (sz:=4) (fun _=>rfl) l
 have h1:∀x∈(List.replicate R.length En.o).flatMap aEn,oneA x=true:=fun x hx=>by
  obtain⟨y,_,hy⟩:=List.mem_flatMap.1 hx;exact zne y x hy
 unfold zcd Ex.rowAt;rw[hr];show bd (putAt ((L++R).flatMap aEn) (L.length*4) _) _=_;have hl:((L++R).flatMap aEn).length=(L++R).length*4:=hf _
 have hr2:((List.replicate R.length En.o).flatMap aEn).length=R.length*4:=by rw[hf];simp
 rw[List.length_append] at hl;rw[zig (by omega) h1,hr2];show Ex.R.ok (s.set b (.row _ e q))=_
 congr 3
 rw[List.flatMap_append,List.take_left' (by rw[hf]),List.drop_of_length_le (by simp[hf]),List.append_nil]
theorem zeros_en (m:Nat) {z:Value} (h:z.cells.toList.map AV.sc=aEn En.o):zeros m z=(List.replicate m En.o).flatMap aEn:=by
 unfold zeros;rw[h]
 induction m with
 |zero=>rfl
 |succ m ih=>rw[List.replicate_succ,List.replicate_succ,List.flatten_cons,List.flatMap_cons,ih]
theorem zlI {s:St} {b off m start:Nat} {L R:List En} {e:TypeId} {q:Nat} {z:Value} (hr:s.h.get b=some (.row ((L++R).flatMap aEn) e q)) (hoff:off=L.length*4) (hz:z.cells.toList.map AV.sc=aEn En.o) (hm:m=R.length):zjP s (.so b off m start) z= .ok (s.set b (.row (L.flatMap aEn++(List.replicate m En.o).flatMap aEn) e q)):=storeC_tail hr hoff (zeros_en m hz) hm
theorem zmB {h:T AO} {z:List Nat} {l:List En} {b n:Nat} {e:TypeId} {q:Nat} (hr:h.get b=some (.row (l.flatMap aEn) e q)) (hz:b∈z) (hn:n=l.length):Wz h z (LS 4 aEn En.o l) (.so b 0 n 0):=Wz.list (fun _=>rfl) (fun _=>rfl) hr hz hn rfl rfl
end Ck
namespace Go.Proofs.YtgcjejajljhnaaaGreatDoor
open Go.Ex Ck
set_option maxRecDepth 100000
set_option maxHeartbeats 8000000
theorem CloneE_nil :Ex.bang Tryz.prog awext 2000 143 [.slice none 0 0] (.slice none 0 0)=true:=by decide+kernel
theorem zfH (l:List En) (hl:l.length≤100000) (h0:0<l.length):HC Tryz.prog 0 143 [LS 4 aEn En.o l] [] (.so 0 0 l.length 0) [.row (l.flatMap aEn) 73 4]:=by
 have hb:Nat.ble (0+l.length) 0=false:=by cases h:Nat.ble (0+l.length) 0 with|false=>rfl|true=>have:=Nat.le_of_ble_eq_true h;omega
 refine HC.of kmix (Nat.le_refl 0) ?_
 (conv=>whnf);repeat(first|refine KIf.f ?_ ?_;assumption|refine KIf.f rfl ?_|refine Need.mk ?_ ?_;omega|refine Need.mk (fun _ _=>rfl) ?_|refine RK.of (zeh rfl rfl h0) ?_);conv=>whnf
 have e:([]++(List.range l.length).flatMap fun i=>aEn (at_ En.o l i))=l.flatMap aEn:=by exact zaK aEn En.o l
 rw[e];refine⟨[1],[],rfl,⟨⟨rfl,rfl,Or.inr ⟨rfl,zas (fun _=>rfl) _⟩⟩,trivial⟩,?_⟩
 (repeat' first|exact zT|exact rfl|refine zA ?_ ?_)
 exact Nat.zero_add _
def delP (o:Ref) (n:Nm) (x:En):Bool:=decide (x.f=o)&&decide (x.n=n.n)
theorem DeleteE_hk (g:Nat→Option AO) (hg:∀j o,g j=some o→zbn o) (es:List En) (hl:es.length≤1000) (o:Ref) (n:Nm):HK Tryz.prog 3 180 [.so 200 0 es.length 0, .fn (.func 181) [] [.ptr 201 0, .ptr 202 0]] g [.row (es.flatMap aEn) 73 4, .row (aRef o) 61 0, .row (aNm n) 71 0] (.so 200 0 (es.filter fun x=> !delP o n x).length 0)
  g [.row ((es.filter fun x=> !delP o n x).flatMap aEn) 73 4, .row (aRef o) 61 0, .row (aNm n) 71 0]:=by
 have hix:=ze9 (aRef o) (aNm n) (delP o n) es (by omega) (fun x _=>zks x o n)
 obtain⟨W,hW⟩:∃W,ixL (delP o n) es 0=W:=⟨_,rfl⟩
 rw[hW] at hix;refine HK.of kmix (by omega) ?_;by_cases hm:W= -1
 ·have hall:=zlk es 0 (hW.trans hm)
  have hfil:(es.filter fun x=> !delP o n x)=es:=List.filter_eq_self.2 fun x hx=>by rw[hall x hx];rfl
  rw[hfil]
  (conv=>whnf);repeat(first|refine KCall.lend ([200,201,202]) (hix) rfl ?_ ?_;exact Wzc (zmB rfl (by simp) rfl) (Wzc (zmP rfl (by simp) (zgh o) rfl (by simp) (zbo n)) Wzn)|refine KIf.t (decide_eq_true hm) ?_);conv=>whnf
  refine⟨?_⟩;refine Weak.ofK [200,201,202] [] rfl rfl rfl rfl ?_ ?_ ?_
  ·exact⟨⟨rfl,rfl, .same rfl (zbx _)⟩,⟨rfl,rfl, .same rfl rfl⟩,⟨rfl,rfl, .same rfl rfl⟩,trivial⟩
  ·exact fun j o1 h=>⟨h,hg j o1 h⟩
  ·(repeat' first|exact zT|exact rfl|refine zA ?_ ?_)
 ·obtain⟨k,hk,hWk,hPk,hall⟩:=zlj En.o es 0 (fun e=>hm (hW.symm.trans e))
  have hWk2:W=(k:Int):=by rw[←hW,hWk,Nat.zero_add]
  subst hWk2
  (conv=>whnf);repeat(first|refine KCall.lend ([200,201,202]) (hix) rfl ?_ ?_;exact Wzc (zmB rfl (by simp) rfl) (Wzc (zmP rfl (by simp) (zgh o) rfl (by simp) (zbo n)) Wzn)|refine KIf.f (decide_eq_false hm) ?_|refine Need.mk ?_ ?_;((constructor<;>omega)));conv=>whnf
  have hk1:kept (delP o n) es (k+1)=es.take k:=(znV En.o hk hPk).trans (kept_all hall)
  have hk2:(es.take k).length=k:=by simp;omega
  have hfin:kept (delP o n) es es.length=es.filter fun x=> !delP o n x:=by unfold kept;rw[List.take_length]
  refine WLoop.inv kmix (D:=Nat) (fun d=>es.length-d) (fun d=>d≤es.length∧(kept (delP o n) es d).length<d) (fun d=>slots [(0, .so 200 0 es.length 0),(1, .fn (.func 181) [] [.ptr 201 0, .ptr 202 0]),(5,ib (kept (delP o n) es d).length),(6,ib d)] 42)
   (fun d=>fkOf g [.row ((kept (delP o n) es d++es.drop (kept (delP o n) es d).length).flatMap aEn) 73 4, .row (aRef o) 61 0, .row (aNm n) 71 0]) (k+1) ⟨by omega,by rw[hk1,hk2];omega⟩ ?_ ?_
  ·rw[hk1,hk2,List.take_append_drop];refine Weak.ofK [200,201,202] [] rfl rfl rfl rfl ?_ ?_ ?_
   ·exact⟨⟨rfl,rfl, .same rfl (zbx _)⟩,⟨rfl,rfl, .same rfl rfl⟩,⟨rfl,rfl, .same rfl rfl⟩,trivial⟩
   ·exact fun j o1 h=>⟨h,hg j o1 h⟩
   ·(repeat' first|exact zT|exact rfl|refine zA ?_ ?_)
  ·rintro d ⟨hd,hkd⟩;have hkl:=kept_le (delP o n) es d
   have hst:=fun h h2=>znV (P:=delP o n) En.o (l:=es) (d:=d) h h2
   have hsf:=fun h h2=>kept_f (P:=delP o n) En.o (l:=es) (d:=d) h h2
   have hend:d=es.length→kept (delP o n) es d=es.filter fun x=> !delP o n x:=fun e=>by rw[e,hfin]
   generalize kept (delP o n) es d=L at*
   have hlen:(L++es.drop L.length).length=es.length:=by simp;omega
   conv=>whnf
   refine KIf.dec (fun h=> ?_) (fun h=> ?_)
   ·have hlt:d<es.length:=by omega
    have hd0:(0:Int)≤(d:Nat)∧((d:Nat):Int)<(es.length:Nat):=⟨by omega,by omega⟩
    have hoff:0+((d:Nat):Int).toNat*4=d*4:=by simp
    have hj:d<(L++es.drop L.length).length:=by omega
    have hat:at_ En.o (L++es.drop L.length) d=at_ En.o es d:=at_mid En.o hkl
    obtain⟨x,hx⟩:∃x,at_ En.o es d=x:=⟨_,rfl⟩
    rw[hx] at hat hst hsf;have hdel:=zks x o n
    obtain⟨b,hb⟩:∃b,delP o n x=b:=⟨_,rfl⟩
    rw[show(decide (x.f=o)&&decide (x.n=n.n))=b from hb] at hdel
    (conv=>whnf);repeat(first|refine Need.mk ?_ ?_;exact hd0|refine RK.of (zju (enc:=aEn) (sz:=4) (fun _=>rfl) En.o hoff rfl rfl hj) ?_|rw[hat]|refine KCall.lend ([201,202]) (hdel) rfl ?_ ?_;exact Wzc (zaa rfl) (Wzc (zm1 rfl (by simp) (zgh o)) (Wzc (zm1 rfl (by simp) (zbo n)) Wzn)));conv=>whnf
    cases b
    ·have hkf:=hsf hlt hb
     have hL0:(0:Int)≤(L.length:Nat)∧((L.length:Nat):Int)<(es.length:Nat):=⟨by omega,by omega⟩
     have hoffL:0+((L.length:Nat):Int).toNat*4=L.length*4+0:=by simp
     have hjL:L.length<(L++es.drop L.length).length:=by omega
     have hset:=set_mid (K:=L) (l:=es) x (by omega)
     have hlenI:((L.length:Nat):Int)+1=((L++[x]).length:Nat):=by simp
     (conv=>whnf);repeat(first|refine Need.mk ?_ ?_;exact hL0|refine zhm (enc:=aEn) (sz:=4) (fun _=>rfl) En.o (k:=0) x hoffL rfl rfl rfl (zne x) rfl hjL (by decide) rfl ?_|refine KIf.t rfl ?_|refine Need.mk ?_ ?_;((constructor<;>omega)));conv=>whnf
     refine⟨d+1,⟨hlt,by rw[hkf];simp;omega⟩,by dsimp only;omega,?_⟩;dsimp only;rw[hset,hkf];refine Weak.ofK [200,201,202] [] rfl rfl rfl rfl ?_ ?_ ?_
     ·exact⟨⟨rfl,rfl, .same rfl (zbx _)⟩,⟨rfl,rfl, .same rfl rfl⟩,⟨rfl,rfl, .same rfl rfl⟩,trivial⟩
     ·exact fun j o1 h=>⟨h,hg j o1 h⟩
     ·(repeat' first|exact zT|exact rfl|exact hlenI.symm|refine zA ?_ ?_)
    ·have hkt:=hst hlt hb
     (conv=>whnf);repeat((first|(refine KIf.f rfl ?_;conv=>whnf)|(refine Need.mk ?_ ?_;((constructor<;>omega));conv=>whnf)))
     refine⟨d+1,⟨hlt,by rw[hkt];omega⟩,by dsimp only;omega,?_⟩;dsimp only;rw[hkt];refine Weak.ofK [200,201,202] [] rfl rfl rfl rfl ?_ ?_ ?_
     ·exact⟨⟨rfl,rfl, .same rfl (zbx _)⟩,⟨rfl,rfl, .same rfl rfl⟩,⟨rfl,rfl, .same rfl rfl⟩,trivial⟩
     ·exact fun j o1 h=>⟨h,hg j o1 h⟩
     ·(repeat' first|exact zT|exact rfl|refine zA ?_ ?_)
   ·have hLe:=hend (by omega)
    have hL0:(0:Int)≤(L.length:Nat)∧((L.length:Nat):Int)≤(es.length:Nat):=⟨by omega,by omega⟩
    rw[←hLe]
    cases L with
    |nil=>
     (conv=>whnf);repeat(first|refine Need.mk ?_ ?_;exact hL0|refine RK.of (zlI (L:=[]) (R:=es.drop ([]:List En).length) rfl rfl rfl rfl) ?_);conv=>whnf
     refine⟨?_⟩;refine Weak.ofK [200,201,202] [] rfl rfl rfl rfl ?_ ?_ ?_
     ·exact⟨⟨rfl,rfl, .inr ⟨_,rfl,zbx _⟩⟩,⟨rfl,rfl, .same rfl rfl⟩,⟨rfl,rfl, .same rfl rfl⟩,trivial⟩
     ·exact fun j o1 h=>⟨h,hg j o1 h⟩
     ·(repeat' first|exact zT|exact rfl|refine zA ?_ ?_)
    |cons y L=>
     have hlt:L.length+1<es.length:=by simp at hkd;omega
     have hoff:0+(L.length+1)*4=(y::L).length*4:=by simp
     have hm:es.length-(L.length+1)=(es.drop (y::L).length).length:=by simp
     (conv=>whnf);repeat(first|refine Need.mk ?_ ?_;exact hL0|refine forceK_of ?_|refine KIf.t (zd4 hlt) ?_|refine RK.of (zlI (L:=y::L) (R:=es.drop (y::L).length) rfl hoff rfl hm) ?_);conv=>whnf
     refine⟨?_⟩;refine Weak.ofK [200,201,202] [] rfl rfl rfl rfl ?_ ?_ ?_
     ·exact⟨⟨rfl,rfl, .inr ⟨_,rfl,zbx _⟩⟩,⟨rfl,rfl, .same rfl rfl⟩,⟨rfl,rfl, .same rfl rfl⟩,trivial⟩
     ·exact fun j o1 h=>⟨h,hg j o1 h⟩
     ·(repeat' first|exact zT|exact rfl|refine zA ?_ ?_)
end Go.Proofs.YtgcjejajljhnaaaGreatDoor
namespace Ck
open Go Go.Ex
theorem zkP (l:List Rc) (i:Nat) (h:i<l.length):l.set i (at_ Rc.o l i)=l:=by rw[zaG _ _ _ h,List.set_getElem_self]
theorem zlw :∀l:List En,plainA.plainL (l.flatMap aEn)=true
 |[]=>rfl
 |x::l=>by
  rw[List.flatMap_cons];show plainA.plainL ([tb x.n,ib x.f.r,ib x.f.q,ib x.z]++l.flatMap aEn)=true;exact zlw l
theorem es_plainR (l:List En):∀o∈[AO.row (l.flatMap aEn) 73 4],zeE o:=fun o ho=>by rcases List.mem_singleton.1 ho with rfl;exact zlw l
theorem DCall.lift {P:Program} {n0:Nat} {f:FuncId} {args0 args:List AV} {rows0 rows1:List AO} {v1:AV} {s:St} {light:AV→Prop} {heavy:AV→St→Prop} (r z:List Nat) (v2:AV) (rows2:List AO) (hc:HC P n0 f args0 rows0 v1 rows1) (hap:(match zcp z r with|true=>Nat.ble n0 r.length|false=>false)=true) (hrows:zhg s.h z r rows0 r) (hargs:named.nameds r.length args0=true∧Wvl s.h z (rn r) args0 args)
  (hv:Rn (rho r n0 s.n) v1 v2∧rows2.length=rows1.length∧RnOs (rho r n0 s.n) rows1 rows2) (hk:(subS s r z n0 rows2).nfK fun s=>heavy v2 s):DCall P f args light heavy s:=by
 split at hap
 ·rename_i ha;exact⟨.inr ⟨v2,_,CallOk.lift r z v2 rows2 hc ha (Nat.le_of_ble_eq_true hap) hrows hargs.1 hargs.2 hv.1 hv.2.1 hv.2.2,St.nfK_ok hk⟩⟩
 ·cases hap
theorem rcE_mt {h:T AO} {A i k:Nat} {R:Nat→Option Nat} {x:Rc} {e:TypeId} {q:Nat} {c:List AV} (hs:WL h [k] R [seS false 20 i x] [seS false A i x]) (hk:h.get k=some (.row c e q)):WL h [k] R (rcP false 20 i {x with es:=[]}) (rcE A i x (.so k 0 0 0)):=by
 unfold rcP rcE;rw[zdh rfl];have e1:seS false 20 i {x with es:=[]}=seS false 20 i x:=rfl;rw[e1]
 repeat refine WL.sc rfl ?_
 refine WL.cons ⟨hs.1.1,?_⟩ (WL.cons ⟨trivial,?_⟩ WL.nil)
 ·have:=hs.2;unfold Wvl at this;exact this.1
 ·unfold Wv Wz;exact⟨rfl,List.mem_singleton.2 rfl,rfl,_,_,_,hk,(by show 0*4≤_;omega),fun i hi=>absurd hi (Nat.not_lt_zero _)⟩
end Ck
namespace Go.Proofs.YtgcjejajljhnaaaGreatDoor
open Go.Ex Ck
set_option maxRecDepth 100000
set_option maxHeartbeats 8000000
theorem ziV :PureC Tryz.prog 143 [LS 4 aEn En.o []] (LS 4 aEn En.o []):=by
 refine mt2 kmix (fun s=>CallOk.of_below (args:=[.slice none 0 0]) fun w=>Ex.calls_of_bang awmix zcy (args:=[.slice none 0 0]) CloneE_nil w) (fun a cap=> ?_)
 (conv=>whnf);repeat(first|refine KIf.t rfl ?_|refine KIf.f rfl ?_|refine Need.mk ?_ ?_;trivial);conv=>whnf
 refine .z [0] ?_;exact Wz.ownS rfl (by simp) rfl (Nat.le_refl _) (fun i hi=>absurd hi (Nat.not_lt_zero _)) rfl (fun i hi=>absurd hi (Nat.not_lt_zero _))
theorem DeleteE_mt (o:Ref) (n:Nm):HC Tryz.prog 2 180 [LS 4 aEn En.o [], .fn (.func 181) [] [.ptr 0 0, .ptr 1 0]] [.row (aRef o) 61 0, .row (aNm n) 71 0] (LS 4 aEn En.o []) [.row (aRef o) 61 0, .row (aNm n) 71 0]:=by
 have hix:=ze9 (aRef o) (aNm n) (delP o n) [] (Nat.zero_le _) (fun x _=>zks x o n);refine HC.of kmix (Nat.le_refl 2) ?_
 (conv=>whnf);repeat(first|refine KCall.lend ([0,1]) (hix) rfl ?_ ?_;exact Wzc (zaa rfl) (Wzc (zmP rfl (by simp) (zgh o) rfl (by simp) (zbo n)) Wzn)|refine KIf.t rfl ?_);conv=>whnf
 (refine⟨[0,1],[],rfl,?_,?_⟩<;>(repeat' first|exact zT|refine zA ?_ ?_)<;>(conv=>whnf)<;>(first|(intro _ _;rfl)|(exact Or.inr ⟨rfl,rfl⟩)))
theorem zmX (n:Nat) (p:Ck.Rp) (r:Nat) (nm:Nm) (hf:Rf n p) (hn:n≤96) (hr:r<n) (hes:∀x∈p.v.rs,x.es.length≤1000):HG Tryz.prog 2 20 220 153 [.ptr 0 0,ib (r:Nat), .agg (aNm nm)] (gP false p) [.row (pRow 20 1 p) 106 0, .row (flatI (rcP false 20) 0 p.v.rs) 66 10] (.tup [])
  (gP false (Ck.drop p r nm)) [.row (pRow 20 1 (Ck.drop p r nm)) 106 0, .row (flatI (rcP false 20) 0 (Ck.drop p r nm).v.rs) 66 10]:=by
 have hpn:p.v.rs.length=n:=hf.n
 have h96:p.v.rs.length≤96:=by omega
 have hrl:r<p.v.rs.length:=by omega
 have href:=zhh p r hrl h96
 obtain⟨b,hb⟩:∃b,Ck.right p.v nm.d=b:=⟨_,rfl⟩
 obtain⟨x,hx⟩:∃x,at_ Rc.o p.v.rs nm.d.r.toNat=x:=⟨_,rfl⟩
 have hdr:Ck.drop p r nm=if(b&&x.k==0)=true then p.setR nm.d.r.toNat {x with es:=x.es.filter fun y=> !delP (p.ref r) nm y} else p:=by
  unfold Ck.drop;rw[hb,show p.rc nm.d.r=x from hx];rfl
 refine HG.of kmix (by omega) ?_
 (conv=>whnf);repeat(first|refine DCall.liftK [1] (.tup [.agg (rgC false 20 p.v nm.d),bb b]) [.row (flatI (rcP false 20) 0 p.v.rs) 66 10] (zib false p nm.d hb ⟨rfl,h96⟩) rfl (zab _ _) (zab _ _) ?_ ?_ ?_ ?_;exact⟨rF FR.L h96,trivial⟩;(focus((repeat' first|exact zT|exact rfl|(intro _ _;exact rfl)|refine zA ?_ ?_)));exact⟨zl3 (zoi FN.L h96),rfl,⟨⟨rfl,rfl, .inl (zb1 FN.L h96)⟩,trivial⟩⟩|refine zeq (c':=rgC false 20 p.v nm.d) rfl rfl (zj8 _ _ _ _) (zj7 _ _ _ _) rfl rfl ?_|refine Need.mk (p:=zah _=true) ?_ ?_;decide+kernel);conv=>whnf
 cases b
 ·rw[show Ck.drop p r nm=p from hdr]
  (conv=>whnf);repeat(((refine KIf.f rfl ?_;conv=>whnf)))
  refine⟨?_⟩
  (refine Weak.ofG [0,1] [] [] rfl rfl rfl rfl ?_ ?_ ?_ ?_;exact⟨pQ rfl rfl,rQ h96,trivial⟩;exact gQ;exact zN;(focus((repeat' first|exact zT|refine zA ?_ ?_))))
 ·obtain⟨_,hil,_⟩:=zez hb;have hrg:=zoG (ph:=false) (A:=20) hb;rw[hx] at hrg;by_cases hk:x.k=0
  ·have hdr2:Ck.drop p r nm=p.setR nm.d.r.toNat {x with es:=x.es.filter fun y=> !delP (p.ref r) nm y}:=by rw[hdr,hk];rfl
   rw[hdr2]
   have hix0:(0:Int)≤nm.d.r∧nm.d.r<(p.v.rs.length:Nat):=by
    have:=(zez hb).1;simp[wi] at this;omega
   have hi96:nm.d.r.toNat<96:=by omega
   obtain⟨i,hi⟩:∃i,nm.d.r.toNat=i:=⟨_,rfl⟩
   rw[hi] at hil hrg hx hi96⊢
   have hoff9:0+nm.d.r.toNat*10+9=i*10+9:=by rw[hi,Nat.zero_add]
   have hxe:x.es.length≤1000:=by rw[←hx];exact hes _ (at_mem Rc.o p.v.rs i hil)
   by_cases he:x.es=[]
   ·have e1:seE 20 i x=LS 4 aEn En.o []:=zdh he
    (conv=>whnf);repeat first|(rw[hrg];conv=>whnf)|(refine KIf.t (decide_eq_true hk) ?_;conv=>whnf)|(refine KCall.lend (zF 20 [0,1]) (href) rfl ?_ ?_;exact Wzc (zhi (Lies.mk (fun j hj=>zbd hj) (fun j hj=>zaq (by omega))) h96 rfl (zbA (by simp)) rfl (zbA (by simp))) (Wzc (zaa rfl) Wzn);conv=>whnf)|(rw[e1];conv=>whnf)|(refine DCall.pure (ziV) ?_;conv=>whnf)|(refine Need.mk ?_ ?_;exact hix0;conv=>whnf)|(refine Ck.DCall.lift [241,220] [] (LS 4 aEn En.o []) [.row (aRef (p.ref r)) 61 0, .row (aNm nm) 71 0] (DeleteE_mt (p.ref r) nm) rfl ?_ ?_ ?_ ?_;(focus((repeat' first|exact zT|refine zA ?_ ?_)<;>(conv=>whnf)<;>((exact Or.inr ⟨rfl,rfl⟩))));(focus((repeat' first|exact zT|exact rfl|refine zA ?_ ?_)<;>(try(conv=>whnf))<;>(repeat'((intro _ _;rfl)))));exact⟨(by unfold Rn;rfl),rfl,⟨rfl,rfl, .inr ⟨rfl,rfl⟩⟩,⟨rfl,rfl, .inr ⟨rfl,rfl⟩⟩,trivial⟩;(conv=>whnf))|(refine zbC (zat false 20) Rc.o (k:=9) [LS 4 aEn En.o []] (rcE 20 i (at_ Rc.o p.v.rs i) (LS 4 aEn En.o [])) hoff9 rfl rfl rfl rfl rfl rfl hil (by decide) rfl ?_;conv=>whnf)|(first|(refine KIf.t rfl ?_;conv=>whnf)|(refine Need.mk (p:=zah _=true) ?_ ?_;decide+kernel;conv=>whnf)|(refine Need.mk ?_ ?_;trivial;conv=>whnf))
    have e2:({x with es:=x.es.filter fun y=> !delP (p.ref r) nm y}:Rc)=x:=by rw[he];cases x;simp only at he;subst he;rfl
    have e3:p.setR i x=p:=by rw[←hx];unfold Rp.setR;rw[zkP _ _ hil]
    rw[e2,e3]
    have e4:rcE 20 i (at_ Rc.o p.v.rs i) (LS 4 aEn En.o [])=rcP false 20 i (at_ Rc.o p.v.rs i):=by unfold rcE rcP;rw[zdh (by rw[hx];exact he)]
    refine⟨?_⟩;refine Weak.ofG [0,1] [] [] rfl rfl rfl rfl ?_ ?_ ?_ ?_
    ·refine⟨pQ rfl rfl,⟨rfl,rfl,WL.row (zbf (i:=i) h96 rfl (fun _ _=>rfl) zN ?_)⟩,trivial⟩;rw[e4];exact zcj hi96 zN
    ·exact gQ
    ·exact zN
    ·(repeat' first|exact zT|refine zA ?_ ?_)
   ·have e1:seE 20 i x= .so (fam 20 (2*i+1)) 0 x.es.length 0:=zfL he
    have hge:gP false p (2*i+1)=some (.row (x.es.flatMap aEn) 73 4):=by rw[←hx];exact zjD hil hi96 (by rw[hx];exact he)
    have h9:2*i+1<200:=by omega
    have hdel:=DeleteE_hk (gP false p) (zab _ _) x.es hxe (p.ref r) nm
    obtain⟨F,hF⟩:∃F,(x.es.filter fun y=> !delP (p.ref r) nm y)=F:=⟨_,rfl⟩
    rw[hF] at hdel⊢
    (conv=>whnf);repeat(first|rw[hrg]|refine KIf.t (decide_eq_true hk) ?_|refine KCall.lend (zF 20 [0,1]) (href) rfl ?_ ?_;exact Wzc (zhi (Lies.mk (fun j hj=>zbd hj) (fun j hj=>zaq (by omega))) h96 rfl (zbA (by simp)) rfl (zbA (by simp))) (Wzc (zaa rfl) Wzn)|rw[e1]|refine Need.mk ?_ ?_;exact hix0|refine DCall.lendC (zF 20 []) (.so 242 0 x.es.length 0) (zfH x.es (by omega) (List.length_pos_iff.2 he)) rfl ?_ ?_ ?_ ?_;exact es_plainR _;exact Wzc (zj4 (fun _=>rfl) (fun _=>rfl) ((zaq h9).trans hge) (zbd h9) rfl) Wzn;exact(by unfold Rn;rfl)|refine DCall.liftK [242,241,220] (.so 242 0 F.length 0) [.row (F.flatMap aEn) 73 4, .row (aRef (p.ref r)) 61 0, .row (aNm nm) 71 0] (hdel) rfl (zab _ _) (zab _ _) ?_ ?_ ?_ ?_;exact⟨⟨rfl,rfl, .same rfl (zbx _)⟩,⟨rfl,rfl, .same rfl rfl⟩,⟨rfl,rfl, .same rfl rfl⟩,trivial⟩;(focus((repeat' first|exact zT|exact rfl|refine zA ?_ ?_)));exact⟨(by unfold Rn;rfl),rfl,⟨⟨rfl,rfl, .inr ⟨rfl,zbx _⟩⟩,⟨rfl,rfl, .inr ⟨rfl,rfl⟩⟩,⟨rfl,rfl, .inr ⟨rfl,rfl⟩⟩,trivial⟩⟩|refine zbC (zat false 20) Rc.o (k:=9) [.so 242 0 F.length 0] (rcE 20 i (at_ Rc.o p.v.rs i) (.so 242 0 F.length 0)) hoff9 rfl rfl rfl rfl rfl rfl hil (by decide) rfl ?_|refine KIf.t rfl ?_|refine Need.mk (p:=zah _=true) ?_ ?_;decide+kernel|refine Need.mk ?_ ?_;trivial);conv=>whnf
    refine⟨?_⟩;rw[←hx]
    by_cases hFe:F=[]
    ·subst hFe;refine Weak.ofG [0,1] [242] [] rfl rfl rfl rfl ?_ ?_ ?_ ?_
     ·refine⟨⟨rfl,rfl,?_⟩,⟨rfl,rfl,WL.row (zbf (i:=i) h96 List.length_set (fun k hk=>zau _ _ _ _ _ (Ne.symm hk)) zN ?_)⟩,trivial⟩
      ·rw[zbp];exact WL.row (zdp ⟨rfl,rfl⟩ zN)
      ·show WL _ _ _ (rcP false 20 i (at_ Rc.o (p.v.rs.set i _) i)) _;rw[zal _ _ _ _ hil];exact rcE_mt (WL.cons (zlV hi96 zN) WL.nil) rfl
     ·intro j o1 ho hj;refine⟨?_,zab _ _ j o1 ho⟩;by_cases hj9:j=2*i+1
      ·subst hj9;rw[zcJ (by omega),show(2*i+1)/2=i by omega] at ho;have e5:(p.setR i {at_ Rc.o p.v.rs i with es:=[]}).v.rs[i]? =some {at_ Rc.o p.v.rs i with es:=[]}:=List.getElem?_set_self hil;rw[e5] at ho;simp at ho
      ·rw[←zfp (x:={at_ Rc.o p.v.rs i with es:=[]}) hil rfl hj9];exact ho
     ·exact zN
     ·(repeat' first|exact zT|refine zA ?_ ?_)
    ·refine Weak.ofG [0,1] [] [(2*i+1,242)] rfl rfl rfl rfl ?_ ?_ ?_ ?_
     ·refine⟨⟨rfl,rfl,?_⟩,⟨rfl,rfl,WL.row (zbf (i:=i) h96 List.length_set (fun k hk=>zau _ _ _ _ _ (Ne.symm hk)) zol ?_)⟩,trivial⟩
      ·rw[zbp];exact WL.row (zdp ⟨rfl,rfl⟩ (znt hi96))
      ·show WL _ _ _ (rcP false 20 i (at_ Rc.o (p.v.rs.set i _) i)) _;rw[zal _ _ _ _ hil];exact zmo hi96 rfl hFe
     ·exact famE hil rfl
     ·exact zns hil hi96 hFe rfl ⟨[],by rw[List.append_nil]⟩
     ·(repeat' first|exact zT|refine zA ?_ ?_)
  ·have hdr2:Ck.drop p r nm=p:=by rw[hdr];simp[hk]
   rw[hdr2]
   (conv=>whnf);repeat(first|rw[hrg]|refine KIf.f (decide_eq_false hk) ?_|refine KIf.t rfl ?_);conv=>whnf
   refine⟨?_⟩
   (refine Weak.ofG [0,1] [] [] rfl rfl rfl rfl ?_ ?_ ?_ ?_;exact⟨pQ rfl rfl,rQ h96,trivial⟩;exact gQ;exact zN;(focus((repeat' first|exact zT|refine zA ?_ ?_))))
end Go.Proofs.YtgcjejajljhnaaaGreatDoor
namespace Ck
open Go Go.Ex
section
variable {h : T AO} {z : List Nat} {A : Nat} {r : List Nat}
theorem zfh {a b k0:Nat} {q q':Rp} (hk:RS (RG A [(192,a),(193,b)] r) 1∧RD (RG A [(192,a),(193,b)] r) 1=k0) (hv:q'.v.c=q.v.c∧q'.v.al=q.v.al∧q.v.rs.length=q'.v.rs.length∧q'.v.ds=q.v.ds∧q'.v.mp=q.v.mp)
  (hfd:q'.fd.length=q.fd.length) (hfl:q'.fl.length=q.fl.length) (h1:q'.fd≠[]) (h2:q'.fl≠[]):WL h z (RG A [(192,a),(193,b)] r) (pRow 20 1 q') (nRow k0 a b q):=by
 unfold pRow nRow;rw[hv.1,hv.2.1,hv.2.2.2.1,hv.2.2.2.2,hv.2.2.1,zhq h1,zi5 h2,hfd,hfl];exact WL.sc rfl (WL.sc rfl (WL.cons (zfJ hk) (WL.sc rfl (WL.sc rfl (WL.cons (zlU (by omega)) (WL.cons (zmb (by omega) (by omega)) WL.nil))))))
theorem ovN {ph:Bool} {R:Nat→Option Nat} {q':Rp} {a b:Nat} {ca cb:List AV} (ha:h.get a=some (.row ca 86 3)) (hca:ca=q'.fd.flatMap aFd) (hb:h.get b=some (.row cb 3 1)) (hcb:cb=q'.fl.map ib) (h1:q'.fd≠[]) (h2:q'.fl≠[]):∀p∈[(192,a),(193,b)],∀o1,gP ph q' p.1=some o1→∃o,h.get p.2=some o∧WOG h z R o1 o:=by
 intro q hq o1 ho
 rcases List.mem_cons.1 hq with rfl|hq
 ·rw[zlX h1] at ho;cases ho;exact⟨_,ha,rfl,rfl, .same hca.symm (by rw[hca];exact zbR _)⟩
 ·rcases List.mem_cons.1 hq with rfl|hq
  ·rw[zmN h2] at ho;cases ho;exact⟨_,hb,rfl,rfl, .same hcb.symm (by rw[hcb];exact zbH _)⟩
  ·cases hq
end
theorem famN {ph:Bool} {q q':Rp} {a b:Nat} (hr:q'.v.rs=q.v.rs):∀j o1,gP ph q' j=some o1→(∀p∈[(192,a),(193,b)],j≠p.1)→zhj (gP ph q) j=some o1∧zbn o1:=fun j o1 ho hj=>by
 have e1:j≠192:=hj (192,a) (by simp);have e2:j≠193:=hj (193,b) (by simp);refine⟨?_,zab _ _ j o1 ho⟩;rw[zdP e1 e2,←ho];exact(ziE (ph:=ph) (p:=q) (q:=q') hr e1 e2).symm
structure Rk (n:Nat) (q:Rp):Prop where
 rf:Rf n q
 na:NaOk q.v
 ef:∀x∈q.v.rs,∀e∈x.es,0≤e.f.r
 ss:∀x∈q.v.rs,x.ss.length≤100000
theorem Rk.at {n:Nat} {q:Rp} (h:Rk n q) {i:Nat} (hi:i<n):((at_ Rc.o q.v.rs i).ns.length≤1000∧∀m∈(at_ Rc.o q.v.rs i).ns,NmOk m.n)∧((at_ Rc.o q.v.rs i).es.length≤1000∧∀e∈(at_ Rc.o q.v.rs i).es,NmOk e.n)∧(∀e∈(at_ Rc.o q.v.rs i).es,0≤e.f.r)∧(at_ Rc.o q.v.rs i).ss.length≤100000:=by
 have hm:=at_mem Rc.o q.v.rs i (by rw[h.rf.n];exact hi);exact⟨h.na.ns _ hm,h.na.es _ hm,h.ef _ hm,h.ss _ hm⟩
theorem Rk.setR {n:Nat} {q:Rp} (h:Rk n q) (i:Nat) (x:Rc) (hx:1≤x.q∧x.q≤65535) (h1:x.ns.length≤1000∧∀m∈x.ns,NmOk m.n) (h2:x.es.length≤1000∧∀e∈x.es,NmOk e.n) (h3:∀e∈x.es,0≤e.f.r) (h4:x.ss.length≤100000):Rk n (q.setR i x):=by
 have key:∀{P:Rc→Prop},(∀y∈q.v.rs,P y)→P x→∀y∈(q.setR i x).v.rs,P y:=fun hp hx y hy=>by
  rcases mem_set hy with hy|rfl
  ·exact hp y hy
  ·exact hx
 exact⟨h.rf.setR i x hx,⟨by show(q.v.rs.set i x).length≤96;rw[List.length_set];exact h.na.rs,key h.na.ns h1,key h.na.es h2⟩,key h.ef h3,key h.ss h4⟩
theorem Rk.of_v {n:Nat} {q q':Rp} (h:Rk n q) (hv:q'.v=q.v) (hl:q'.fl.length=q'.fd.length):Rk n q':=⟨⟨by rw[hv];exact h.rf.n,hl,by rw[hv];exact h.rf.q⟩,by rw[hv];exact h.na,by rw[hv];exact h.ef,by rw[hv];exact h.ss⟩
theorem zd9 (l:List Int) (n:Int):(setLast l n).length=l.length:=List.length_set
theorem entryStep_ok (i:Nat) (es:List En) (s:Rp×List En) (k:Nat) (hk:k<es.length) (hl:s.1.fl.length=s.1.fd.length) (hm:∀e∈s.2,e∈es):
  (entryStep i es s k).1.v=s.1.v∧(entryStep i es s k).1.fl.length=(entryStep i es s k).1.fd.length∧(entryStep i es s k).1.fd.length≤s.1.fd.length+1∧(entryStep i es s k).2.length≤s.2.length+1∧∀e∈(entryStep i es s k).2,e∈es:=by
 unfold entryStep;dsimp only;split
 ·exact⟨rfl,hl,by simp,by simp,fun e he=>by
   rcases List.mem_append.1 he with he|he
   ·exact hm e he
   ·rw[List.mem_singleton.1 he];exact at_mem _ _ _ hk⟩
 ·split
  ·exact⟨rfl,by show(setLast (s.1.fl++[-1]) _).length=(s.1.fd++[_]).length;rw[zd9];simp[hl],by show(s.1.fd++[_]).length≤_;simp,by simp,hm⟩
  ·exact⟨rfl,by show(s.1.fl++[-1]).length=(s.1.fd++[_]).length;simp[hl],by show(s.1.fd++[_]).length≤_;simp,by simp,hm⟩
theorem zge {i:Nat} {es:List En} {q:Rp} (hl:q.fl.length=q.fd.length):∀k,k≤es.length→(it (entryStep i es) (q,[]) k).1.v=q.v∧(it (entryStep i es) (q,[]) k).1.fl.length=(it (entryStep i es) (q,[]) k).1.fd.length∧(it (entryStep i es) (q,[]) k).1.fd.length≤q.fd.length+k∧(it (entryStep i es) (q,[]) k).2.length≤k∧∀e∈(it (entryStep i es) (q,[]) k).2,e∈es
 |0,_=>⟨rfl,hl,Nat.le_refl _,Nat.le_refl _,fun e he=>by cases he⟩
 |k+1,hk=>by
  obtain⟨h1,h2,h3,h4,h5⟩:=zge (i:=i) (es:=es) hl k (by omega);obtain⟨g1,g2,g3,g4,g5⟩:=entryStep_ok i es (it (entryStep i es) (q,[]) k) k (by omega) h2 h5;exact⟨g1.trans h1,g2,by show(entryStep i es _ k).1.fd.length≤_;omega,by show(entryStep i es _ k).2.length≤_;omega,g5⟩
theorem zei {n B:Nat} {p:Rp} (hB:B=1000) (h:Rk n p):∀k,k≤n→Rk n (it zac p k)∧(it zac p k).fd.length≤p.fd.length+k*B
 |0,_=>⟨h,by show p.fd.length≤_;omega⟩
 |k+1,hk=>by
  obtain⟨h1,h2⟩:=zei hB h k (by omega);have e:it zac p (k+1)=zac (it zac p k) k:=rfl;rw[e]
  generalize it zac p k=q at*
  have hm:(k+1)*B=k*B+B:=by rw[Nat.add_mul,Nat.one_mul]
  unfold zac;simp only[zae];split
  ·obtain⟨g1,g2,g3,g4,g5⟩:=zge (i:=k) (es:=(at_ Rc.o q.v.rs k).es) h1.rf.fl (at_ Rc.o q.v.rs k).es.length (Nat.le_refl _);obtain⟨a1,a2,a3,a4⟩:=h1.at (show k<n by omega);have hs:=h1.of_v g1 g2
   have hr:at_ Rc.o (it (entryStep k (at_ Rc.o q.v.rs k).es) (q,[]) (at_ Rc.o q.v.rs k).es.length).1.v.rs k=at_ Rc.o q.v.rs k:=by rw[g1]
   rw[hr];refine⟨hs.setR k _ (h1.rf.at (by omega)) a1 ⟨Nat.le_trans g4 a2.1,fun e he=>a2.2 e (g5 e he)⟩ (fun e he=>a3 e (g5 e he)) a4,Nat.le_trans g3 ?_⟩;have:=a2.1;omega
  ·exact⟨h1,by omega⟩
noncomputable def stS (b:Nat) (l:List En):AV:=match l with|[]=> .sc (.slice none 0 0)|_::l=> .so b 0 (l.length+1) 0
theorem stS_app (b:Nat) (l:List En) (x:En):stS b (l++[x])= .so b 0 (l.length+1) 0:=by
 cases l with
 |nil=>rfl
 |cons y l=>show AV.so b 0 ((l++[x]).length+1) 0=_;simp
def stR (a b c:AO) (l:List En):List AO:=match l with|[]=>[a,b,c]|y::l=>[a,b,c, .row ((y::l).flatMap aEn) 73 4]
theorem stR_app (a b c:AO) (l:List En) (x:En):stR a b c (l++[x])=[a,b,c, .row ((l++[x]).flatMap aEn) 73 4]:=by
 cases l with
 |nil=>rfl
 |cons y l=>rfl
theorem famE0 {p:Rp} {d:Nat} (hd:d<p.v.rs.length):∀j o1,gP false (p.setR d {at_ Rc.o p.v.rs d with es:=[]}) j=some o1→(∀q∈([]:List (Nat×Nat)),j≠q.1)→gP false p j=some o1∧zbn o1:=fun j o1 ho _=>by
 refine⟨?_,zab _ _ j o1 ho⟩;by_cases hj9:j=2*d+1
 ·subst hj9;have e5:(p.setR d {at_ Rc.o p.v.rs d with es:=[]}).v.rs[d]? =some {at_ Rc.o p.v.rs d with es:=[]}:=List.getElem?_set_self hd;by_cases h2:2*d+1<192
  ·rw[zcJ h2,show(2*d+1)/2=d by omega,e5] at ho;simp at ho
  ·by_cases h3:2*d+1=193
   ·unfold gP at ho⊢;rw[if_neg (by omega),if_pos h3] at ho⊢;exact ho
   ·unfold gP at ho;rw[if_neg (by omega),if_neg h3,show(2*d+1)/2=d by omega,e5] at ho;simp at ho
 ·rw[←zfp (x:={at_ Rc.o p.v.rs d with es:=[]}) hd rfl hj9];exact ho
theorem rcE_nil {h:T AO} {z:List Nat} {R:Nat→Option Nat} {A i:Nat} {x:Rc} (hs:WL h z R [seS false 20 i x] [seS false A i x]):WL h z R (rcP false 20 i {x with es:=[]}) (rcE A i x (.sc (.slice none 0 0))):=by
 unfold rcP rcE;rw[zdh rfl];have e1:seS false 20 i {x with es:=[]}=seS false 20 i x:=rfl;rw[e1]
 repeat refine WL.sc rfl ?_
 refine WL.cons ⟨hs.1.1,?_⟩ (WL.cons ⟨trivial,Wv.nil rfl⟩ WL.nil);have:=hs.2;unfold Wvl at this;exact this.1
end Ck
namespace Ck
open Go Go.Ex
theorem zdt {p:Rp} {r:Nat} {b:List Nm} {n:Nm} (h:(isName p r b n).1=true):right p.v n.d=true:=by
 unfold isName at h;split at h
 ·rename_i h1;simp only[Bool.and_eq_true] at h1;exact h1.1
 ·cases h
theorem zcY {p:Rp} {r:Nat} {b:List Nm} {n:Nm} (h:(isName p r b n).1=true) (h2:(isName p r b n).2=false):(p.rc n.d.r).es.length<most n.d.r:=by
 unfold isName at h h2;split at h
 ·rename_i h1;rw[if_pos h1] at h2;split at h
  ·cases h
  ·rename_i h3;rw[if_neg h3] at h2;split at h
   ·cases h
   ·rename_i h4;rw[if_neg h4] at h2
    cases hix:ixE n.n (p.rc n.d.r).es with
    |none=>rw[hix] at h;exact of_decide_eq_true h
    |some k=>rw[hix] at h2;cases h2
 ·cases h
theorem zmy (d:Int):most d≤700:=by unfold most;split<;>omega
theorem zey {v:Pt} {r:Ref} (h:right v r=true):0≤r.r∧r.r<v.rs.length:=by
 unfold right wi at h;simp only[Bool.and_eq_true,decide_eq_true_eq] at h;omega
theorem Rk.enter {n:Nat} {q:Rp} (h:Rk n q) {d:Int} {nm:List UInt8} {r:Nat} (hd:0≤d∧d<n) (hm:NmOk nm) (hl:(q.rc d).es.length<1000):Rk n (enter q d nm r):=by
 have hdl:d.toNat<n:=by omega
 obtain⟨a1,a2,a3,a4⟩:=h.at hdl;have e:q.rc d=at_ Rc.o q.v.rs d.toNat:=rfl;unfold Ck.enter;rw[e] at hl⊢;refine h.setR _ _ (h.rf.at hdl) a1 ⟨by simp;omega,fun x hx=> ?_⟩ (fun x hx=> ?_) a4
 ·rcases List.mem_append.1 hx with hx|hx
  ·exact a2.2 x hx
  ·rw[List.mem_singleton.1 hx];exact hm
 ·rcases List.mem_append.1 hx with hx|hx
  ·exact a3 x hx
  ·rw[List.mem_singleton.1 hx];show(0:Int)≤(r:Nat);omega
theorem Rk.drop {n:Nat} {q:Rp} (h:Rk n q) {r:Nat} {m:Nm}:Rk n (drop q r m):=by
 unfold Ck.drop;split
 ·rename_i h1;simp only[Bool.and_eq_true] at h1;have hr:=zey h1.1
  have hdl:m.d.r.toNat<n:=by rw[←h.rf.n];omega
  obtain⟨a1,a2,a3,a4⟩:=h.at hdl;have e:q.rc m.d.r=at_ Rc.o q.v.rs m.d.r.toNat:=rfl;rw[e];refine h.setR _ _ (h.rf.at hdl) a1 ⟨Nat.le_trans (List.length_filter_le _ _) a2.1,fun x hx=>a2.2 x (List.mem_filter.1 hx).1⟩ (fun x hx=>a3 x (List.mem_filter.1 hx).1) a4
 ·exact h
theorem zft (q:Rp) (r:Nat) (m:Nm):(drop q r m).fd=q.fd:=by unfold drop;split<;>rfl
theorem Rk.note {n:Nat} {q:Rp} (h:Rk n q) (k r i:Int):Rk n (q.note k r i):=h.of_v rfl (by unfold Rp.note;simp[h.rf.fl])
theorem nameStep_ok {n:Nat} (i:Nat) (all:List Nm) (hall:∀m∈all,NmOk m.n) (s:Rp×List Nm) (k:Nat) (hk:k<all.length) (h:Rk n s.1) (hm:∀e∈s.2,e∈all):
  Rk n (nameStep i all s k).1∧(nameStep i all s k).1.fd.length≤s.1.fd.length+1∧(nameStep i all s k).2.length≤s.2.length+1∧∀e∈(nameStep i all s k).2,e∈all:=by
 have hin:=at_mem Nm.o all k hk;unfold nameStep;dsimp only;split
 ·rename_i h1
  have happ:∀e∈s.2++[at_ Nm.o all k],e∈all:=fun e he=>by
   rcases List.mem_append.1 he with he|he
   ·exact hm e he
   ·rw[List.mem_singleton.1 he];exact hin
  split
  ·exact⟨h,by simp,by simp,happ⟩
  ·rename_i h2;have hr:=zey (zdt h1);have hroom:=zcY h1 (by simpa using h2);have:=zmy (at_ Nm.o all k).d.r;refine⟨(h.note 5 i s.2.length).enter ⟨hr.1,by rw[←h.rf.n];exact hr.2⟩ (hall _ hin) ?_,?_,by simp,happ⟩
   ·show(s.1.rc _).es.length<1000;omega
   ·show(s.1.note 5 i s.2.length).fd.length≤_;rw[zbF];exact Nat.le_refl _
 ·split
  ·exact⟨(h.note 4 i s.2.length).drop,by rw[zft,zbF];exact Nat.le_refl _,by simp,hm⟩
  ·exact⟨h.note 4 i s.2.length,by rw[zbF];exact Nat.le_refl _,by simp,hm⟩
theorem zkh {n i:Nat} {all:List Nm} {q:Rp} (h:Rk n q) (hall:∀m∈all,NmOk m.n):∀k,k≤all.length→Rk n (it (nameStep i all) (q,[]) k).1∧(it (nameStep i all) (q,[]) k).1.fd.length≤q.fd.length+k∧(it (nameStep i all) (q,[]) k).2.length≤k∧∀e∈(it (nameStep i all) (q,[]) k).2,e∈all
 |0,_=>⟨h,Nat.le_refl _,Nat.le_refl _,fun e he=>by cases he⟩
 |k+1,hk=>by
  obtain⟨h1,h3,h4,h5⟩:=zkh (i:=i) (all:=all) h hall k (by omega);obtain⟨g1,g3,g4,g5⟩:=nameStep_ok i all hall (it (nameStep i all) (q,[]) k) k (by omega) h1 h5;exact⟨g1,by show(nameStep i all _ k).1.fd.length≤_;omega,by show(nameStep i all _ k).2.length≤_;omega,g5⟩
theorem badNames1_ok {n i:Nat} {q:Rp} (h:Rk n q) (hi:i<n):Rk n (badNames1 q i)∧(badNames1 q i).fd.length≤q.fd.length+1000:=by
 obtain⟨a1,a2,a3,a4⟩:=h.at hi;obtain⟨g1,g3,g4,g5⟩:=zkh (i:=i) (all:=(at_ Rc.o q.v.rs i).ns) h a1.2 (at_ Rc.o q.v.rs i).ns.length (Nat.le_refl _);unfold badNames1;dsimp only;rw[zae,zae];obtain⟨b1,b2,b3,b4⟩:=g1.at hi;exact⟨g1.setR i _ (g1.rf.at hi) ⟨Nat.le_trans g4 a1.1,fun m hm=>a1.2 m (g5 m hm)⟩ b2 b3 b4,Nat.le_trans g3 (by have:=a1.1;omega)⟩
theorem zjl {n B:Nat} {p:Rp} (hB:B=1000) (h:Rk n p):∀j,j≤n-16→(fun j q=>Rk n q∧q.fd.length≤p.fd.length+j*B) j (it (fun q j=>if own (q.rc (16+j:Nat)) then badNames1 q (16+j) else q) p j):=
 zaJ (I:=fun j q=>Rk n q∧q.fd.length≤p.fd.length+j*B) (n:=n-16) (fun s k hk ⟨h1,h2⟩=>by
  have hm:(k+1)*B=k*B+B:=by rw[Nat.add_mul,Nat.one_mul]
  split
  ·obtain⟨g1,g2⟩:=badNames1_ok h1 (show 16+k<n by omega);exact⟨g1,by omega⟩
  ·exact⟨h1,by omega⟩) ⟨h,by omega⟩
noncomputable def stN (b:Nat) (l:List Nm):AV:=match l with|[]=> .sc (.slice none 0 0)|_::l=> .so b 0 (l.length+1) 0
theorem zl9 (b:Nat) (l:List Nm) (x:Nm):stN b (l++[x])= .so b 0 (l.length+1) 0:=by
 cases l with
 |nil=>rfl
 |cons y l=>show AV.so b 0 ((l++[x]).length+1) 0=_;simp
def stQ (a b c:AO) (l:List Nm):List AO:=match l with|[]=>[a,b,c]|y::l=>[a,b,c, .row ((y::l).flatMap aNm) 71 3]
theorem zl8 (a b c:AO) (l:List Nm) (x:Nm):stQ a b c (l++[x])=[a,b,c, .row ((l++[x]).flatMap aNm) 71 3]:=by
 cases l with
 |nil=>rfl
 |cons y l=>rfl
theorem znQ (l:List Nm):(l.flatMap aNm).length=0+l.length*3:=by rw[zbj (sz:=3) (fun _=>rfl),Nat.zero_add]
theorem zeI (l:List Nm):cont.contL (l.flatMap aNm)=true:=zas (fun _=>rfl) l
theorem zir {h:T AO} {z:List Nat} {l:List Nm} {b n:Nat} {e:TypeId} {q:Nat} (hr:h.get b=some (.row (l.flatMap aNm) e q)) (hz:b∈z) (hn:n=l.length):Wz h z (LS 3 aNm Nm.o l) (.so b 0 n 0):=Wz.list (fun _=>rfl) (fun _=>rfl) hr hz hn rfl rfl
theorem ziN {h:T AO} {z:List Nat} {α:Type} {enc:α→List AV} {o:α} {l:List α} {sz k n:Nat} (hn:n=l.length-k):Wz h z (LS sz enc o (l.drop k)) (.lst sz n fun j=>enc (at_ o l (k+j))):=by
 unfold Wz;refine⟨rfl,by simp[hn],fun j hj=> ?_⟩;show enc (at_ o (l.drop k) j)=enc (at_ o l (k+j));unfold at_;rw[List.getElem?_drop]
noncomputable def rcN (A i:Nat) (x:Rc) (v:AV):List AV:=[bb x.u,ib x.q,ib x.k,ib x.b.r,ib x.b.q,ib x.ln,ib x.ds,v,seS false A i x,seE A i x]
theorem znp {h:T AO} {z:List Nat} {A i:Nat} {ov:List (Nat×Nat)} {r:List Nat} {x:Rc} {ns:List Nm} {v:AV} (hi:i<96) (hp:∀p∈ov,2*i≠p.1∧2*i+1≠p.1) (hv:Wv h z (RD (RG A ov r)) (LS 3 aNm Nm.o ns) v):WL h z (RG A ov r) (rcP false 20 i {x with ns:=ns}) (rcN A i x v):=by
 unfold rcP rcN
 have e1:∀A,seS false A i {x with ns:=ns}=seS false A i x:=fun _=>rfl
 have e2:∀A,seE A i {x with ns:=ns}=seE A i x:=fun _=>rfl
 rw[e1,e2];refine WL.sc rfl (WL.sc rfl (WL.sc rfl (WL.sc rfl (WL.sc rfl (WL.sc rfl (WL.sc rfl (WL.cons ⟨trivial,hv⟩ ?_)))))));exact WL.cons (zlV hi fun p hq=>(hp p hq).1) (WL.cons (zoD hi fun p hq=>(hp p hq).2) WL.nil)
end Ck
namespace Ck
def dig (c:UInt8):Prop:=48≤c.toNat∧c.toNat≤57
theorem zb0 (n:Nat):dig (digit n)∧(digit n).toNat=48+n%10:=by
 have h:n%10<10:=Nat.mod_lt _ (by omega)
 have e:(digit n).toNat=48+n%10:=by
  unfold digit;rw[UInt8.toNat_ofNat'];omega
 unfold dig;omega
theorem dec_lt {n:Nat} (h:n<10):dec n=[digit n]:=by
 unfold dec;rw[if_pos h]
theorem zjM {n:Nat} (h:¬n<10):dec n=dec (n/10)++[digit n]:=by
 conv=>lhs;unfold dec
 rw[if_neg h]
theorem ziP :∀(m n:Nat),n≤m→∀c∈dec n,dig c
 |0,n,h,c,hc=>by
  rw[dec_lt (by omega)] at hc;rw[List.mem_singleton.1 hc];exact(zb0 n).1
 |m+1,n,h,c,hc=>by
  by_cases h1:n<10
  ·rw[dec_lt h1] at hc;rw[List.mem_singleton.1 hc];exact(zb0 n).1
  ·rw[zjM h1] at hc
   rcases List.mem_append.1 hc with hc|hc
   ·exact ziP m (n/10) (by omega) c hc
   ·rw[List.mem_singleton.1 hc];exact(zb0 n).1
def dval (l:List UInt8):Nat:=l.foldl (fun a c=>a*10+(c.toNat-48)) 0
theorem dval_app (l:List UInt8) (c:UInt8):dval (l++[c])=dval l*10+(c.toNat-48):=by unfold dval;rw[List.foldl_append];rfl
theorem ziL :∀(m n:Nat),n≤m→dval (dec n)=n
 |0,n,h=>by
  rw[dec_lt (by omega)];have:=(zb0 n).2;show 0*10+((digit n).toNat-48)=n;omega
 |m+1,n,h=>by
  by_cases h1:n<10
  ·rw[dec_lt h1];have:=(zb0 n).2;show 0*10+((digit n).toNat-48)=n;omega
  ·rw[zjM h1,dval_app,ziL m (n/10) (by omega)];have:=(zb0 n).2;omega
theorem dec_inj {a b:Nat} (h:dec a=dec b):a=b:=by rw[←ziL a a (Nat.le_refl _),h,ziL b b (Nat.le_refl _)]
theorem zg3 :∀(d n:Nat),n<10^(d+1)→1≤(dec n).length∧(dec n).length≤d+1
 |0,n,h=>by rw[dec_lt (by omega)];simp
 |d+1,n,h=>by
  by_cases h1:n<10
  ·rw[dec_lt h1];simp
  ·rw[zjM h1,List.length_append]
   have h2:n/10<10^(d+1):=by
    rw[Nat.div_lt_iff_lt_mul (by omega)];have:10^(d+1+1)=10^(d+1)*10:=Nat.pow_succ ..;omega
   have:=zg3 d (n/10) h2;show 1≤(dec (n/10)).length+1∧(dec (n/10)).length+1≤d+1+1;omega
theorem upB_dig {c:UInt8} (h:dig c∨c=46):upB c=c:=by
 unfold upB
 rcases h with h|h
 ·rw[if_neg (by unfold dig at h;omega)]
 ·rw[h];decide
theorem map_up {l:List UInt8} (h:∀c∈l,dig c∨c=46):l.map upB=l:=by
 induction l with
 |nil=>rfl
 |cons a l ih=>rw[List.map_cons,upB_dig (h a (by simp)),ih (fun c hc=>h c (by simp[hc]))]
theorem dig_legal {c:UInt8} (h:dig c):zaI c=true:=by
 have key:∀x:Fin 256,48≤x.1→x.1≤57→zaI (UInt8.ofNat x.1)=true:=by decide+kernel
 have:=key ⟨c.toNat,c.toNat_lt⟩ h.1 h.2
 rwa [UInt8.ofNat_toNat] at this
def zcO (r:Nat):Nat→List UInt8
 |0=>dec r
 |k+1=>dec r++[46]++dec (k+1)
theorem zbT (r k:Nat):zaf r k=found++zcO r k:=by
 cases k with
 |zero=>rfl
 |succ k=>show found++dec r++[46]++dec (k+1)=found++(dec r++[46]++dec (k+1));simp
theorem zjS (r k:Nat):∀c∈zcO r k,dig c∨c=46:=by
 intro c hc
 cases k with
 |zero=>exact .inl (ziP r r (Nat.le_refl _) c hc)
 |succ k=>
  rcases List.mem_append.1 hc with hc|hc
  ·rcases List.mem_append.1 hc with hc|hc
   ·exact .inl (ziP r r (Nat.le_refl _) c hc)
   ·exact .inr (List.mem_singleton.1 hc)
  ·exact .inl (ziP (k+1) (k+1) (Nat.le_refl _) c hc)
theorem bringT_inj {r a b:Nat} (h:zcO r a=zcO r b):a=b:=by
 cases a with
 |zero=>
  cases b with
  |zero=>rfl
  |succ b=>have:=congrArg List.length h;simp[zcO] at this
 |succ a=>
  cases b with
  |zero=>have:=congrArg List.length h;simp[zcO] at this
  |succ b=>
   have h2:dec (a+1)=dec (b+1):=List.append_cancel_left h;exact dec_inj h2
theorem zlH (n:Nat):∃l c,dec n=l++[c]∧dig c:=by
 by_cases h:n<10
 ·exact⟨[],_,dec_lt h,(zb0 n).1⟩
 ·exact⟨_,_,zjM h,(zb0 n).1⟩
theorem bringT_last (r k:Nat):∃l c,zcO r k=l++[c]∧dig c:=by
 cases k with
 |zero=>exact zlH r
 |succ k=>
  obtain⟨l,c,h1,h2⟩:=zlH (k+1);exact⟨dec r++[46]++l,c,by show dec r++[46]++dec (k+1)=_;rw[h1];simp,h2⟩
theorem zfB {r k:Nat} (hr:r<100) (hk:k<10000):1≤(zcO r k).length∧(zcO r k).length≤7:=by
 have h1:=zg3 1 r hr
 cases k with
 |zero=>show 1≤(dec r).length∧(dec r).length≤7;omega
 |succ k=>
  have h2:=zg3 3 (k+1) hk;show 1≤(dec r++[46]++dec (k+1)).length∧(dec r++[46]++dec (k+1)).length≤7;simp only[List.length_append,List.length_singleton];omega
theorem zlM {r k:Nat} (hr:r<100) (hk:k<10000):zaw (zaf r k)=0:=by
 obtain⟨h1,h2⟩:=zfB hr hk;obtain⟨l,c,h3,h4⟩:=bringT_last r k
 have hl:(zaf r k).length=6+(zcO r k).length:=by rw[zbT,List.length_append];rfl
 have hlast:(zaf r k).getLast? =some c:=by rw[zbT,h3,←List.append_assoc];simp
 have hleg:legal (zaf r k)=true:=by
  unfold legal;rw[hlast]
  have hne:zaf r k≠[]:=fun e=>by rw[e] at hl;simp at hl;omega
  have hn2:zaf r k≠[46,46]:=fun e=>by rw[e] at hl;simp at hl;omega
  have hall:(zaf r k).all zaI=true:=by
   rw[zbT,List.all_append,Bool.and_eq_true];refine⟨by decide,List.all_eq_true.2 fun x hx=> ?_⟩
   rcases zjS r k x hx with hx|hx
   ·exact dig_legal hx
   ·rw[hx];decide
  have hc1:c≠32:=fun e=>by rw[e] at h4;exact absurd h4.1 (by decide)
  have hc2:c≠46:=fun e=>by rw[e] at h4;exact absurd h4.1 (by decide)
  simp[hne,hn2,hall,hc1,hc2];omega
 unfold zaw;rw[if_neg (by omega),if_pos hleg]
theorem zhS {r k:Nat} (hr:r<100) (hk:k<10000):fold (zaf r k)=found.map upB++zcO r k:=by
 unfold fold;rw[if_pos (zlM hr hk),zbT,List.map_append,map_up (zjS r k)]
theorem bring_same {x:List UInt8} {r a b:Nat} (hr:r<100) (ha:a<10000) (hb:b<10000) (h1:same x (zaf r a)=true) (h2:same x (zaf r b)=true):a=b:=by
 unfold same at h1 h2;rw[beq_iff_eq] at h1 h2;rw[h1,zhS hr ha,zhS hr hb] at h2;exact bringT_inj (List.append_cancel_left h2)
theorem pigeon {α:Type} {P:Nat→α→Bool}:∀(l:List α) (J:List Nat),J.Nodup→(∀i∈J,l.any (P i)=true)→(∀x i j,i∈J→j∈J→P i x=true→P j x=true→i=j)→J.length≤l.length
 |[],J,_,h,_=>by
  cases J with
  |nil=>exact Nat.le_refl _
  |cons i J=>have:=h i (by simp);simp at this
 |x::l,J,hn,h,hd=>by
  by_cases hx:∃i∈J,P i x=true
  ·obtain⟨i,hi,hp⟩:=hx;have h1:=pigeon (P:=P) l (J.erase i) (hn.erase i) (fun j hj=> ?_) (fun y a b ha hb=>hd y a b (List.mem_of_mem_erase ha) (List.mem_of_mem_erase hb))
   ·rw[List.length_erase_of_mem hi] at h1;have:0<J.length:=List.length_pos_of_mem hi;simp only[List.length_cons];omega
   ·have hjJ:=List.mem_of_mem_erase hj
    have hji:j≠i:=fun e=>by subst e;exact(List.Nodup.not_mem_erase hn) hj
    have:=h j hjJ;rw[List.any_cons,Bool.or_eq_true] at this
    rcases this with h2|h2
    ·exact absurd (hd x j i hjJ hi h2 hp) hji
    ·exact h2
  ·have h1:=pigeon (P:=P) l J hn (fun j hj=> ?_) hd
   ·simp only[List.length_cons];omega
   ·have:=h j hj;rw[List.any_cons,Bool.or_eq_true] at this
    rcases this with h2|h2
    ·exact absurd ⟨j,hj,h2⟩ hx
    ·exact h2
def zde (es:List En) (r i:Nat):Bool:=es.any fun x=>same x.n (zaf r i)
theorem zkG {es:List En} {r j:Nat} (hr:r<100) (hj:j≤9000) (h:∀i,i<j→zde es r i=true):j≤es.length:=by
 have:=pigeon (P:=fun i (x:En)=>same x.n (zaf r i)) es (List.range j) List.nodup_range (fun i hi=>h i (List.mem_range.1 hi)) (fun x a b ha hb h1 h2=>bring_same hr (by have:=List.mem_range.1 ha;omega) (by have:=List.mem_range.1 hb;omega) h1 h2);simpa using this
theorem zeZ {es:List En} {r:Nat}:∀(m k j:Nat),k≤j→j<k+m→(∀i,k≤i→i<j→zde es r i=true)→zde es r j=false→zbz es r k m=j
 |0,k,j,h1,h2,_,_=>by omega
 |m+1,k,j,h1,h2,h3,h4=>by
  unfold zbz;by_cases hk:k=j
  ·subst hk;have hf:(es.any fun x=>same x.n (zaf r k))=false:=h4;rw[hf];rfl
  ·have ht:(es.any fun x=>same x.n (zaf r k))=true:=h3 k (Nat.le_refl _) (by omega);rw[ht,if_pos rfl,zeZ m (k+1) j (by omega) (by omega) (fun i hi hj=>h3 i (by omega) hj) h4]
def EsL (L:Nat) (q:Rp):Prop:=∀x∈q.v.rs,x.es.length≤L
theorem EsL.at {L:Nat} {q:Rp} (h:EsL L q) (i:Nat):(at_ Rc.o q.v.rs i).es.length≤L:=ze4 (P:=fun x:Rc=>x.es.length≤L) (Nat.zero_le _) h i
theorem EsL.setR {L:Nat} {q:Rp} (h:EsL L q) (i:Nat) (x:Rc) (hx:x.es.length≤L):EsL L (q.setR i x):=fun y hy=>by
 rcases mem_set hy with hy|rfl
 ·exact h y hy
 ·exact hx
theorem EsL.mono {L M:Nat} {q:Rp} (h:EsL L q) (hm:L≤M):EsL M q:=fun x hx=>Nat.le_trans (h x hx) hm
theorem EsL.of_v {L:Nat} {q q':Rp} (h:EsL L q) (hv:q'.v=q.v):EsL L q':=fun x hx=>h x (by rw[←hv];exact hx)
theorem EsL.enter {L:Nat} {q:Rp} (h:EsL L q) {d:Int} {nm:List UInt8} {r:Nat} (hl:(q.rc d).es.length<L):EsL L (enter q d nm r):=by
 unfold Ck.enter;exact h.setR _ _ (by simp;omega)
theorem EsL.enter1 {L:Nat} {q:Rp} (h:EsL L q) {d:Int} {nm:List UInt8} {r:Nat}:EsL (L+1) (Ck.enter q d nm r):=by
 have h1:(q.rc d).es.length≤L:=h.at d.toNat;exact(h.mono (Nat.le_succ L)).enter (by omega)
theorem EsL.drop {L:Nat} {q:Rp} (h:EsL L q) {r:Nat} {m:Nm}:EsL L (drop q r m):=by
 unfold Ck.drop;split
 ·exact h.setR _ _ (Nat.le_trans (List.length_filter_le _ _) (h.at m.d.r.toNat))
 ·exact h
theorem EsL.nameStep {i:Nat} {all:List Nm} {s:Rp×List Nm} {k:Nat} (h:EsL 700 s.1):EsL 700 (nameStep i all s k).1:=by
 unfold Ck.nameStep;dsimp only;split
 ·rename_i h1;split
  ·exact h
  ·rename_i h2;have hroom:=zcY h1 (by simpa using h2);have:=zmy (at_ Nm.o all k).d.r;exact(h.of_v (q':=s.1.note 5 i s.2.length) rfl).enter (by show(s.1.rc _).es.length<700;omega)
 ·split
  ·exact(h.of_v (q':=s.1.note 4 i s.2.length) rfl).drop
  ·exact h.of_v rfl
theorem EsL.badNames1 {i:Nat} {q:Rp} (h:EsL 700 q):EsL 700 (badNames1 q i):=by
 have key:∀k,EsL 700 (it (Ck.nameStep i (q.rc i).ns) (q,[]) k).1:=fun k=>by
  induction k with
  |zero=>exact h
  |succ k ih=>exact EsL.nameStep ih
 unfold Ck.badNames1;dsimp only;exact(key _).setR _ _ ((key _).at i)
theorem EsL.badNames {q:Rp} (h:EsL 700 q):EsL 700 (badNames q):=zaQ (I:=EsL 700) (fun s k hs=>by
 split
 ·exact hs.badNames1
 ·exact hs) h _
theorem zjT {es:List En} {r:Nat}:∀(m k:Nat),zbz es r k m≤k+m
 |0,k=>by show k≤k+0;omega
 |m+1,k=>by
  unfold zbz;split
  ·have:=zjT (es:=es) (r:=r) m (k+1);omega
  ·omega
theorem bringName_ok {r k:Nat} (hr:r<100) (hk:k<10000):NmOk (zaf r k):=by
 have h1:=zfB hr hk;unfold NmOk;rw[zbT,List.length_append];show 6+(zcO r k).length≤100000;omega
theorem Rk.bring {n:Nat} {q:Rp} (h:Rk n q) (hn:n≤96) {r:Nat} (hr:16≤r∧r<n) (hl:(at_ Rc.o q.v.rs 5).es.length<1000):Rk n (bring q r):=by
 unfold Ck.bring;dsimp only;have e5:q.rc 5=at_ Rc.o q.v.rs 5:=rfl;have hk:=zjT (es:=(q.rc 5).es) (r:=r) ((q.rc 5).es.length+1) 0;rw[e5] at hk;rw[e5,zae];obtain⟨a1,a2,a3,a4⟩:=h.at hr.2;have hnm:=bringName_ok (r:=r) (k:=zbz (at_ Rc.o q.v.rs 5).es r 0 ((at_ Rc.o q.v.rs 5).es.length+1)) (by omega) (by omega);have h1:=h.setR r {at_ Rc.o q.v.rs r with ns:=[⟨q.ref 5,zaf r (zbz (at_ Rc.o q.v.rs 5).es r 0 ((at_ Rc.o q.v.rs 5).es.length+1))⟩]} (h.rf.at hr.2) ⟨by show 1≤1000;omega,fun m hm=>by rw[List.mem_singleton.1 hm];exact hnm⟩ a2 a3 a4;refine h1.enter ⟨by omega,by omega⟩ hnm ?_;show(at_ Rc.o (q.v.rs.set r _) 5).es.length<1000;rw[zau _ _ _ _ _ (by omega)];exact hl
theorem EsL.bring {L:Nat} {q:Rp} (h:EsL L q) {r:Nat}:EsL (L+1) (bring q r):=by
 unfold Ck.bring;dsimp only;exact(h.setR r _ (by show(q.rc r).es.length≤L;rw[zae];exact h.at r)).enter1
theorem zdU (q:Rp) (r:Nat):(bring q r).fd=q.fd:=rfl
theorem orphan1_ok {n L:Nat} {q:Rp} (h:Rk n q) (hn:n≤96) {i:Nat} (hi:16≤i∧i<n) (hL:EsL L q) (hl:L<1000):Rk n (zaz q i)∧(zaz q i).fd.length≤q.fd.length+1∧EsL (L+1) (zaz q i):=by
 unfold zaz;split
 ·refine⟨(h.note 6 i 0).bring hn hi ?_,?_,(hL.of_v (q':=q.note 6 i 0) rfl).bring⟩
  ·show(at_ Rc.o q.v.rs 5).es.length<1000;have:=hL.at 5;omega
  ·rw[zdU,zbF];exact Nat.le_refl _
 ·exact⟨h,by omega,hL.mono (Nat.le_succ L)⟩
theorem zgF {n L:Nat} {p:Rp} (h:Rk n p) (hn:n≤96) (hL:EsL L p) (hl:L+n<1000):∀j,j≤n-16→(fun j q=>Rk n q∧q.fd.length≤p.fd.length+j∧EsL (L+j) q) j (it (fun q j=>if own (q.rc (16+j:Nat)) then zaz q (16+j) else q) p j):=
 zaJ (I:=fun j q=>Rk n q∧q.fd.length≤p.fd.length+j∧EsL (L+j) q) (n:=n-16) (fun s k hk ⟨h1,h2,h3⟩=>by
  split
  ·obtain⟨g1,g2,g3⟩:=orphan1_ok h1 hn (i:=16+k) (by omega) h3 (by omega);exact⟨g1,by omega,g3⟩
  ·exact⟨h1,by omega,h3.mono (by omega)⟩) ⟨h,by omega,hL⟩
noncomputable def cycleR (p:Rp) (j:Nat):Rp:=
 if dir (p.rc (16+j:Nat))&& !rchB p.v (16+j) then
  bring (it (fun q k=>drop q (16+j) (at_ Nm.o (p.rc (16+j:Nat)).ns k)) (p.note 7 (16+j:Nat) 0) (p.rc (16+j:Nat)).ns.length) (16+j)
 else p
noncomputable def cyclesR (p:Rp):Rp:=it cycleR p (p.v.rs.length-16)
def Kd (p q:Rp):Prop:=∀i,(at_ Rc.o q.v.rs i).u=(at_ Rc.o p.v.rs i).u∧(at_ Rc.o q.v.rs i).k=(at_ Rc.o p.v.rs i).k∧(at_ Rc.o q.v.rs i).q=(at_ Rc.o p.v.rs i).q
theorem Kd.refl (p:Rp):Kd p p:=fun _=>⟨rfl,rfl,rfl⟩
theorem Kd.trans {p q r:Rp} (h:Kd p q) (g:Kd q r):Kd p r:=fun i=>⟨(g i).1.trans (h i).1,(g i).2.1.trans (h i).2.1,(g i).2.2.trans (h i).2.2⟩
theorem Kd.of_v {p q r:Rp} (h:Kd p q) (hv:r.v=q.v):Kd p r:=fun i=>by rw[hv];exact h i
theorem Kd.setR {p q:Rp} (h:Kd p q) (i:Nat) (x:Rc) (hx:x.u=(at_ Rc.o q.v.rs i).u∧x.k=(at_ Rc.o q.v.rs i).k∧x.q=(at_ Rc.o q.v.rs i).q):Kd p (q.setR i x):=fun j=>by
 show(at_ Rc.o (q.v.rs.set i x) j).u=_∧(at_ Rc.o (q.v.rs.set i x) j).k=_∧(at_ Rc.o (q.v.rs.set i x) j).q=_;rw[zbc];split
 ·rename_i hij;obtain⟨rfl,_⟩:=hij;exact⟨hx.1.trans (h i).1,hx.2.1.trans (h i).2.1,hx.2.2.trans (h i).2.2⟩
 ·exact h j
theorem Kd.drop {p q:Rp} (h:Kd p q) (r:Nat) (m:Nm):Kd p (drop q r m):=by
 unfold Ck.drop;split
 ·exact h.setR _ _ ⟨rfl,rfl,rfl⟩
 ·exact h
theorem Kd.enter {p q:Rp} (h:Kd p q) (d:Int) (nm:List UInt8) (r:Nat):Kd p (enter q d nm r):=h.setR _ _ ⟨rfl,rfl,rfl⟩
theorem Kd.bring {p q:Rp} (h:Kd p q) (r:Nat):Kd p (bring q r):=by
 unfold Ck.bring;dsimp only;exact(h.setR r _ (by rw[zae];exact⟨rfl,rfl,rfl⟩)).enter _ _ _
theorem Kd.dir {p q:Rp} (h:Kd p q) (i:Nat):dir (at_ Rc.o q.v.rs i)=dir (at_ Rc.o p.v.rs i):=by unfold Ck.dir;rw[(h i).1,(h i).2.1]
theorem ziM {n L:Nat} {q:Rp} (h:Rk n q) (hL:EsL L q) (r:Nat) (l:List Nm):∀k,Rk n (it (fun q k=>drop q r (at_ Nm.o l k)) q k)∧(it (fun q k=>drop q r (at_ Nm.o l k)) q k).fd=q.fd∧EsL L (it (fun q k=>drop q r (at_ Nm.o l k)) q k)∧Kd q (it (fun q k=>drop q r (at_ Nm.o l k)) q k)
 |0=>⟨h,rfl,hL,Kd.refl _⟩
 |k+1=>by
  obtain⟨h1,h2,h3,h4⟩:=ziM h hL r l k;exact⟨h1.drop,(zft _ _ _).trans h2,h3.drop,h4.drop _ _⟩
theorem cycleR_ok {n L:Nat} {q:Rp} (h:Rk n q) (hn:n≤96) {j:Nat} (hj:16+j<n) (hL:EsL L q) (hl:L<1000):Rk n (cycleR q j)∧(cycleR q j).fd.length≤q.fd.length+1∧EsL (L+1) (cycleR q j)∧Kd q (cycleR q j):=by
 unfold cycleR;split
 ·obtain⟨h1,h2,h3,h4⟩:=ziM (h.note 7 (16+j:Nat) 0) (hL.of_v (q':=q.note 7 (16+j:Nat) 0) rfl) (16+j) (q.rc (16+j:Nat)).ns (q.rc (16+j:Nat)).ns.length;refine⟨h1.bring hn ⟨by omega,hj⟩ (by have:=h3.at 5;omega),?_,h3.bring,((Kd.refl q).of_v (r:=q.note 7 (16+j:Nat) 0) rfl).trans (h4.bring _)⟩;rw[zdU,h2,zbF];exact Nat.le_refl _
 ·exact⟨h,by omega,hL.mono (Nat.le_succ L),Kd.refl _⟩
theorem zfv {n L:Nat} {p:Rp} (h:Rk n p) (hn:n≤96) (hL:EsL L p) (hl:L+n<1000):∀j,j≤n-16→Rk n (it cycleR p j)∧(it cycleR p j).fd.length≤p.fd.length+j∧EsL (L+j) (it cycleR p j)∧Kd p (it cycleR p j)
 |0,_=>⟨h,by show p.fd.length≤_;omega,hL,Kd.refl _⟩
 |j+1,hj=>by
  obtain⟨h1,h2,h3,h4⟩:=zfv h hn hL hl j (by omega);obtain⟨g1,g2,g3,g4⟩:=cycleR_ok h1 hn (j:=j) (by omega) h3 (by omega);exact⟨g1,by show(cycleR _ j).fd.length≤_;omega,g3,h4.trans g4⟩
theorem zaX :∀{l:List Int},first l=0→∀e∈l,e=0
 |[],_,e,he=>by cases he
 |a::l,h,e,he=>by
  unfold first at h
  by_cases h0:a=0
  ·rw[if_pos h0] at h
   rcases List.mem_cons.1 he with rfl|h1
   ·exact h0
   ·exact zaX h e h1
  ·rw[if_neg h0] at h;exact absurd h h0
structure Valid (v:Pt):Prop where
 c:64≤v.c∧v.c≤512
 lens:v.al.length≤24∧v.rs.length≤96∧v.ds.length≤64
 al:∀r∈v.al,0≤r.s∧r.s≤v.c-1∧1≤r.l∧r.s+r.l≤v.c
 root:5<v.rs.length∧(at_ Rc.o v.rs 5).u=true∧(at_ Rc.o v.rs 5).k=0
 rcs:∀i,i<v.rs.length→zbg i (at_ Rc.o v.rs i)=0
theorem Valid.of {v:Pt} (h:partsErr v=0):Valid v:=by
 have h1:=zaX h;have hw:za1 v=0:=h1 _ (by simp[partsErr]);have hr:zaU v=0:=h1 _ (by simp);have hc:zff v=0:=h1 _ (by simp);have h2:=zaX hw;have a1:=h2 _ (List.mem_cons_self);have a2:=h2 _ (List.mem_cons_of_mem _ List.mem_cons_self);have a3:=h2 _ (List.mem_cons_of_mem _ (List.mem_cons_of_mem _ List.mem_cons_self));refine⟨?_,?_,fun r hr'=> ?_,?_,zdu _ _ hc⟩
 ·split at a1
  ·rename_i h3;unfold wi at h3;simp only[Bool.and_eq_true,decide_eq_true_eq] at h3;exact h3
  ·omega
 ·split at a2
  ·omega
  ·rename_i h3;simp only[not_or,Nat.not_lt] at h3;exact h3
 ·obtain⟨i,hi,rfl⟩:=List.getElem_of_mem hr';have:zbL v.c (at_ Run.o v.al i)=0:=zdu _ _ a3 i hi;rw[zaG _ _ _ hi] at this;unfold zbL at this;split at this
  ·rename_i h3;unfold wi at h3;simp only[Bool.and_eq_true,decide_eq_true_eq] at h3;omega
  ·omega
 ·unfold zaU at hr;split at hr
  ·omega
  ·rename_i h3;simp only[not_or] at h3;exact⟨by omega,by simpa using h3.2.1,by simpa using h3.2.2⟩
theorem zhn {x:Rc} (h:zcf x=0):∀s∈x.ss,s.r.length≤24∧∀r∈s.r,-1≤r.s∧r.s≤2147483647∧1≤r.l∧r.l≤512:=by
 intro s hs;obtain⟨i,hi,rfl⟩:=List.getElem_of_mem hs;have:zbU (at_ Sm.o x.ss i)=0:=zdu _ _ h i hi;rw[zaG _ _ _ hi] at this;unfold zbU at this;split at this
 ·omega
 ·rename_i h1;split at this
  ·rename_i h2;simp only[Bool.and_eq_true,Bool.not_eq_true',List.any_eq_false] at h2;refine⟨by omega,fun r hr=> ?_⟩;have:=h2.1 r hr;unfold zaW wi at this;simp only[Bool.or_eq_true,Bool.not_eq_true',Bool.and_eq_false_iff,decide_eq_false_iff_not] at this;omega
  ·omega
theorem zbV {i:Int} {x:Rc} (h:zbg i x=0):zcA i x=0∧zc5 x=0∧zcf x=0∧zcL x=0:=by
 have:=zaX h;exact⟨this _ (by simp),this _ (by simp),this _ (by simp),this _ (by simp)⟩
def SsOk (x:Rc):Prop:=x.ss.length≤1000∧∀y∈x.ss,y.r.length≤100000∧0≤y.z∧y.z≤100000000000∧∀r∈y.r,RnOk r
def Wh (p q:Rp):Prop:=q.v.c=p.v.c∧q.v.al=p.v.al∧q.v.ds=p.v.ds∧q.v.mp=p.v.mp
theorem Wh.refl (p:Rp):Wh p p:=⟨rfl,rfl,rfl,rfl⟩
theorem Wh.trans {p q r:Rp} (h:Wh p q) (g:Wh q r):Wh p r:=⟨g.1.trans h.1,g.2.1.trans h.2.1,g.2.2.1.trans h.2.2.1,g.2.2.2.trans h.2.2.2⟩
def Kp (p q:Rp):Prop:=Wh p q∧Kd p q∧(∀i,(at_ Rc.o q.v.rs i).ss=(at_ Rc.o p.v.rs i).ss)∧q.v.rs.length=p.v.rs.length
theorem Kp.refl (p:Rp):Kp p p:=⟨Wh.refl p,Kd.refl p,fun _=>rfl,rfl⟩
theorem Kp.trans {p q r:Rp} (h:Kp p q) (g:Kp q r):Kp p r:=⟨h.1.trans g.1,h.2.1.trans g.2.1,fun i=>(g.2.2.1 i).trans (h.2.2.1 i),g.2.2.2.trans h.2.2.2⟩
theorem Kp.of_v {p q r:Rp} (h:Kp p q) (hv:r.v=q.v):Kp p r:=by
 unfold Kp Wh at h⊢;rw[hv];exact⟨h.1,h.2.1.of_v hv,h.2.2⟩
theorem Kp.setR {p q:Rp} (h:Kp p q) (i:Nat) (x:Rc) (hx:(x.u=(at_ Rc.o q.v.rs i).u∧x.k=(at_ Rc.o q.v.rs i).k∧x.q=(at_ Rc.o q.v.rs i).q)∧x.ss=(at_ Rc.o q.v.rs i).ss):Kp p (q.setR i x):=by
 refine⟨h.1,h.2.1.setR i x hx.1,fun j=> ?_,by show(q.v.rs.set i x).length=_;rw[List.length_set];exact h.2.2.2⟩;show(at_ Rc.o (q.v.rs.set i x) j).ss=_;rw[zbc];split
 ·rename_i hij;obtain⟨rfl,_⟩:=hij;exact hx.2.trans (h.2.2.1 i)
 ·exact h.2.2.1 j
theorem Kp.drop {p q:Rp} (h:Kp p q) (r:Nat) (m:Nm):Kp p (drop q r m):=by
 unfold Ck.drop;split
 ·exact h.setR _ _ ⟨⟨rfl,rfl,rfl⟩,rfl⟩
 ·exact h
theorem Kp.enter {p q:Rp} (h:Kp p q) (d:Int) (nm:List UInt8) (r:Nat):Kp p (enter q d nm r):=h.setR _ _ ⟨⟨rfl,rfl,rfl⟩,rfl⟩
theorem Kp.bring {p q:Rp} (h:Kp p q) (r:Nat):Kp p (bring q r):=by
 unfold Ck.bring;dsimp only;exact(h.setR r _ (by rw[zae];exact⟨⟨rfl,rfl,rfl⟩,rfl⟩)).enter _ _ _
theorem Kp.it {S:Type} {g:S→Rp} {f:S→Nat→S} (hf:∀s k,Kp (g s) (g (f s k))) (s:S):∀k,Kp (g s) (g (it f s k))
 |0=>Kp.refl _
 |k+1=>(Kp.it hf s k).trans (hf _ k)
theorem Kp.entryStep {p:Rp} (i:Nat) (es:List En) (s:Rp×List En) (k:Nat) (h:Kp p s.1):Kp p (entryStep i es s k).1:=by
 unfold Ck.entryStep;dsimp only;split
 ·exact h
 ·split
  ·exact h.of_v rfl
  ·exact h.of_v rfl
theorem Kp.badEntries (p:Rp):Kp p (badEntries p):=Kp.it (g:=id) (fun q i=>by
 show Kp q (zac q i);unfold zac;split
 ·have h:=Kp.it (g:=Prod.fst) (fun s k=>Kp.entryStep i (q.rc i).es s k (Kp.refl _)) (q,[]) (q.rc i).es.length;dsimp only;exact h.setR i _ (by rw[zae];exact⟨⟨rfl,rfl,rfl⟩,rfl⟩)
 ·exact Kp.refl q) p _
theorem Kp.nameStep {p:Rp} (i:Nat) (all:List Nm) (s:Rp×List Nm) (k:Nat) (h:Kp p s.1):Kp p (nameStep i all s k).1:=by
 unfold Ck.nameStep;dsimp only;split
 ·split
  ·exact h
  ·exact(h.of_v (r:=s.1.note 5 i s.2.length) rfl).enter _ _ _
 ·split
  ·exact(h.of_v (r:=s.1.note 4 i s.2.length) rfl).drop _ _
  ·exact h.of_v rfl
theorem Kp.badNames1 (q:Rp) (i:Nat):Kp q (badNames1 q i):=by
 unfold Ck.badNames1;have h:=Kp.it (g:=Prod.fst) (fun s k=>Kp.nameStep i (q.rc i).ns s k (Kp.refl _)) (q,[]) (q.rc i).ns.length;dsimp only;exact h.setR i _ (by rw[zae];exact⟨⟨rfl,rfl,rfl⟩,rfl⟩)
theorem Kp.below {f:Rp→Nat→Rp} (hf:∀q i,Kp q (f q i)) (p:Rp):Kp p (below f p):=Kp.it (g:=id) (fun q j=>by
 show Kp q (if own (q.rc (16+j:Nat)) then f q (16+j) else q);split
 ·exact hf _ _
 ·exact Kp.refl q) p _
theorem Kp.badNames (p:Rp):Kp p (badNames p):=Kp.below Kp.badNames1 p
theorem Kp.orphans (p:Rp):Kp p (orphans p):=Kp.below (fun q i=>by
 unfold zaz;split
 ·exact((Kp.refl q).of_v (r:=q.note 6 i 0) rfl).bring i
 ·exact Kp.refl q) p
theorem Kp.cyclesR (p:Rp):Kp p (cyclesR p):=Kp.it (g:=id) (fun q j=>by
 show Kp q (cycleR q j);unfold cycleR;split
 ·have h:=Kp.it (g:=id) (fun(s:Rp) k=>show Kp s (Ck.drop s (16+j) (at_ Nm.o (q.rc (16+j:Nat)).ns k)) from(Kp.refl s).drop _ _) (q.note 7 (16+j:Nat) 0) (q.rc (16+j:Nat)).ns.length;exact(((Kp.refl q).of_v (r:=q.note 7 (16+j:Nat) 0) rfl).trans h).bring _
 ·exact Kp.refl q) p _
theorem Kp.links (p:Rp):Kp p (links p):=Kp.below (fun q i=>by
 unfold link1;split
 ·exact((Kp.refl q).of_v (r:=q.note 8 i 0) rfl).setR i _ (by rw[zae];exact⟨⟨rfl,rfl,rfl⟩,rfl⟩)
 ·exact Kp.refl q) p
theorem Kp.sizes (p:Rp):Kp p (sizes p):=Kp.it (g:=id) (fun q i=>by
 show Kp q (zak q i);unfold zak;split
 ·exact Kp.it (g:=id) (fun(s:Rp) k=>by
   show Kp s (sizeStep i s k);unfold sizeStep;dsimp only;split
   ·exact((Kp.refl s).of_v (r:=s.note 9 i k) rfl).setR i _ (by rw[zae];exact⟨⟨rfl,rfl,rfl⟩,rfl⟩)
   ·exact Kp.refl s) q _
 ·exact Kp.refl q) p _
theorem Kp.descriptors (p:Rp):Kp p (descriptors p):=Kp.it (g:=id) (fun q i=>by
 show Kp q (zao q i);unfold zao;dsimp only;split
 ·exact((Kp.refl q).of_v (r:=q.note 2 i 0) rfl).setR i _ (by rw[zae];exact⟨⟨rfl,rfl,rfl⟩,rfl⟩)
 ·exact Kp.refl q) p _
theorem zit {P:Rc→Prop} (hz:∀q,P {Rc.o with q:=q}) {p:Rp} (h:∀x∈p.v.rs,P x):∀k,∀x∈(it zam p k).v.rs,P x:=
 zaQ (I:=fun q:Rp=>∀x∈q.v.rs,P x) (fun s k hs=>by
  unfold zam;dsimp only;split
  ·intro x hx
   rcases mem_set hx with hx|rfl
   ·exact hs x hx
   ·exact hz _
  ·exact hs) h
theorem lost_wh (p:Rp):∀k,Wh p (it zam p k):=zaQ (I:=fun q:Rp=>Wh p q) (fun s k hs=>by
  unfold zam;dsimp only;split
  ·exact hs
  ·exact hs) (Wh.refl p)
theorem lost_at (p:Rp) (j:Nat) (hk:(at_ Rc.o p.v.rs j).k≠3):∀k,at_ Rc.o (it zam p k).v.rs j=at_ Rc.o p.v.rs j:=zaQ (I:=fun q:Rp=>at_ Rc.o q.v.rs j=at_ Rc.o p.v.rs j) (fun s k hs=>by
  unfold zam;dsimp only;split
  ·rename_i h;simp only[zae,Bool.and_eq_true,beq_iff_eq] at h;show at_ Rc.o (s.v.rs.set k _) j=_;rw[zau _ _ _ _ _ (fun e=>by subst e;rw[hs] at h;exact hk h.1.2)];exact hs
  ·exact hs) rfl
theorem zkS {P:Rc→Prop} (hz:∀x ss,P x→P {x with ss:=ss}) {s:Rp×List Bool} (h:∀x∈s.1.v.rs,P x) (ho:P Rc.o):∀k,∀x∈(it zad s k).1.v.rs,P x:=
 zaQ (I:=fun q:Rp×List Bool=>∀x∈q.1.v.rs,P x) (fun s k hs=>by
  unfold zad;split
  ·exact zaQ (I:=fun q:Rp×List Bool=>∀x∈q.1.v.rs,P x) (fun w m hw=>by
    unfold cutStep;dsimp only;split
    ·exact hw
    ·intro x hx
     rcases mem_set hx with hx|rfl
     ·exact hw x hx
     ·exact hz _ _ (ze4 (P:=P) ho hw k)) hs _
  ·exact hs) h
theorem zh9 (s:Rp×List Bool):∀k,Wh s.1 (it zad s k).1∧Kd s.1 (it zad s k).1∧(it zad s k).1.v.rs.length=s.1.v.rs.length:=
 zaQ (I:=fun q:Rp×List Bool=>Wh s.1 q.1∧Kd s.1 q.1∧q.1.v.rs.length=s.1.v.rs.length) (fun t k ht=>by
  unfold zad;split
  ·exact zaQ (I:=fun q:Rp×List Bool=>Wh s.1 q.1∧Kd s.1 q.1∧q.1.v.rs.length=s.1.v.rs.length) (fun w m hw=>by
    unfold cutStep;dsimp only;split
    ·exact hw
    ·exact⟨hw.1,(hw.2.1.of_v (r:=w.1.note 1 k m) rfl).setR k _ (by rw[zae];exact⟨rfl,rfl,rfl⟩),by show(w.1.v.rs.set _ _).length=_;rw[List.length_set];exact hw.2.2⟩) ht _
  ·exact ht) ⟨Wh.refl _,Kd.refl _,rfl⟩
theorem ziO {P:Rc→Prop} (hz:∀x d,P x→P {x with ds:=d}) {p:Rp} (h:∀x∈p.v.rs,P x) (ho:P Rc.o):∀k,∀x∈(it zao p k).v.rs,P x:=
 zaQ (I:=fun q:Rp=>∀x∈q.v.rs,P x) (fun s k hs=>by
  unfold zao;dsimp only;split
  ·intro x hx
   rcases mem_set hx with hx|rfl
   ·exact hs x hx
   ·rw[zae];exact hz _ _ (ze4 (P:=P) ho hs k)
  ·exact hs) h
theorem link_all {P:Rc→Prop} (hz:∀x l,P x→P {x with ln:=l}) {p:Rp} (h:∀x∈p.v.rs,P x) (ho:P Rc.o):∀x∈(links p).v.rs,P x:=
 zaQ (I:=fun q:Rp=>∀x∈q.v.rs,P x) (fun s k hs=>by
  split
  ·unfold link1;split
   ·intro x hx
    rcases mem_set hx with hx|rfl
    ·exact hs x hx
    ·rw[zae];exact hz _ _ (ze4 (P:=P) ho hs _)
   ·exact hs
  ·exact hs) h _
theorem EsL.badEntries {L:Nat} {p:Rp} (h:EsL L p) (hl:p.fl.length=p.fd.length):EsL L (badEntries p):=
 (zaQ (I:=fun q:Rp=>EsL L q∧q.fl.length=q.fd.length) (fun q i ⟨h1,h2⟩=>by
  unfold zac;split
  ·obtain⟨g1,g2,g3,g4,g5⟩:=zge (i:=i) (es:=(q.rc i).es) h2 (q.rc i).es.length (Nat.le_refl _);dsimp only;exact⟨(h1.of_v g1).setR i _ (Nat.le_trans g4 (by rw[zae];exact h1.at i)),g2⟩
  ·exact⟨h1,h2⟩) ⟨h,hl⟩ _).1
noncomputable def zai (v:Pt):Rp:=bits (sizes (links (cyclesR (orphans (badNames (badEntries (descriptors (badRuns (lostParts ⟨v,[],[]⟩)))))))))
structure Ready (v:Pt):Prop where
 n:5<v.rs.length∧v.rs.length≤96
 c:0≤v.c∧v.c≤100000
 al:AlOk v∧v.al.length≤100000
 ds:0<v.ds.length∧v.ds.length≤100000
 mp:v.mp.length=((v.c+7)/8).toNat
 q:∀x∈v.rs,1≤x.q∧x.q≤65535
 ns:∀x∈v.rs,x.ns.length≤1000∧∀m∈x.ns,NmOk m.n
 es:∀x∈v.rs,x.es.length≤700∧∀e∈x.es,NmOk e.n∧0≤e.f.r
 ss:∀x∈v.rs,SsOk x
 root:dir (at_ Rc.o v.rs 5)=true
structure Passes (v:Pt) (n:Nat) (p1 p2 p3 p4 p5 p6 p7 p8 p9:Rp):Prop where
 f0:Rf n ⟨v,[],[]⟩
 f1:Rb n v.c.toNat (p1,taken p1.v)∧p1.fd.length≤96
 w1:p1.v.c=v.c∧p1.v.al=v.al
 f2:Rf n p2∧p2.fd.length≤96096
 w2:p2.v.ds=v.ds
 f3:Rk n p3∧p3.fd.length≤96192
 f4:Rk n p4∧p4.fd.length≤192192
 f5:Rk n p5∧p5.fd.length≤288192∧EsL 700 p5
 f6:Rk n p6∧p6.fd.length≤288288∧EsL 780 p6∧dir (at_ Rc.o p6.v.rs 5)=true
 f7:Rk n p7∧p7.fd.length≤288384
 f8:Rg n p8∧p8.fd.length≤288480
 f9:Rf n p9∧p9.fd.length≤384480
 w9:p9.v.c=v.c∧p9.v.al=v.al∧p9.v.mp=v.mp∧p9.v.ds=v.ds
 s9:∀x∈p9.v.rs,SsOk x
theorem passes {v:Pt} (h:Ready v):Passes v v.rs.length (lostParts ⟨v,[],[]⟩) (badRuns (lostParts ⟨v,[],[]⟩)) (descriptors (badRuns (lostParts ⟨v,[],[]⟩))) (badEntries (descriptors (badRuns (lostParts ⟨v,[],[]⟩)))) (badNames (badEntries (descriptors (badRuns (lostParts ⟨v,[],[]⟩)))))
  (orphans (badNames (badEntries (descriptors (badRuns (lostParts ⟨v,[],[]⟩)))))) (cyclesR (orphans (badNames (badEntries (descriptors (badRuns (lostParts ⟨v,[],[]⟩))))))) (links (cyclesR (orphans (badNames (badEntries (descriptors (badRuns (lostParts ⟨v,[],[]⟩))))))))
  (sizes (links (cyclesR (orphans (badNames (badEntries (descriptors (badRuns (lostParts ⟨v,[],[]⟩))))))))):=by
 obtain⟨n,hn⟩:∃n,v.rs.length=n:=⟨_,rfl⟩
 have h5:=h.n.1;have h96:=h.n.2;rw[hn] at h5 h96⊢
 have f0:Rf n ⟨v,[],[]⟩:=⟨hn,rfl,h.q⟩
 have e1:lostParts ⟨v,[],[]⟩=it zam ⟨v,[],[]⟩ n:=by unfold lostParts;rw[←hn]
 obtain⟨a1,a2,_⟩:=zlb f0 n (Nat.le_refl _);have aw:=lost_wh ⟨v,[],[]⟩ n;have as1:=zit (P:=SsOk) (fun _=>⟨Nat.zero_le _,fun _ h=>(by cases h)⟩) (p:=⟨v,[],[]⟩) h.ss n;have an1:=zit (P:=fun x:Rc=>x.ns.length≤1000∧∀m∈x.ns,NmOk m.n) (fun _=>⟨Nat.zero_le _,fun _ h=>(by cases h)⟩) (p:=⟨v,[],[]⟩) h.ns n;have ae1:=zit (P:=fun x:Rc=>x.es.length≤700∧∀e∈x.es,NmOk e.n∧0≤e.f.r) (fun _=>⟨Nat.zero_le _,fun _ h=>(by cases h)⟩) (p:=⟨v,[],[]⟩) h.es n
 have hk5:(at_ Rc.o v.rs 5).k≠3:=by
  have:=h.root;unfold dir at this;simp only[Bool.and_eq_true,beq_iff_eq] at this;omega
 have ar1:=lost_at ⟨v,[],[]⟩ 5 hk5 n;rw[←e1] at a1 a2 aw as1 an1 ae1 ar1
 generalize lostParts ⟨v,[],[]⟩=p1 at*
 clear e1
 have hdr1:dir (at_ Rc.o p1.v.rs 5)=true:=by rw[ar1];exact h.root
 have hfd1:p1.fd.length≤96:=by
  have:p1.fd.length≤0+n:=a2;omega
 have f1:Rb n v.c.toNat (p1,taken p1.v):=⟨a1,by show(taken p1.v).length=_;unfold taken;rw[zjI,List.length_replicate,aw.1],as1⟩
 have e2:badRuns p1=(it zad (p1,taken p1.v) n).1:=by unfold badRuns;rw[a1.n]
 obtain⟨b1,b2⟩:=zia (B:=1000) rfl f1 n (Nat.le_refl _);have bs2:∀x∈(it zad (p1,taken p1.v) n).1.v.rs,SsOk x:=b1.ss;have bn2:=zkS (P:=fun x:Rc=>x.ns.length≤1000∧∀m∈x.ns,NmOk m.n) (fun _ _ h=>h) (s:=(p1,taken p1.v)) an1 ⟨Nat.zero_le _,fun _ h=>(by cases h)⟩ n;have be2:=zkS (P:=fun x:Rc=>x.es.length≤700∧∀e∈x.es,NmOk e.n∧0≤e.f.r) (fun _ _ h=>h) (s:=(p1,taken p1.v)) ae1 ⟨Nat.zero_le _,fun _ h=>(by cases h)⟩ n;obtain⟨bw,bk,_⟩:=zh9 (p1,taken p1.v) n;have b3:=b1.rf;rw[←e2] at b2 b3 bs2 bn2 be2 bw bk;clear b1
 generalize badRuns p1=p2 at*
 clear e2;have bw:Wh p1 p2:=bw;have bk:Kd p1 p2:=bk
 have hfd2:p2.fd.length≤96096:=by
  have:p2.fd.length≤p1.fd.length+n*1000:=b2;omega
 have e3:descriptors p2=it zao p2 n:=by unfold descriptors;rw[b3.n]
 obtain⟨c1,c2,_⟩:=zlG b3 n (Nat.le_refl _);have cs:=ziO (P:=SsOk) (fun _ _ h=>h) (p:=p2) bs2 ⟨Nat.zero_le _,fun _ h=>(by cases h)⟩ n;have cn:=ziO (P:=fun x:Rc=>x.ns.length≤1000∧∀m∈x.ns,NmOk m.n) (fun _ _ h=>h) (p:=p2) bn2 ⟨Nat.zero_le _,fun _ h=>(by cases h)⟩ n;have ce:=ziO (P:=fun x:Rc=>x.es.length≤700∧∀e∈x.es,NmOk e.n∧0≤e.f.r) (fun _ _ h=>h) (p:=p2) be2 ⟨Nat.zero_le _,fun _ h=>(by cases h)⟩ n;have cp:=Kp.descriptors p2;rw[←e3] at c1 c2 cs cn ce
 generalize descriptors p2=p3 at*
 clear e3
 have f3:Rk n p3:=⟨c1,⟨by rw[c1.n];exact h96,cn,fun x hx=>⟨Nat.le_trans (ce x hx).1 (by omega),fun e he=>((ce x hx).2 e he).1⟩⟩,fun x hx e he=>((ce x hx).2 e he).2,fun x hx=>Nat.le_trans (cs x hx).1 (by omega)⟩
 have hE3:EsL 700 p3:=fun x hx=>(ce x hx).1
 have hfd3:p3.fd.length≤96192:=by omega
 have e4:badEntries p3=it zac p3 n:=by unfold badEntries;rw[c1.n]
 obtain⟨d1,d2⟩:=zei (B:=1000) rfl f3 n (Nat.le_refl _);have hE4:=hE3.badEntries f3.rf.fl;have dp:=cp.trans (Kp.badEntries p3);rw[←e4] at d1 d2
 generalize badEntries p3=p4 at*
 clear e4
 have hfd4:p4.fd.length≤192192:=by omega
 obtain⟨g1,g2⟩:=zjl (B:=1000) rfl d1 (n-16) (Nat.le_refl _)
 have e5:badNames p4=it (fun q j=>if own (q.rc (16+j:Nat)) then badNames1 q (16+j) else q) p4 (n-16):=by unfold badNames below;rw[d1.rf.n]
 have hE5:=hE4.badNames;have gp:=dp.trans (Kp.badNames p4);rw[←e5] at g1 g2
 generalize badNames p4=p5 at*
 clear e5
 have hfd5:p5.fd.length≤288192:=by
  have:(n-16)*1000≤96*1000:=Nat.mul_le_mul_right _ (by omega);omega
 obtain⟨i1,i2,i3⟩:=zgF g1 h96 hE5 (by omega) (n-16) (Nat.le_refl _)
 have e6:orphans p5=it (fun q j=>if own (q.rc (16+j:Nat)) then zaz q (16+j) else q) p5 (n-16):=by unfold orphans below;rw[g1.rf.n]
 have ip:=gp.trans (Kp.orphans p5);rw[←e6] at i1 i2 i3
 generalize orphans p5=p6 at*
 clear e6
 have hfd6:p6.fd.length≤288288:=by omega
 have hE6:EsL 780 p6:=i3.mono (by omega)
 have hdr6:dir (at_ Rc.o p6.v.rs 5)=true:=by rw[(bk.trans ip.2.1).dir];exact hdr1
 obtain⟨j1,j2,j3,_⟩:=zfv i1 h96 hE6 (by omega) (n-16) (Nat.le_refl _)
 have e7:cyclesR p6=it cycleR p6 (n-16):=by unfold cyclesR;rw[i1.rf.n]
 have jp:=ip.trans (Kp.cyclesR p6);rw[←e7] at j1 j2 j3
 generalize cyclesR p6=p7 at*
 clear e7
 have hfd7:p7.fd.length≤288384:=by omega
 have hns7:NsOk p7:=fun x hx=>Nat.le_trans (j1.na.ns x hx).1 (by omega)
 obtain⟨k1,k2,k3⟩:=zlf j1.rf hns7 (n-16) (Nat.le_refl _)
 have e8:links p7=it (fun q j=>if own (q.rc (16+j:Nat)) then link1 q (16+j) else q) p7 (n-16):=by unfold links below;rw[j1.rf.n]
 have kse:=link_all (P:=fun x:Rc=>x.ss.length≤100000∧x.es.length≤1000) (fun _ _ h=>h) (p:=p7) (fun x hx=>⟨j1.ss x hx,(j1.na.es x hx).1⟩) ⟨Nat.zero_le _,Nat.zero_le _⟩;have kp:=jp.trans (Kp.links p7);rw[←e8] at k1 k2 k3
 generalize links p7=p8 at*
 clear e8
 have hfd8:p8.fd.length≤288480:=by omega
 have f8:Rg n p8:=⟨k1,kse⟩
 have e9:sizes p8=it zak p8 n:=by unfold sizes;rw[k1.n]
 obtain⟨l1,l2⟩:=zgm (B:=1000) rfl f8 n (Nat.le_refl _);have lp:=kp.trans (Kp.sizes p8);rw[←e9] at l1 l2
 generalize sizes p8=p9 at*
 clear e9
 have hfd9:p9.fd.length≤384480:=by omega
 have hs9:∀x∈p9.v.rs,SsOk x:=fun x hx=>by
  obtain⟨i,hi,rfl⟩:=List.getElem_of_mem hx;have hss:=lp.2.2.1 i;rw[zaG Rc.o _ _ hi] at hss;unfold SsOk;rw[hss];exact ze4 (P:=SsOk) ⟨Nat.zero_le _,fun _ h=>(by cases h)⟩ bs2 i
 have hw:=(aw.trans bw).trans lp.1;exact⟨f0,⟨f1,hfd1⟩,⟨aw.1,aw.2.1⟩,⟨b3,hfd2⟩,bw.2.2.1.trans aw.2.2.1,⟨f3,hfd3⟩,⟨d1,hfd4⟩,⟨g1,hfd5,hE5⟩,⟨i1,hfd6,hE6,hdr6⟩,⟨j1,hfd7⟩,⟨f8,hfd8⟩,⟨l1.rf,hfd9⟩,⟨hw.1,hw.2.1,hw.2.2.2,hw.2.2.1⟩,hs9⟩
end Ck
namespace Ck
open Go Go.Ex
def aB (b:Bool):List AV:=[bb b]
inductive Sh
 |init
 |mt0
 |op (pre:List Int)
def qv :Sh→List Int→AV
 | .init,_=> .sl 2 0 1 1
 | .mt0,_=> .sl 2 0 0 0
 | .op pre,Q=> .so 2 pre.length Q.length pre.length
def qr :Sh→List Int→AO
 | .init,_=> .row [ib 5] 3 0
 | .mt0,_=> .row [ib 5] 3 0
 | .op pre,Q=> .row ((pre++Q).map ib) 3 1
def okS :Sh→List Int→Prop
 | .init,Q=>Q=[5]
 | .mt0,Q=>Q=[]
 | .op _,_=>True
def okI :Sh→List Int→Prop
 | .init,_=>False
 | .mt0,Q=>Q=[]
 | .op _,_=>True
theorem zkx :∀n,cntF (List.replicate n false)=n
 |0=>rfl
 |n+1=>by rw[List.replicate_succ];simp only[cntF];rw[zkx n];simp;omega
end Ck
namespace Go.Proofs.YtgcjejajljhnaaaGreatDoor
open Go.Ex Ck
set_option maxRecDepth 100000
set_option maxHeartbeats 4000000
theorem zaV (v:Pt) (r:Ref) (hn:v.rs.length≤100000) (h:Ck.right v r=true):PureC Tryz.prog 101 [aPts v, .agg (aRef r)] (.tup [aRcs (at_ Rc.o v.rs r.r.toNat),bb true]):=by
 have:=zj6 v r hn
 have hw:wi r.r 0 (v.rs.length-1)=true:=by unfold Ck.right at h;simp only[Bool.and_eq_true] at h;exact h.1.1
 rw[h,if_pos hw] at this;exact this
theorem zdm (v:Pt) (r:Ref) (hn:v.rs.length≤100000) (h:Ck.right v r=false):PureC Tryz.prog 101 [aPts v, .agg (aRef r)] (.tup [aRcs (rx v r),bb false]):=by
 have:=zj6 v r hn;rw[h] at this;exact this
theorem reached_k (v:Pt) (h1:v.rs.length≤100000) (h5:5<v.rs.length) (hd5:dir (at_ Rc.o v.rs 5)=true) (hes:∀x∈v.rs,x.es.length≤100000):PureC Tryz.prog 74 [aPts v] (LS 1 aB false (rchL v)):=by
 have hmk:(0:Int)≤v.rs.length∧(v.rs.length:Int)≤v.rs.length∧((v.rs.length:Int)).toNat*1≤2^47∧(v.rs.length:Int)≤2^60:=by refine⟨?_,?_,?_,?_⟩<;>omega
 have hcnt0:[5].length+cntF (zeO v)≤v.rs.length:=by
  have:=zbJ (List.replicate v.rs.length false) 5 (by simpa using h5) (zkV _ _);rw[zkx] at this;unfold zeO;simp only[List.length_cons,List.length_nil];omega
 have hzr:zeros v.rs.length (.bool false)=(List.replicate v.rs.length false).map bb:=by
  rw[zdc (x:=bb false) _ _ rfl];simp
 have hoff5:0+5*1=5:=rfl
 have hj5:5<(List.replicate v.rs.length false).length:=by simpa using h5
 refine PureC.of kmix rfl ?_
 (conv=>whnf);repeat(first|refine Need.mk ?_ ?_;(first|trivial|omega)|refine Ck.storeM bb true rfl hoff5 rfl rfl rfl rfl (congrArg (fun c=>some (AO.row c 4 0)) hzr) hj5 ?_);conv=>whnf
 refine WLoop.inv kmix (D:=List Bool×List Int×Sh) (fun d=>2*cntF d.1+d.2.1.length) (fun d=>Que v d.1 d.2.1∧okS d.2.2 d.2.1∧d.2.1.length+cntF d.1≤v.rs.length)
  (fun d=>slots [(1, .ptr 0 0),(3, .sl 1 0 v.rs.length v.rs.length),(4,qv d.2.2 d.2.1)] 68)
  (fun d=>zaj [.row (aPt v) 26 0, .row (d.1.map bb) 4 0,qr d.2.2 d.2.1]) (zeO v,[5], .init) ⟨.start h5 hd5,rfl,hcnt0⟩ ?_ ?_
 ·(refine Weak.of [0,1,2] [] rfl rfl ?_ ?_<;>(repeat' first|exact zT|refine zA ?_ ?_)<;>(conv=>whnf)<;>(repeat'(exact rfl))<;>((first|exact Or.inr ⟨rfl,rfl⟩|exact Or.inr ⟨rfl,Ck.contL_map (fun _=>rfl) _⟩)))
 ·rintro⟨L,Q,sh⟩ ⟨hq,hs,hcn⟩;dsimp only at hq hs hcn⊢;have hLl:=hq.m.len
  cases sh with
  |init=>
   subst hs;have hmid:=hq.pop;clear hq
   (conv=>whnf);repeat(first|refine KIf.t rfl ?_|refine Need.mk ?_ ?_;(first|trivial|omega));conv=>whnf
   have hcq:([]:List Int).length+1+cntF L≤v.rs.length∧2*cntF L+([]:List Int).length<2*cntF L+([5]:List Int).length:=by simp only[List.length_cons,List.length_nil] at hcn⊢;omega
   have hel:=hes _ (at_mem Rc.o v.rs 5 (by omega))
   refine WLoop.inv kmix (D:=List Bool×List Int×Sh×Nat) (fun m=>(at_ Rc.o v.rs 5).es.length-m.2.2.2) (fun m=>Mid v 5 m.2.2.2 m.1 m.2.1∧okI m.2.2.1 m.2.1∧m.2.2.2≤(at_ Rc.o v.rs 5).es.length∧m.2.1.length+1+cntF m.1≤v.rs.length∧2*cntF m.1+m.2.1.length<2*cntF L+([5]:List Int).length)
    (fun m=>slots [(1, .ptr 0 0),(3, .sl 1 0 v.rs.length v.rs.length),(4,qv m.2.2.1 m.2.1),(5,ib 5),(30,LS 4 aEn En.o (at_ Rc.o v.rs 5).es),(31,ib (at_ Rc.o v.rs 5).es.length),(32,ib m.2.2.2)] 68)
    (fun m=>zaj [.row (aPt v) 26 0, .row (m.1.map bb) 4 0,qr m.2.2.1 m.2.1]) (L,([]:List Int), .mt0,0) ⟨hmid,rfl,Nat.zero_le _,hcq.1,hcq.2⟩ ?_ ?_
   ·(refine Weak.of [0,1,2] [] rfl rfl ?_ ?_<;>(repeat' first|exact zT|refine zA ?_ ?_)<;>(conv=>whnf)<;>(repeat'(exact rfl))<;>(first|(intro _ _;rfl)|(first|exact Or.inr ⟨rfl,rfl⟩|exact Or.inr ⟨rfl,Ck.contL_map (fun _=>rfl) _⟩)))
   ·clear hmid hcq hcn;rintro⟨L,Q,sh,k⟩ ⟨hm,hs,hk,hcn,hme⟩;dsimp only at hm hs hk hcn hme⊢
    cases sh with
    |init=>exact hs.elim
    |mt0=>
     subst hs;have hLl:=hm.m.len
     conv=>whnf
     refine KIf.dec (fun h=> ?_) (fun h=> ?_)
     ·have hlt:k<(at_ Rc.o v.rs 5).es.length:=by omega
      obtain⟨x,hx⟩:∃x,x=(at_ En.o (at_ Rc.o v.rs 5).es k):=⟨_,rfl⟩
      by_cases hr:right v x.f=true
      ·have hrl:=zb7 hr
       have hri:0≤x.f.r∧x.f.r<v.rs.length:=by omega
       have hoff:0+x.f.r.toNat*1=x.f.r.toNat:=by omega
       have hj:x.f.r.toNat<L.length:=by omega
       have hset:=fun hn=>hm.set hx hlt hr hn
       have hskip:=fun hn:at_ false L x.f.r.toNat=true=>hm.skip (by rw[←hx];exact fun _=>hn)
       rw[hx] at hr hri hoff hj hset hskip;cases hmk:at_ false L (at_ En.o (at_ Rc.o v.rs 5).es k).f.r.toNat
       ·have hm2:=hset hmk;have hcs:=zbJ L _ hj hmk;clear hset hskip;cases hd:dir (at_ Rc.o v.rs (at_ En.o (at_ Rc.o v.rs 5).es k).f.r.toNat)
        ·rw[hd] at hm2
         (conv=>whnf);repeat(first|refine KIf.f ?_ ?_;assumption|refine KIf.t rfl ?_|refine Need.mk ?_ ?_;(first|trivial|omega|(constructor<;>omega))|refine KCall.pure (zaV v _ h1 hr) ?_|refine RK.of (Ck.loadMx bb false false hmk hoff rfl rfl hj) ?_|refine Ck.storeM bb true rfl hoff rfl rfl rfl rfl rfl hj ?_|refine KCall.pure (zav (at_ Rc.o v.rs (at_ En.o (at_ Rc.o v.rs 5).es k).f.r.toNat)) ?_);conv=>whnf
         refine⟨(L.set (at_ En.o (at_ Rc.o v.rs 5).es k).f.r.toNat true,([]:List Int),Sh.mt0,k+1),⟨hm2,rfl,hlt,by dsimp only;omega,by dsimp only at hme⊢;omega⟩,by dsimp only;omega,?_⟩
         (refine Weak.of [0,1,2] [] rfl rfl ?_ ?_<;>(repeat' first|exact zT|refine zA ?_ ?_)<;>(conv=>whnf)<;>(repeat'(exact rfl))<;>(first|(intro _ _;rfl)|(first|exact Or.inr ⟨rfl,rfl⟩|exact Or.inr ⟨rfl,Ck.contL_map (fun _=>rfl) _⟩)))
        ·rw[hd,if_pos rfl] at hm2
         (conv=>whnf);repeat(first|refine KIf.t ?_ ?_;assumption|refine KIf.t rfl ?_|refine KIf.f rfl ?_|refine Need.mk ?_ ?_;(first|trivial|omega|(constructor<;>omega))|refine KCall.pure (zaV v _ h1 hr) ?_|refine RK.of (Ck.loadMx bb false false hmk hoff rfl rfl hj) ?_|refine Ck.storeM bb true rfl hoff rfl rfl rfl rfl rfl hj ?_|refine KCall.pure (zav (at_ Rc.o v.rs (at_ En.o (at_ Rc.o v.rs 5).es k).f.r.toNat)) ?_);conv=>whnf
         refine⟨(L.set (at_ En.o (at_ Rc.o v.rs 5).es k).f.r.toNat true,([]:List Int)++[(at_ En.o (at_ Rc.o v.rs 5).es k).f.r],(Sh.op []),k+1),⟨hm2,trivial,hlt,by simp only[List.length_append,List.length_cons,List.length_nil] at hcn⊢;omega,by simp only[List.length_append,List.length_cons,List.length_nil] at hme⊢;omega⟩,by dsimp only;omega,?_⟩
         (refine Weak.of [0,1,6] [] rfl rfl ?_ ?_<;>(repeat' first|exact zT|refine zA ?_ ?_)<;>(conv=>whnf)<;>(repeat'(exact rfl))<;>(first|(intro _ _;rfl)|((first|exact Or.inr ⟨rfl,rfl⟩|exact Or.inr ⟨rfl,Ck.contL_map (fun _=>rfl) _⟩))))
       ·have hm2:=hskip hmk;clear hset hskip
        (conv=>whnf);repeat(first|refine KIf.t rfl ?_|refine KIf.f rfl ?_|refine Need.mk ?_ ?_;(first|trivial|omega|(constructor<;>omega))|refine KCall.pure (zaV v _ h1 hr) ?_|refine RK.of (Ck.loadMx bb false true hmk hoff rfl rfl hj) ?_);conv=>whnf
        refine⟨(L,([]:List Int),Sh.mt0,k+1),⟨hm2,rfl,hlt,hcn,hme⟩,by dsimp only;omega,?_⟩
        (refine Weak.of [0,1,2] [] rfl rfl ?_ ?_<;>(repeat' first|exact zT|refine zA ?_ ?_)<;>(conv=>whnf)<;>(repeat'(exact rfl))<;>(first|(intro _ _;rfl)|(first|exact Or.inr ⟨rfl,rfl⟩|exact Or.inr ⟨rfl,Ck.contL_map (fun _=>rfl) _⟩)))
      ·have hr':right v x.f=false:=by simpa using hr
       have hm2:=hm.skip (by rw[←hx];exact fun h=>absurd h hr);rw[hx] at hr'
       (conv=>whnf);repeat(first|refine KIf.f rfl ?_|refine Need.mk ?_ ?_;(first|omega|(constructor<;>omega))|refine KCall.pure (zdm v _ h1 hr') ?_);conv=>whnf
       refine⟨(L,([]:List Int),Sh.mt0,k+1),⟨hm2,rfl,hlt,hcn,hme⟩,by dsimp only;omega,?_⟩
       (refine Weak.of [0,1,2] [] rfl rfl ?_ ?_<;>(repeat' first|exact zT|refine zA ?_ ?_)<;>(conv=>whnf)<;>(repeat'(exact rfl))<;>(first|(intro _ _;rfl)|(first|exact Or.inr ⟨rfl,rfl⟩|exact Or.inr ⟨rfl,Ck.contL_map (fun _=>rfl) _⟩)))
     ·have hke:k=(at_ Rc.o v.rs 5).es.length:=by omega
      conv=>whnf
      refine⟨(L,([]:List Int),Sh.mt0),⟨hm.fin hke,rfl,by dsimp only;omega⟩,hme,?_⟩
      (refine Weak.of [0,1,2] [] rfl rfl ?_ ?_<;>(repeat' first|exact zT|refine zA ?_ ?_)<;>(conv=>whnf)<;>(repeat'(exact rfl))<;>((first|exact Or.inr ⟨rfl,rfl⟩|exact Or.inr ⟨rfl,Ck.contL_map (fun _=>rfl) _⟩)))
    |op pre=>
     have hLl:=hm.m.len
     conv=>whnf
     refine KIf.dec (fun h=> ?_) (fun h=> ?_)
     ·have hlt:k<(at_ Rc.o v.rs 5).es.length:=by omega
      obtain⟨x,hx⟩:∃x,x=(at_ En.o (at_ Rc.o v.rs 5).es k):=⟨_,rfl⟩
      by_cases hr:right v x.f=true
      ·have hrl:=zb7 hr
       have hri:0≤x.f.r∧x.f.r<v.rs.length:=by omega
       have hoff:0+x.f.r.toNat*1=x.f.r.toNat:=by omega
       have hj:x.f.r.toNat<L.length:=by omega
       have hset:=fun hn=>hm.set hx hlt hr hn
       have hskip:=fun hn:at_ false L x.f.r.toNat=true=>hm.skip (by rw[←hx];exact fun _=>hn)
       rw[hx] at hr hri hoff hj hset hskip;cases hmk:at_ false L (at_ En.o (at_ Rc.o v.rs 5).es k).f.r.toNat
       ·have hm2:=hset hmk;have hcs:=zbJ L _ hj hmk;clear hset hskip;cases hd:dir (at_ Rc.o v.rs (at_ En.o (at_ Rc.o v.rs 5).es k).f.r.toNat)
        ·rw[hd] at hm2
         (conv=>whnf);repeat(first|refine KIf.f ?_ ?_;assumption|refine KIf.t rfl ?_|refine Need.mk ?_ ?_;(first|trivial|omega|(constructor<;>omega))|refine KCall.pure (zaV v _ h1 hr) ?_|refine RK.of (Ck.loadMx bb false false hmk hoff rfl rfl hj) ?_|refine Ck.storeM bb true rfl hoff rfl rfl rfl rfl rfl hj ?_|refine KCall.pure (zav (at_ Rc.o v.rs (at_ En.o (at_ Rc.o v.rs 5).es k).f.r.toNat)) ?_);conv=>whnf
         refine⟨(L.set (at_ En.o (at_ Rc.o v.rs 5).es k).f.r.toNat true,Q,(Sh.op pre),k+1),⟨hm2,trivial,hlt,by dsimp only;omega,by dsimp only at hme⊢;omega⟩,by dsimp only;omega,?_⟩
         (refine Weak.of [0,1,2] [] rfl rfl ?_ ?_<;>(repeat' first|exact zT|refine zA ?_ ?_)<;>(conv=>whnf)<;>(repeat'(exact rfl))<;>(first|(intro _ _;rfl)|(first|exact Or.inr ⟨rfl,rfl⟩|exact Or.inr ⟨rfl,Ck.contL_map (fun _=>rfl) _⟩)))
        ·rw[hd,if_pos rfl] at hm2
         (conv=>whnf);repeat(first|refine NCase.s (Nat.succ_ne_zero _) ?_|refine KIf.t ?_ ?_;assumption|refine KIf.t rfl ?_|refine Need.mk ?_ ?_;(first|trivial|omega|(constructor<;>omega))|refine KCall.pure (zaV v _ h1 hr) ?_|refine RK.of (Ck.loadMx bb false false hmk hoff rfl rfl hj) ?_|refine Ck.storeM bb true rfl hoff rfl rfl rfl rfl rfl hj ?_|refine KCall.pure (zav (at_ Rc.o v.rs (at_ En.o (at_ Rc.o v.rs 5).es k).f.r.toNat)) ?_|refine Need.mk ?_ ?_;exact(by simp));conv=>whnf
         refine⟨(L.set (at_ En.o (at_ Rc.o v.rs 5).es k).f.r.toNat true,Q++[(at_ En.o (at_ Rc.o v.rs 5).es k).f.r],(Sh.op []),k+1),⟨hm2,trivial,hlt,by simp only[List.length_append,List.length_cons,List.length_nil] at hcn⊢;omega,by simp only[List.length_append,List.length_cons,List.length_nil] at hme⊢;omega⟩,by dsimp only;omega,?_⟩
         (refine Weak.of [0,1,6] [] rfl rfl ?_ ?_<;>(repeat' first|exact zT|refine zA ?_ ?_)<;>(conv=>whnf)<;>(repeat'(exact rfl))<;>(first|(intro _ _;rfl)|(first|exact zdd (zfd ib _ _ _) (contL_map (enc:=ib) (fun _=>rfl) _)|(first|exact Or.inr ⟨rfl,rfl⟩|exact Or.inr ⟨rfl,Ck.contL_map (fun _=>rfl) _⟩)|(simp;done))))
       ·have hm2:=hskip hmk;clear hset hskip
        (conv=>whnf);repeat(first|refine KIf.t rfl ?_|refine KIf.f rfl ?_|refine Need.mk ?_ ?_;(first|trivial|omega|(constructor<;>omega))|refine KCall.pure (zaV v _ h1 hr) ?_|refine RK.of (Ck.loadMx bb false true hmk hoff rfl rfl hj) ?_);conv=>whnf
        refine⟨(L,Q,(Sh.op pre),k+1),⟨hm2,trivial,hlt,hcn,hme⟩,by dsimp only;omega,?_⟩
        (refine Weak.of [0,1,2] [] rfl rfl ?_ ?_<;>(repeat' first|exact zT|refine zA ?_ ?_)<;>(conv=>whnf)<;>(repeat'(exact rfl))<;>(first|(intro _ _;rfl)|(first|exact Or.inr ⟨rfl,rfl⟩|exact Or.inr ⟨rfl,Ck.contL_map (fun _=>rfl) _⟩)))
      ·have hr':right v x.f=false:=by simpa using hr
       have hm2:=hm.skip (by rw[←hx];exact fun h=>absurd h hr);rw[hx] at hr'
       (conv=>whnf);repeat(first|refine KIf.f rfl ?_|refine Need.mk ?_ ?_;(first|omega|(constructor<;>omega))|refine KCall.pure (zdm v _ h1 hr') ?_);conv=>whnf
       refine⟨(L,Q,(Sh.op pre),k+1),⟨hm2,trivial,hlt,hcn,hme⟩,by dsimp only;omega,?_⟩
       (refine Weak.of [0,1,2] [] rfl rfl ?_ ?_<;>(repeat' first|exact zT|refine zA ?_ ?_)<;>(conv=>whnf)<;>(repeat'(exact rfl))<;>(first|(intro _ _;rfl)|(first|exact Or.inr ⟨rfl,rfl⟩|exact Or.inr ⟨rfl,Ck.contL_map (fun _=>rfl) _⟩)))
     ·have hke:k=(at_ Rc.o v.rs 5).es.length:=by omega
      conv=>whnf
      refine⟨(L,Q,Sh.op pre),⟨hm.fin hke,trivial,by dsimp only;omega⟩,hme,?_⟩
      (refine Weak.of [0,1,2] [] rfl rfl ?_ ?_<;>(repeat' first|exact zT|refine zA ?_ ?_)<;>(conv=>whnf)<;>(repeat'(exact rfl))<;>((first|exact Or.inr ⟨rfl,rfl⟩|exact Or.inr ⟨rfl,Ck.contL_map (fun _=>rfl) _⟩)))
  |mt0=>
   subst hs;have hL:=hq.fin
   (conv=>whnf);repeat((refine KIf.f rfl ?_;conv=>whnf))
   refine .z [1] ?_;rw[←hL];exact Wz.ownS rfl (by simp) hLl.symm (Nat.le_of_eq hLl) (fun _ _=>rfl) (zeP bb false L) (fun _ _=>rfl)
  |op pre=>
   cases Q with
   |nil=>
    have hL:=hq.fin
    (conv=>whnf);repeat((refine KIf.f rfl ?_;conv=>whnf))
    refine .z [1] ?_;rw[←hL];exact Wz.ownS rfl (by simp) hLl.symm (Nat.le_of_eq hLl) (fun _ _=>rfl) (zeP bb false L) (fun _ _=>rfl)
   |cons d Q=>
    have hmid:=hq.pop;obtain⟨hd0,hd1,hd2,hd3⟩:=hq.q d (by simp);clear hd2 hd3;clear hq hs
    cases Q with
    |nil=>
     have hle:(0:Int)≤0∧(0:Int)<([d].length:Nat):=⟨Int.le_refl _,by simp only[List.length_cons,List.length_nil];omega⟩
     have hat:at_ 0 (pre++[d]) pre.length=d:=by unfold at_;simp
     have hjl:pre.length<(pre++[d]).length:=by simp
     have hdn:0≤d∧d<v.rs.length:=by omega
     (conv=>whnf);repeat(first|refine KIf.t rfl ?_|refine KIf.f rfl ?_|refine Need.mk ?_ ?_;(first|trivial|omega)|refine Need.mk ?_ ?_;exact⟨(Nat.mul_one _).symm,by simp,rfl,rfl⟩|refine RK.of (Ck.loadMx ib 0 d hat rfl rfl rfl hjl) ?_);conv=>whnf
     have hcq:([]:List Int).length+1+cntF L≤v.rs.length∧2*cntF L+([]:List Int).length<2*cntF L+([d]:List Int).length:=by simp only[List.length_cons,List.length_nil] at hcn⊢;omega
     have hel:=hes _ (at_mem Rc.o v.rs d.toNat (by omega))
     refine WLoop.inv kmix (D:=List Bool×List Int×List Int×Nat) (fun m=>(at_ Rc.o v.rs d.toNat).es.length-m.2.2.2) (fun m=>Mid v d.toNat m.2.2.2 m.1 m.2.1∧okI (.op m.2.2.1) m.2.1∧m.2.2.2≤(at_ Rc.o v.rs d.toNat).es.length∧m.2.1.length+1+cntF m.1≤v.rs.length∧2*cntF m.1+m.2.1.length<2*cntF L+([d]:List Int).length)
      (fun m=>slots [(1, .ptr 0 0),(3, .sl 1 0 v.rs.length v.rs.length),(4,qv (.op m.2.2.1) m.2.1),(5,ib d),(30,LS 4 aEn En.o (at_ Rc.o v.rs d.toNat).es),(31,ib (at_ Rc.o v.rs d.toNat).es.length),(32,ib m.2.2.2)] 68)
      (fun m=>zaj [.row (aPt v) 26 0, .row (m.1.map bb) 4 0,qr (.op m.2.2.1) m.2.1]) (L,([]:List Int),[],0) ⟨hmid,trivial,Nat.zero_le _,hcq.1,hcq.2⟩ ?_ ?_
     ·(refine Weak.of [0,1,3] [] rfl rfl ?_ ?_<;>(repeat' first|exact zT|refine zA ?_ ?_)<;>(conv=>whnf)<;>(repeat'(exact rfl))<;>(first|(intro _ _;rfl)|(first|exact Or.inr ⟨rfl,rfl⟩|exact Or.inr ⟨rfl,Ck.contL_map (fun _=>rfl) _⟩)))
     ·clear hmid hcq hcn hat hjl hle;rintro⟨L,Q,pre,k⟩ ⟨hm,hs,hk,hcn,hme⟩;dsimp only at hm hs hk hcn hme⊢;have hLl:=hm.m.len
      conv=>whnf
      refine KIf.dec (fun h=> ?_) (fun h=> ?_)
      ·have hlt:k<(at_ Rc.o v.rs d.toNat).es.length:=by omega
       obtain⟨x,hx⟩:∃x,x=(at_ En.o (at_ Rc.o v.rs d.toNat).es k):=⟨_,rfl⟩
       by_cases hr:right v x.f=true
       ·have hrl:=zb7 hr
        have hri:0≤x.f.r∧x.f.r<v.rs.length:=by omega
        have hoff:0+x.f.r.toNat*1=x.f.r.toNat:=by omega
        have hj:x.f.r.toNat<L.length:=by omega
        have hset:=fun hn=>hm.set hx hlt hr hn
        have hskip:=fun hn:at_ false L x.f.r.toNat=true=>hm.skip (by rw[←hx];exact fun _=>hn)
        rw[hx] at hr hri hoff hj hset hskip;cases hmk:at_ false L (at_ En.o (at_ Rc.o v.rs d.toNat).es k).f.r.toNat
        ·have hm2:=hset hmk;have hcs:=zbJ L _ hj hmk;clear hset hskip;cases hd:dir (at_ Rc.o v.rs (at_ En.o (at_ Rc.o v.rs d.toNat).es k).f.r.toNat)
         ·rw[hd] at hm2
          (conv=>whnf);repeat(first|refine KIf.f ?_ ?_;assumption|refine KIf.t rfl ?_|refine Need.mk ?_ ?_;(first|trivial|omega|(constructor<;>omega))|refine KCall.pure (zaV v _ h1 hr) ?_|refine RK.of (Ck.loadMx bb false false hmk hoff rfl rfl hj) ?_|refine Ck.storeM bb true rfl hoff rfl rfl rfl rfl rfl hj ?_|refine KCall.pure (zav (at_ Rc.o v.rs (at_ En.o (at_ Rc.o v.rs d.toNat).es k).f.r.toNat)) ?_);conv=>whnf
          refine⟨(L.set (at_ En.o (at_ Rc.o v.rs d.toNat).es k).f.r.toNat true,Q,pre,k+1),⟨hm2,trivial,hlt,by dsimp only;omega,by dsimp only at hme⊢;omega⟩,by dsimp only;omega,?_⟩
          (refine Weak.of [0,1,2] [] rfl rfl ?_ ?_<;>(repeat' first|exact zT|refine zA ?_ ?_)<;>(conv=>whnf)<;>(repeat'(exact rfl))<;>(first|(intro _ _;rfl)|(first|exact Or.inr ⟨rfl,rfl⟩|exact Or.inr ⟨rfl,Ck.contL_map (fun _=>rfl) _⟩)))
         ·rw[hd,if_pos rfl] at hm2
          (conv=>whnf);repeat(first|refine NCase.s (Nat.succ_ne_zero _) ?_|refine KIf.t ?_ ?_;assumption|refine KIf.t rfl ?_|refine Need.mk ?_ ?_;(first|trivial|omega|(constructor<;>omega))|refine KCall.pure (zaV v _ h1 hr) ?_|refine RK.of (Ck.loadMx bb false false hmk hoff rfl rfl hj) ?_|refine Ck.storeM bb true rfl hoff rfl rfl rfl rfl rfl hj ?_|refine KCall.pure (zav (at_ Rc.o v.rs (at_ En.o (at_ Rc.o v.rs d.toNat).es k).f.r.toNat)) ?_|refine Need.mk ?_ ?_;exact(by simp));conv=>whnf
          refine⟨(L.set (at_ En.o (at_ Rc.o v.rs d.toNat).es k).f.r.toNat true,Q++[(at_ En.o (at_ Rc.o v.rs d.toNat).es k).f.r],[],k+1),⟨hm2,trivial,hlt,by simp only[List.length_append,List.length_cons,List.length_nil] at hcn⊢;omega,by simp only[List.length_append,List.length_cons,List.length_nil] at hme⊢;omega⟩,by dsimp only;omega,?_⟩
          (refine Weak.of [0,1,6] [] rfl rfl ?_ ?_<;>(repeat' first|exact zT|refine zA ?_ ?_)<;>(conv=>whnf)<;>(repeat'(exact rfl))<;>(first|(intro _ _;rfl)|(first|exact zdd (zfd ib _ _ _) (contL_map (enc:=ib) (fun _=>rfl) _)|(first|exact Or.inr ⟨rfl,rfl⟩|exact Or.inr ⟨rfl,Ck.contL_map (fun _=>rfl) _⟩)|(simp;done))))
        ·have hm2:=hskip hmk;clear hset hskip
         (conv=>whnf);repeat(first|refine KIf.t rfl ?_|refine KIf.f rfl ?_|refine Need.mk ?_ ?_;(first|trivial|omega|(constructor<;>omega))|refine KCall.pure (zaV v _ h1 hr) ?_|refine RK.of (Ck.loadMx bb false true hmk hoff rfl rfl hj) ?_);conv=>whnf
         refine⟨(L,Q,pre,k+1),⟨hm2,trivial,hlt,hcn,hme⟩,by dsimp only;omega,?_⟩
         (refine Weak.of [0,1,2] [] rfl rfl ?_ ?_<;>(repeat' first|exact zT|refine zA ?_ ?_)<;>(conv=>whnf)<;>(repeat'(exact rfl))<;>(first|(intro _ _;rfl)|(first|exact Or.inr ⟨rfl,rfl⟩|exact Or.inr ⟨rfl,Ck.contL_map (fun _=>rfl) _⟩)))
       ·have hr':right v x.f=false:=by simpa using hr
        have hm2:=hm.skip (by rw[←hx];exact fun h=>absurd h hr);rw[hx] at hr'
        (conv=>whnf);repeat(first|refine KIf.f rfl ?_|refine Need.mk ?_ ?_;(first|omega|(constructor<;>omega))|refine KCall.pure (zdm v _ h1 hr') ?_);conv=>whnf
        refine⟨(L,Q,pre,k+1),⟨hm2,trivial,hlt,hcn,hme⟩,by dsimp only;omega,?_⟩
        (refine Weak.of [0,1,2] [] rfl rfl ?_ ?_<;>(repeat' first|exact zT|refine zA ?_ ?_)<;>(conv=>whnf)<;>(repeat'(exact rfl))<;>(first|(intro _ _;rfl)|(first|exact Or.inr ⟨rfl,rfl⟩|exact Or.inr ⟨rfl,Ck.contL_map (fun _=>rfl) _⟩)))
      ·have hke:k=(at_ Rc.o v.rs d.toNat).es.length:=by omega
       conv=>whnf
       refine⟨(L,Q,Sh.op pre),⟨hm.fin hke,trivial,by dsimp only;omega⟩,hme,?_⟩
       (refine Weak.of [0,1,2] [] rfl rfl ?_ ?_<;>(repeat' first|exact zT|refine zA ?_ ?_)<;>(conv=>whnf)<;>(repeat'(exact rfl))<;>((first|exact Or.inr ⟨rfl,rfl⟩|exact Or.inr ⟨rfl,Ck.contL_map (fun _=>rfl) _⟩)))
    |cons d2 Q=>
     have hle:(0:Int)≤0∧(0:Int)<((d::d2::Q).length:Nat):=⟨Int.le_refl _,by simp only[List.length_cons,List.length_nil];omega⟩
     have hat:at_ 0 (pre++(d::d2::Q)) pre.length=d:=by unfold at_;simp
     have hjl:pre.length<(pre++(d::d2::Q)).length:=by simp
     have hdn:0≤d∧d<v.rs.length:=by omega
     (conv=>whnf);repeat(first|refine KIf.t rfl ?_|refine Need.mk ?_ ?_;(first|trivial|omega)|refine KIf.t (decide_eq_true hle.2) ?_|refine RK.of (Ck.loadMx ib 0 d hat rfl rfl rfl hjl) ?_);conv=>whnf
     have hcq:(d2::Q).length+1+cntF L≤v.rs.length∧2*cntF L+(d2::Q).length<2*cntF L+(d::d2::Q).length:=by simp only[List.length_cons,List.length_nil] at hcn⊢;omega
     have hel:=hes _ (at_mem Rc.o v.rs d.toNat (by omega))
     refine WLoop.inv kmix (D:=List Bool×List Int×List Int×Nat) (fun m=>(at_ Rc.o v.rs d.toNat).es.length-m.2.2.2) (fun m=>Mid v d.toNat m.2.2.2 m.1 m.2.1∧okI (.op m.2.2.1) m.2.1∧m.2.2.2≤(at_ Rc.o v.rs d.toNat).es.length∧m.2.1.length+1+cntF m.1≤v.rs.length∧2*cntF m.1+m.2.1.length<2*cntF L+(d::d2::Q).length)
      (fun m=>slots [(1, .ptr 0 0),(3, .sl 1 0 v.rs.length v.rs.length),(4,qv (.op m.2.2.1) m.2.1),(5,ib d),(30,LS 4 aEn En.o (at_ Rc.o v.rs d.toNat).es),(31,ib (at_ Rc.o v.rs d.toNat).es.length),(32,ib m.2.2.2)] 68)
      (fun m=>zaj [.row (aPt v) 26 0, .row (m.1.map bb) 4 0,qr (.op m.2.2.1) m.2.1]) (L,(d2::Q),pre++[d],0) ⟨hmid,trivial,Nat.zero_le _,hcq.1,hcq.2⟩ ?_ ?_
     ·(refine Weak.of [0,1,2] [] rfl rfl ?_ ?_<;>(repeat' first|exact zT|refine zA ?_ ?_)<;>(conv=>whnf)<;>(repeat'(exact rfl))<;>(first|(intro _ _;rfl)|(first|exact Or.inr ⟨by simp,contL_map (enc:=ib) (fun _=>rfl) _⟩|(first|exact Or.inr ⟨rfl,rfl⟩|exact Or.inr ⟨rfl,Ck.contL_map (fun _=>rfl) _⟩)|(simp;done))))
     ·clear hmid hcq hcn hat hjl hle;rintro⟨L,Q,pre,k⟩ ⟨hm,hs,hk,hcn,hme⟩;dsimp only at hm hs hk hcn hme⊢;have hLl:=hm.m.len
      conv=>whnf
      refine KIf.dec (fun h=> ?_) (fun h=> ?_)
      ·have hlt:k<(at_ Rc.o v.rs d.toNat).es.length:=by omega
       obtain⟨x,hx⟩:∃x,x=(at_ En.o (at_ Rc.o v.rs d.toNat).es k):=⟨_,rfl⟩
       by_cases hr:right v x.f=true
       ·have hrl:=zb7 hr
        have hri:0≤x.f.r∧x.f.r<v.rs.length:=by omega
        have hoff:0+x.f.r.toNat*1=x.f.r.toNat:=by omega
        have hj:x.f.r.toNat<L.length:=by omega
        have hset:=fun hn=>hm.set hx hlt hr hn
        have hskip:=fun hn:at_ false L x.f.r.toNat=true=>hm.skip (by rw[←hx];exact fun _=>hn)
        rw[hx] at hr hri hoff hj hset hskip;cases hmk:at_ false L (at_ En.o (at_ Rc.o v.rs d.toNat).es k).f.r.toNat
        ·have hm2:=hset hmk;have hcs:=zbJ L _ hj hmk;clear hset hskip;cases hd:dir (at_ Rc.o v.rs (at_ En.o (at_ Rc.o v.rs d.toNat).es k).f.r.toNat)
         ·rw[hd] at hm2
          (conv=>whnf);repeat(first|refine KIf.f ?_ ?_;assumption|refine KIf.t rfl ?_|refine Need.mk ?_ ?_;(first|trivial|omega|(constructor<;>omega))|refine KCall.pure (zaV v _ h1 hr) ?_|refine RK.of (Ck.loadMx bb false false hmk hoff rfl rfl hj) ?_|refine Ck.storeM bb true rfl hoff rfl rfl rfl rfl rfl hj ?_|refine KCall.pure (zav (at_ Rc.o v.rs (at_ En.o (at_ Rc.o v.rs d.toNat).es k).f.r.toNat)) ?_);conv=>whnf
          refine⟨(L.set (at_ En.o (at_ Rc.o v.rs d.toNat).es k).f.r.toNat true,Q,pre,k+1),⟨hm2,trivial,hlt,by dsimp only;omega,by dsimp only at hme⊢;omega⟩,by dsimp only;omega,?_⟩
          (refine Weak.of [0,1,2] [] rfl rfl ?_ ?_<;>(repeat' first|exact zT|refine zA ?_ ?_)<;>(conv=>whnf)<;>(repeat'(exact rfl))<;>(first|(intro _ _;rfl)|(first|exact Or.inr ⟨rfl,rfl⟩|exact Or.inr ⟨rfl,Ck.contL_map (fun _=>rfl) _⟩)))
         ·rw[hd,if_pos rfl] at hm2
          (conv=>whnf);repeat(first|refine NCase.s (Nat.succ_ne_zero _) ?_|refine KIf.t ?_ ?_;assumption|refine KIf.t rfl ?_|refine Need.mk ?_ ?_;(first|trivial|omega|(constructor<;>omega))|refine KCall.pure (zaV v _ h1 hr) ?_|refine RK.of (Ck.loadMx bb false false hmk hoff rfl rfl hj) ?_|refine Ck.storeM bb true rfl hoff rfl rfl rfl rfl rfl hj ?_|refine KCall.pure (zav (at_ Rc.o v.rs (at_ En.o (at_ Rc.o v.rs d.toNat).es k).f.r.toNat)) ?_|refine Need.mk ?_ ?_;exact(by simp));conv=>whnf
          refine⟨(L.set (at_ En.o (at_ Rc.o v.rs d.toNat).es k).f.r.toNat true,Q++[(at_ En.o (at_ Rc.o v.rs d.toNat).es k).f.r],[],k+1),⟨hm2,trivial,hlt,by simp only[List.length_append,List.length_cons,List.length_nil] at hcn⊢;omega,by simp only[List.length_append,List.length_cons,List.length_nil] at hme⊢;omega⟩,by dsimp only;omega,?_⟩
          (refine Weak.of [0,1,6] [] rfl rfl ?_ ?_<;>(repeat' first|exact zT|refine zA ?_ ?_)<;>(conv=>whnf)<;>(repeat'(exact rfl))<;>(first|(intro _ _;rfl)|(first|exact zdd (zfd ib _ _ _) (contL_map (enc:=ib) (fun _=>rfl) _)|(first|exact Or.inr ⟨rfl,rfl⟩|exact Or.inr ⟨rfl,Ck.contL_map (fun _=>rfl) _⟩)|(simp;done))))
        ·have hm2:=hskip hmk;clear hset hskip
         (conv=>whnf);repeat(first|refine KIf.t rfl ?_|refine KIf.f rfl ?_|refine Need.mk ?_ ?_;(first|trivial|omega|(constructor<;>omega))|refine KCall.pure (zaV v _ h1 hr) ?_|refine RK.of (Ck.loadMx bb false true hmk hoff rfl rfl hj) ?_);conv=>whnf
         refine⟨(L,Q,pre,k+1),⟨hm2,trivial,hlt,hcn,hme⟩,by dsimp only;omega,?_⟩
         (refine Weak.of [0,1,2] [] rfl rfl ?_ ?_<;>(repeat' first|exact zT|refine zA ?_ ?_)<;>(conv=>whnf)<;>(repeat'(exact rfl))<;>(first|(intro _ _;rfl)|(first|exact Or.inr ⟨rfl,rfl⟩|exact Or.inr ⟨rfl,Ck.contL_map (fun _=>rfl) _⟩)))
       ·have hr':right v x.f=false:=by simpa using hr
        have hm2:=hm.skip (by rw[←hx];exact fun h=>absurd h hr);rw[hx] at hr'
        (conv=>whnf);repeat(first|refine KIf.f rfl ?_|refine Need.mk ?_ ?_;(first|omega|(constructor<;>omega))|refine KCall.pure (zdm v _ h1 hr') ?_);conv=>whnf
        refine⟨(L,Q,pre,k+1),⟨hm2,trivial,hlt,hcn,hme⟩,by dsimp only;omega,?_⟩
        (refine Weak.of [0,1,2] [] rfl rfl ?_ ?_<;>(repeat' first|exact zT|refine zA ?_ ?_)<;>(conv=>whnf)<;>(repeat'(exact rfl))<;>(first|(intro _ _;rfl)|(first|exact Or.inr ⟨rfl,rfl⟩|exact Or.inr ⟨rfl,Ck.contL_map (fun _=>rfl) _⟩)))
      ·have hke:k=(at_ Rc.o v.rs d.toNat).es.length:=by omega
       conv=>whnf
       refine⟨(L,Q,Sh.op pre),⟨hm.fin hke,trivial,by dsimp only;omega⟩,hme,?_⟩
       (refine Weak.of [0,1,2] [] rfl rfl ?_ ?_<;>(repeat' first|exact zT|refine zA ?_ ?_)<;>(conv=>whnf)<;>(repeat'(exact rfl))<;>((first|exact Or.inr ⟨rfl,rfl⟩|exact Or.inr ⟨rfl,Ck.contL_map (fun _=>rfl) _⟩)))
set_option maxHeartbeats 400000
theorem zcv {n:Nat} {f:Nat→List AV} (h:n=0):(List.range n).flatMap f=[]:=by subst h;rfl
theorem zby {s s':St} {b off:Nat} {cs:List AV} (h:cs=[]) (h2:zcd s b off []= .ok s'):zcd s b off cs= .ok s':=by subst h;exact h2
theorem zbS {α:Type} {enc:α→List AV} (he:∀x,cont.contL (enc x)=true) (l:List α):cont.contL (l.flatMap enc)=true:=zas he l
set_option maxHeartbeats 4000000
theorem rOwn_k (v:Pt) (i:Int) (hn:v.rs.length≤100000):PureC Tryz.prog 73 [aPts v,ib i] (bb (wi i 0 (v.rs.length-1)&&Ck.own (Ck.rc v i))):=by
 refine PureC.of kmix rfl ?_;cases h:wi i 0 (v.rs.length-1)
 ·(conv=>whnf);repeat(first|refine KIf.f ?_ ?_;assumption|refine KIf.f rfl ?_|refine Need.mk ?_ ?_;((constructor<;>omega))|refine KCall.pure (zaR _ _ _) ?_);conv=>whnf
  (refine .z [] ?_;conv=>whnf);(repeat'(exact rfl))<;>(try(conv=>whnf))
 ·have h2:0≤i∧i<v.rs.length:=by simp[wi] at h;omega
  unfold Ck.own;cases hu:(Ck.rc v i).u
  ·have hu':(at_ Rc.o v.rs i.toNat).u=false:=hu
   (conv=>whnf);repeat(first|refine KIf.t ?_ ?_;assumption|refine KIf.f ?_ ?_;assumption|refine Need.mk ?_ ?_;(first|trivial|(constructor<;>omega))|refine KCall.pure (zaR _ _ _) ?_);conv=>whnf
   (refine .z [] ?_;conv=>whnf);(repeat'(exact rfl))<;>(try(conv=>whnf))
  ·have hu':(at_ Rc.o v.rs i.toNat).u=true:=hu
   (conv=>whnf);repeat(first|refine KIf.t ?_ ?_;assumption|refine Need.mk ?_ ?_;(first|trivial|(constructor<;>omega))|refine KCall.pure (zaR _ _ _) ?_);conv=>whnf
   (refine .z [] ?_;conv=>whnf);(repeat'(exact rfl))<;>(try(conv=>whnf))
theorem zcS (l:List Run) (hl:l.length≤100000):PureC Tryz.prog 48 [LS 2 aRun Run.o l] (LS 2 aRun Run.o l):=by
 refine PureC.of kmix rfl ?_;by_cases h0:l.length=0
 ·obtain rfl:l=[]:=List.eq_nil_of_length_eq_zero h0
  (conv=>whnf);repeat(first|refine KIf.t rfl ?_|refine Need.mk ?_ ?_;trivial);conv=>whnf
  refine .z [0] ?_;exact Wz.ownS rfl (by simp) rfl (Nat.le_refl _) (fun i hi=>absurd hi (Nat.not_lt_zero _)) rfl (fun i hi=>absurd hi (Nat.not_lt_zero _))
 ·have hb:Nat.ble (0+l.length) 0=false:=by cases h:Nat.ble (0+l.length) 0 with|false=>rfl|true=>have:=Nat.le_of_ble_eq_true h;omega
  (conv=>whnf);repeat(first|refine KIf.f ?_ ?_;assumption|refine Need.mk ?_ ?_;omega|refine Need.mk (fun _ _=>rfl) ?_);conv=>whnf
  refine .z [1] ?_;exact Wz.list (fun _=>rfl) (fun _=>rfl) rfl (by simp) (Nat.zero_add _) (by exact zaK aRun Run.o l)
theorem CopyInts_k (l:List Int) (hl:l.length≤100000):PureC Tryz.prog 49 [LS 1 aI 0 l] (LS 1 aI 0 l):=by
 refine PureC.of kmix rfl ?_;by_cases h0:l.length=0
 ·obtain rfl:l=[]:=List.eq_nil_of_length_eq_zero h0
  (conv=>whnf);repeat(first|refine KIf.t rfl ?_|refine Need.mk ?_ ?_;trivial);conv=>whnf
  refine .z [0] ?_;exact Wz.ownS rfl (by simp) rfl (Nat.le_refl _) (fun i hi=>absurd hi (Nat.not_lt_zero _)) rfl (fun i hi=>absurd hi (Nat.not_lt_zero _))
 ·have hb:Nat.ble (0+l.length) 0=false:=by cases h:Nat.ble (0+l.length) 0 with|false=>rfl|true=>have:=Nat.le_of_ble_eq_true h;omega
  (conv=>whnf);repeat(first|refine KIf.f ?_ ?_;assumption|refine Need.mk ?_ ?_;omega|refine Need.mk (fun _ _=>rfl) ?_);conv=>whnf
  refine .z [1] ?_;exact Wz.list (fun _=>rfl) (fun _=>rfl) rfl (by simp) (Nat.zero_add _) (by exact zaK aI 0 l)
structure Fit' (v:Pt):Prop where
 al:v.al.length≤100000
 rs:v.rs.length≤100000
 ds:v.ds.length≤100000
 ns:∀x∈v.rs,x.ns.length≤100000
 ss:∀x∈v.rs,x.ss.length≤100000
 es:∀x∈v.rs,x.es.length≤100000
 rr:∀x∈v.rs,∀y∈x.ss,y.r.length≤100000
theorem zlQ (v:Pt) (hf:Fit' v):PureC Tryz.prog 13 [aPts v] (aPts v):=by
 refine PureC.of kmix rfl ?_;have h1:=hf.al;have h2:=hf.rs;have h3:=hf.ds
 (conv=>whnf);repeat(first|refine KCall.pure (zcS v.al hf.al) ?_|refine KCall.pure (CopyInts_k v.ds hf.ds) ?_);conv=>whnf
 refine WLoop.inv kmix (D:=Nat) (fun d=>v.rs.length-d) (fun d=>d≤v.rs.length)
  (fun d=>slots [(1, .ptr 0 0),(2, .ptr 1 0),(3, .ptr 2 0),(4,ib d)] 79)
  (fun d=>zaj (match d with
   |0=>[.row (aPt v) 26 0, .row [ib 0, .sc (.slice none 0 0), .sc (.slice none 0 0), .sc (.slice none 0 0),tb []] 26 0, .row [ib v.c,LS 2 aRun Run.o v.al, .sc (.slice none 0 0),LS 1 aI 0 v.ds,tb v.mp] 26 0]
   |k+1=>[.row (aPt v) 26 0, .row [ib 0, .sc (.slice none 0 0), .sc (.slice none 0 0), .sc (.slice none 0 0),tb []] 26 0, .row [ib v.c,LS 2 aRun Run.o v.al, .so 3 0 (k+1) 0,LS 1 aI 0 v.ds,tb v.mp] 26 0, .row ((v.rs.take (k+1)).flatMap aRc) 66 10])) 0 (Nat.zero_le _) ?_ ?_
 ·(refine Weak.of [0,1,2] [] rfl rfl ?_ ?_<;>(repeat' first|exact zT|refine zA ?_ ?_)<;>(conv=>whnf)<;>(repeat'(exact rfl))<;>((exact Or.inr ⟨rfl,rfl⟩)))
 ·intro d hd
  cases d with
   |zero=>
    conv=>whnf
    refine KIf.dec (fun h=> ?_) (fun h=> ?_)
    ·have hlt:0<v.rs.length:=by omega
     have hm:(at_ Rc.o v.rs 0)∈v.rs:=at_mem Rc.o v.rs 0 hlt;have h4:=hf.ns _ hm;have h5:=hf.es _ hm;have h6:=hf.ss _ hm;have e0:(↑(0:Nat):Int).toNat=0:=rfl;by_cases hn:(at_ Rc.o v.rs 0).ns.length=0<;>by_cases he:(at_ Rc.o v.rs 0).es.length=0;have hb:(at_ Rc.o v.rs 0).ns=[]:=List.eq_nil_of_length_eq_zero hn
     have hc:Nat.ble (0+(at_ Rc.o v.rs 0).ns.length) 0=true:=by rw[hb];rfl
     have hb2:(at_ Rc.o v.rs 0).es=[]:=List.eq_nil_of_length_eq_zero he
     have hc2:Nat.ble (0+(at_ Rc.o v.rs 0).es.length) 0=true:=by rw[hb2];rfl
     (conv=>whnf);repeat(first|refine KIf.t ?_ ?_;assumption|refine Need.mk ?_ ?_;(first|trivial|(simp only[Int.toNat_natCast];(omega)))|refine RK.of (zby (zcv hn) rfl) ?_|refine RK.of (zby (zcv he) rfl) ?_);conv=>whnf
     rotate_left
     have hb:(at_ Rc.o v.rs 0).ns=[]:=List.eq_nil_of_length_eq_zero hn
     have hc:Nat.ble (0+(at_ Rc.o v.rs 0).ns.length) 0=true:=by rw[hb];rfl
     have hb2:Nat.ble (0+(at_ Rc.o v.rs 0).es.length) 0=false:=by cases h:Nat.ble (0+(at_ Rc.o v.rs 0).es.length) 0 with|false=>rfl|true=>have:=Nat.le_of_ble_eq_true h;omega
     (conv=>whnf);repeat(first|refine KIf.t ?_ ?_;assumption|refine KIf.f ?_ ?_;assumption|refine Need.mk ?_ ?_;(first|trivial|(simp only[Int.toNat_natCast];(omega)))|refine Need.mk (fun _ _=>rfl) ?_|refine RK.of (zby (zcv hn) rfl) ?_);conv=>whnf
     rotate_left
     have hb:Nat.ble (0+(at_ Rc.o v.rs 0).ns.length) 0=false:=by cases h:Nat.ble (0+(at_ Rc.o v.rs 0).ns.length) 0 with|false=>rfl|true=>have:=Nat.le_of_ble_eq_true h;omega
     have hb2:(at_ Rc.o v.rs 0).es=[]:=List.eq_nil_of_length_eq_zero he
     have hc2:Nat.ble (0+(at_ Rc.o v.rs 0).es.length) 0=true:=by rw[hb2];rfl
     (conv=>whnf);repeat(first|refine KIf.t ?_ ?_;assumption|refine KIf.f ?_ ?_;assumption|refine Need.mk ?_ ?_;(first|trivial|(simp only[Int.toNat_natCast];(omega)))|refine Need.mk (fun _ _=>rfl) ?_|refine RK.of (zby (zcv he) rfl) ?_);conv=>whnf
     rotate_left
     have hb:Nat.ble (0+(at_ Rc.o v.rs 0).ns.length) 0=false:=by cases h:Nat.ble (0+(at_ Rc.o v.rs 0).ns.length) 0 with|false=>rfl|true=>have:=Nat.le_of_ble_eq_true h;omega
     have hb2:Nat.ble (0+(at_ Rc.o v.rs 0).es.length) 0=false:=by cases h:Nat.ble (0+(at_ Rc.o v.rs 0).es.length) 0 with|false=>rfl|true=>have:=Nat.le_of_ble_eq_true h;omega
     (conv=>whnf);repeat(first|refine KIf.f ?_ ?_;assumption|refine Need.mk ?_ ?_;(first|trivial|(simp only[Int.toNat_natCast];(omega)))|refine Need.mk (fun _ _=>rfl) ?_);conv=>whnf
     rotate_left
     all_goals
      refine WLoop.inv kmix (D:=Nat) (fun m=>(at_ Rc.o v.rs 0).ss.length-m) (fun m=>m≤(at_ Rc.o v.rs 0).ss.length)
       (fun m=>slots [(1, .ptr 0 0),(2, .ptr 1 0),(3, .ptr 2 0),(4,ib (0:Nat)),(5, .ptr 3 0),(6,ib m)] 79)
       (fun m=>zaj (match m with
        |0=>[.row (aPt v) 26 0, .row [ib 0, .sc (.slice none 0 0), .sc (.slice none 0 0), .sc (.slice none 0 0),tb []] 26 0, .row [ib v.c,LS 2 aRun Run.o v.al, .sc (.slice none 0 0),LS 1 aI 0 v.ds,tb v.mp] 26 0, .row [bb (at_ Rc.o v.rs 0).u,ib (at_ Rc.o v.rs 0).q,ib (at_ Rc.o v.rs 0).k,ib (at_ Rc.o v.rs 0).b.r,ib (at_ Rc.o v.rs 0).b.q,ib (at_ Rc.o v.rs 0).ln,ib (at_ Rc.o v.rs 0).ds,LS 3 aNm Nm.o (at_ Rc.o v.rs 0).ns, .sc (.slice none 0 0),LS 4 aEn En.o (at_ Rc.o v.rs 0).es] 66 0]
        |m+1=>[.row (aPt v) 26 0, .row [ib 0, .sc (.slice none 0 0), .sc (.slice none 0 0), .sc (.slice none 0 0),tb []] 26 0, .row [ib v.c,LS 2 aRun Run.o v.al, .sc (.slice none 0 0),LS 1 aI 0 v.ds,tb v.mp] 26 0, .row [bb (at_ Rc.o v.rs 0).u,ib (at_ Rc.o v.rs 0).q,ib (at_ Rc.o v.rs 0).k,ib (at_ Rc.o v.rs 0).b.r,ib (at_ Rc.o v.rs 0).b.q,ib (at_ Rc.o v.rs 0).ln,ib (at_ Rc.o v.rs 0).ds,LS 3 aNm Nm.o (at_ Rc.o v.rs 0).ns, .so 4 0 (m+1) 0,LS 4 aEn En.o (at_ Rc.o v.rs 0).es] 66 0, .row (((at_ Rc.o v.rs 0).ss.take (m+1)).flatMap aSm) 80 2])) 0 (Nat.zero_le _) ?_ ?_
     ·refine Weak.of [0,1,2,3] [4,5] rfl rfl ?_ ?_
      ·(repeat' first|exact zT|refine zA ?_ ?_)<;>(first|exact rfl|(first|exact Or.inr ⟨rfl,rfl⟩|(refine Or.inl ⟨rfl,?_⟩;(repeat' first|exact zT|exact(by first|exact Wv.mt hb (Nat.zero_add _) rfl (by simp)|exact Wv.mt hb2 (Nat.zero_add _) rfl (by simp))|exact rfl|refine zA ?_ ?_)<;>(try(conv=>whnf)))))
      ·(repeat' first|exact zT|exact rfl|refine zA ?_ ?_)<;>(try(conv=>whnf))
     rotate_left
     ·refine Weak.of [0,1,2,3] [4,6] rfl rfl ?_ ?_
      ·(repeat' first|exact zT|refine zA ?_ ?_)<;>(first|exact rfl|(first|exact Or.inr ⟨rfl,rfl⟩|(refine Or.inl ⟨rfl,?_⟩;(repeat' first|exact zT|exact(by first|exact Wv.list (fun _=>rfl) (fun _=>rfl) rfl (by simp) (Nat.zero_add _) (zaK _ _ _)|exact Wv.mt hb (Nat.zero_add _) rfl (by simp))|exact rfl|refine zA ?_ ?_)<;>(try(conv=>whnf)))))
      ·(repeat' first|exact zT|exact rfl|refine zA ?_ ?_)<;>(try(conv=>whnf))
     rotate_left
     ·refine Weak.of [0,1,2,3] [5,6] rfl rfl ?_ ?_
      ·(repeat' first|exact zT|refine zA ?_ ?_)<;>(first|exact rfl|(first|exact Or.inr ⟨rfl,rfl⟩|(refine Or.inl ⟨rfl,?_⟩;(repeat' first|exact zT|exact(by first|exact Wv.list (fun _=>rfl) (fun _=>rfl) rfl (by simp) (Nat.zero_add _) (zaK _ _ _)|exact Wv.mt hb2 (Nat.zero_add _) rfl (by simp))|exact rfl|refine zA ?_ ?_)<;>(try(conv=>whnf)))))
      ·(repeat' first|exact zT|exact rfl|refine zA ?_ ?_)<;>(try(conv=>whnf))
     rotate_left
     ·refine Weak.of [0,1,2,3] [5,7] rfl rfl ?_ ?_
      ·(repeat' first|exact zT|refine zA ?_ ?_)<;>(first|exact rfl|(first|exact Or.inr ⟨rfl,rfl⟩|(refine Or.inl ⟨rfl,?_⟩;(repeat' first|exact zT|exact(by(exact Wv.list (fun _=>rfl) (fun _=>rfl) rfl (by simp) (Nat.zero_add _) (zaK _ _ _)))|exact rfl|refine zA ?_ ?_)<;>(try(conv=>whnf)))))
      ·(repeat' first|exact zT|exact rfl|refine zA ?_ ?_)<;>(try(conv=>whnf))
     rotate_left
     all_goals
      clear hn he hb hb2;intro m hm2
      cases m with
      |zero=>
       (conv=>whnf);repeat((refine Need.mk ?_ ?_;trivial;conv=>whnf))
       refine KIf.dec (fun hm3=> ?_) (fun hm3=> ?_)
       ·have hm4:0<(at_ Rc.o v.rs 0).ss.length:=by simp only[Int.toNat_natCast] at hm3;omega
        have h7:=hf.rr _ hm _ (at_mem Sm.o _ 0 hm4)
        (conv=>whnf);repeat(first|refine NCase.s (Nat.succ_ne_zero _) ?_|refine Need.mk (p:=zah _=true) ?_ ?_;decide+kernel|refine Need.mk ?_ ?_;trivial|refine DCall.pure (zcS _ h7) ?_);conv=>whnf
        refine⟨1,by omega,by dsimp only;omega,?_⟩;refine Weak.of [0,1,2,3,6] [] rfl rfl ?_ ?_
        ·(repeat' first|exact zT|refine zA ?_ ?_)<;>(first|exact rfl|exact WRow.snoc (l:=[]) (x:=aSm (at_ Sm.o (at_ Rc.o v.rs 0).ss 0)) (zcU aSm Sm.o (at_ Rc.o v.rs 0).ss 0 hm4) rfl rfl (zbv rfl)|(first|exact Or.inr ⟨rfl,rfl⟩|(refine Or.inl ⟨rfl,?_⟩;(repeat' first|exact zT|exact rfl|refine zA ?_ ?_)<;>(try(conv=>whnf))<;>((intro _ _;rfl)))))
        ·(repeat' first|exact zT|exact rfl|refine zA ?_ ?_)<;>(try(conv=>whnf))
       ·have hm4:0=(at_ Rc.o v.rs 0).ss.length:=by simp only[Int.toNat_natCast] at hm3;omega
        (conv=>whnf);repeat(first|refine NCase.s (Nat.succ_ne_zero _) ?_|refine Need.mk ?_ ?_;trivial);conv=>whnf
        refine⟨1,hlt,by dsimp only;omega,?_⟩;refine Weak.of [0,1,2,5] [] rfl rfl ?_ ?_
        ·(repeat' first|exact zT|refine zA ?_ ?_)<;>(first|exact rfl|exact WRow.snoc (l:=[]) (x:=aRc (at_ Rc.o v.rs 0)) (zcU aRc Rc.o v.rs 0 hlt) rfl rfl (by(repeat' first|exact zT|exact zc3 rfl|exact Wv.nil (List.eq_nil_of_length_eq_zero hm4.symm)|refine zA ?_ ?_))|(first|exact Or.inr ⟨rfl,rfl⟩|(refine Or.inl ⟨rfl,?_⟩;(repeat' first|exact zT|exact rfl|refine zA ?_ ?_)<;>(try(conv=>whnf))<;>((intro _ _;rfl)))))
        ·(repeat' first|exact zT|exact rfl|refine zA ?_ ?_)<;>(try(conv=>whnf))
      |succ m=>
       (conv=>whnf);repeat((refine Need.mk ?_ ?_;trivial;conv=>whnf))
       refine KIf.dec (fun hm3=> ?_) (fun hm3=> ?_)
       ·have hm4:(m+1)<(at_ Rc.o v.rs 0).ss.length:=by simp only[Int.toNat_natCast] at hm3;omega
        have h7:=hf.rr _ hm _ (at_mem Sm.o _ (m+1) hm4)
        (conv=>whnf);repeat(first|refine NCase.s (Nat.succ_ne_zero _) ?_|refine Need.mk (p:=zah _=true) ?_ ?_;decide+kernel|refine Need.mk ?_ ?_;(first|trivial|omega|(constructor<;>omega))|refine DCall.pure (zcS _ h7) ?_|refine Need.mk ?_ ?_;exact Ex.take_len (enc:=aSm) (sz:=2) (fun _=>rfl) hm2);conv=>whnf
        refine⟨m+2,by omega,by dsimp only;omega,?_⟩;refine Weak.of [0,1,2,3,7] [] rfl rfl ?_ ?_
        ·(repeat' first|exact zT|refine zA ?_ ?_)<;>(first|exact rfl|exact WRow.snoc (x:=aSm (at_ Sm.o (at_ Rc.o v.rs 0).ss (m+1))) (zcU aSm Sm.o (at_ Rc.o v.rs 0).ss (m+1) hm4) (zbS (fun _=>rfl) _) rfl (zbv rfl)|(first|exact Or.inr ⟨rfl,rfl⟩|(refine Or.inl ⟨rfl,?_⟩;(repeat' first|exact zT|exact rfl|refine zA ?_ ?_)<;>(try(conv=>whnf))<;>((intro _ _;rfl)))))
        ·(repeat' first|exact zT|exact rfl|refine zA ?_ ?_)<;>(try(conv=>whnf))
       ·have hm4:(m+1)=(at_ Rc.o v.rs 0).ss.length:=by simp only[Int.toNat_natCast] at hm3;omega
        (conv=>whnf);repeat(first|refine NCase.s (Nat.succ_ne_zero _) ?_|refine Need.mk ?_ ?_;trivial);conv=>whnf
        refine⟨1,hlt,by dsimp only;omega,?_⟩;refine Weak.of [0,1,2,6] [4] rfl rfl ?_ ?_
        ·(repeat' first|exact zT|refine zA ?_ ?_)<;>(first|exact rfl|exact WRow.snoc (l:=[]) (x:=aRc (at_ Rc.o v.rs 0)) (zcU aRc Rc.o v.rs 0 hlt) rfl rfl (by(repeat' first|exact zT|exact zc3 rfl|exact Wv.list (fun _=>rfl) (fun _=>rfl) rfl (by simp) hm4 (by rw[hm4,List.take_length])|refine zA ?_ ?_))|(first|exact Or.inr ⟨rfl,rfl⟩|(refine Or.inl ⟨rfl,?_⟩;(repeat' first|exact zT|exact rfl|refine zA ?_ ?_)<;>(try(conv=>whnf))<;>((intro _ _;rfl)))))
        ·(repeat' first|exact zT|exact rfl|refine zA ?_ ?_)<;>(try(conv=>whnf))
    ·have hk:0=v.rs.length:=by omega
     conv=>whnf
     refine .z [] ?_
     conv=>whnf
     refine⟨⟨rfl,rfl⟩,zaa rfl,?_,zaa rfl,rfl,trivial⟩;exact Wz.nil (List.eq_nil_of_length_eq_zero hk.symm)
   |succ k=>
    conv=>whnf
    refine KIf.dec (fun h=> ?_) (fun h=> ?_)
    ·have hlt:(k+1)<v.rs.length:=by omega
     have hm:(at_ Rc.o v.rs (k+1))∈v.rs:=at_mem Rc.o v.rs (k+1) hlt;have h4:=hf.ns _ hm;have h5:=hf.es _ hm;have h6:=hf.ss _ hm;have e0:(↑(k+1):Int).toNat=(k+1):=rfl;by_cases hn:(at_ Rc.o v.rs (k+1)).ns.length=0<;>by_cases he:(at_ Rc.o v.rs (k+1)).es.length=0;have hb:(at_ Rc.o v.rs (k+1)).ns=[]:=List.eq_nil_of_length_eq_zero hn
     have hc:Nat.ble (0+(at_ Rc.o v.rs (k+1)).ns.length) 0=true:=by rw[hb];rfl
     have hb2:(at_ Rc.o v.rs (k+1)).es=[]:=List.eq_nil_of_length_eq_zero he
     have hc2:Nat.ble (0+(at_ Rc.o v.rs (k+1)).es.length) 0=true:=by rw[hb2];rfl
     (conv=>whnf);repeat(first|refine KIf.t ?_ ?_;assumption|refine Need.mk ?_ ?_;(first|omega|(simp only[Int.toNat_natCast];(omega)))|refine RK.of (zby (zcv hn) rfl) ?_|refine RK.of (zby (zcv he) rfl) ?_);conv=>whnf
     rotate_left
     have hb:(at_ Rc.o v.rs (k+1)).ns=[]:=List.eq_nil_of_length_eq_zero hn
     have hc:Nat.ble (0+(at_ Rc.o v.rs (k+1)).ns.length) 0=true:=by rw[hb];rfl
     have hb2:Nat.ble (0+(at_ Rc.o v.rs (k+1)).es.length) 0=false:=by cases h:Nat.ble (0+(at_ Rc.o v.rs (k+1)).es.length) 0 with|false=>rfl|true=>have:=Nat.le_of_ble_eq_true h;omega
     (conv=>whnf);repeat(first|refine KIf.t ?_ ?_;assumption|refine KIf.f ?_ ?_;assumption|refine Need.mk ?_ ?_;(first|omega|(simp only[Int.toNat_natCast];(omega)))|refine Need.mk (fun _ _=>rfl) ?_|refine RK.of (zby (zcv hn) rfl) ?_);conv=>whnf
     rotate_left
     have hb:Nat.ble (0+(at_ Rc.o v.rs (k+1)).ns.length) 0=false:=by cases h:Nat.ble (0+(at_ Rc.o v.rs (k+1)).ns.length) 0 with|false=>rfl|true=>have:=Nat.le_of_ble_eq_true h;omega
     have hb2:(at_ Rc.o v.rs (k+1)).es=[]:=List.eq_nil_of_length_eq_zero he
     have hc2:Nat.ble (0+(at_ Rc.o v.rs (k+1)).es.length) 0=true:=by rw[hb2];rfl
     (conv=>whnf);repeat(first|refine KIf.t ?_ ?_;assumption|refine KIf.f ?_ ?_;assumption|refine Need.mk ?_ ?_;(first|omega|(simp only[Int.toNat_natCast];(omega)))|refine Need.mk (fun _ _=>rfl) ?_|refine RK.of (zby (zcv he) rfl) ?_);conv=>whnf
     rotate_left
     have hb:Nat.ble (0+(at_ Rc.o v.rs (k+1)).ns.length) 0=false:=by cases h:Nat.ble (0+(at_ Rc.o v.rs (k+1)).ns.length) 0 with|false=>rfl|true=>have:=Nat.le_of_ble_eq_true h;omega
     have hb2:Nat.ble (0+(at_ Rc.o v.rs (k+1)).es.length) 0=false:=by cases h:Nat.ble (0+(at_ Rc.o v.rs (k+1)).es.length) 0 with|false=>rfl|true=>have:=Nat.le_of_ble_eq_true h;omega
     (conv=>whnf);repeat(first|refine KIf.f ?_ ?_;assumption|refine Need.mk ?_ ?_;(first|omega|(simp only[Int.toNat_natCast];(omega)))|refine Need.mk (fun _ _=>rfl) ?_);conv=>whnf
     rotate_left
     all_goals
      refine WLoop.inv kmix (D:=Nat) (fun m=>(at_ Rc.o v.rs (k+1)).ss.length-m) (fun m=>m≤(at_ Rc.o v.rs (k+1)).ss.length)
       (fun m=>slots [(1, .ptr 0 0),(2, .ptr 1 0),(3, .ptr 2 0),(4,ib (k+1:Nat)),(5, .ptr 4 0),(6,ib m)] 79)
       (fun m=>zaj (match m with
        |0=>[.row (aPt v) 26 0, .row [ib 0, .sc (.slice none 0 0), .sc (.slice none 0 0), .sc (.slice none 0 0),tb []] 26 0, .row [ib v.c,LS 2 aRun Run.o v.al, .so 3 0 (k+1) 0,LS 1 aI 0 v.ds,tb v.mp] 26 0, .row ((v.rs.take (k+1)).flatMap aRc) 66 10, .row [bb (at_ Rc.o v.rs (k+1)).u,ib (at_ Rc.o v.rs (k+1)).q,ib (at_ Rc.o v.rs (k+1)).k,ib (at_ Rc.o v.rs (k+1)).b.r,ib (at_ Rc.o v.rs (k+1)).b.q,ib (at_ Rc.o v.rs (k+1)).ln,ib (at_ Rc.o v.rs (k+1)).ds,LS 3 aNm Nm.o (at_ Rc.o v.rs (k+1)).ns, .sc (.slice none 0 0),LS 4 aEn En.o (at_ Rc.o v.rs (k+1)).es] 66 0]
        |m+1=>[.row (aPt v) 26 0, .row [ib 0, .sc (.slice none 0 0), .sc (.slice none 0 0), .sc (.slice none 0 0),tb []] 26 0, .row [ib v.c,LS 2 aRun Run.o v.al, .so 3 0 (k+1) 0,LS 1 aI 0 v.ds,tb v.mp] 26 0, .row ((v.rs.take (k+1)).flatMap aRc) 66 10, .row [bb (at_ Rc.o v.rs (k+1)).u,ib (at_ Rc.o v.rs (k+1)).q,ib (at_ Rc.o v.rs (k+1)).k,ib (at_ Rc.o v.rs (k+1)).b.r,ib (at_ Rc.o v.rs (k+1)).b.q,ib (at_ Rc.o v.rs (k+1)).ln,ib (at_ Rc.o v.rs (k+1)).ds,LS 3 aNm Nm.o (at_ Rc.o v.rs (k+1)).ns, .so 5 0 (m+1) 0,LS 4 aEn En.o (at_ Rc.o v.rs (k+1)).es] 66 0, .row (((at_ Rc.o v.rs (k+1)).ss.take (m+1)).flatMap aSm) 80 2])) 0 (Nat.zero_le _) ?_ ?_
     ·refine Weak.of [0,1,2,3,4] [5,6] rfl rfl ?_ ?_
      ·(repeat' first|exact zT|refine zA ?_ ?_)<;>(first|exact rfl|(first|exact Or.inr ⟨rfl,rfl⟩|exact Or.inr ⟨rfl,zas (fun _=>rfl) _⟩|(refine Or.inl ⟨rfl,?_⟩;(repeat' first|exact zT|exact(by first|exact Wv.mt hb (Nat.zero_add _) rfl (by simp)|exact Wv.mt hb2 (Nat.zero_add _) rfl (by simp))|exact rfl|refine zA ?_ ?_)<;>(try(conv=>whnf))<;>((intro _ _;rfl)))))
      ·(repeat' first|exact zT|exact rfl|refine zA ?_ ?_)<;>(try(conv=>whnf))
     rotate_left
     ·refine Weak.of [0,1,2,3,4] [5,7] rfl rfl ?_ ?_
      ·(repeat' first|exact zT|refine zA ?_ ?_)<;>(first|exact rfl|(first|exact Or.inr ⟨rfl,rfl⟩|exact Or.inr ⟨rfl,zas (fun _=>rfl) _⟩|(refine Or.inl ⟨rfl,?_⟩;(repeat' first|exact zT|exact(by first|exact Wv.list (fun _=>rfl) (fun _=>rfl) rfl (by simp) (Nat.zero_add _) (zaK _ _ _)|exact Wv.mt hb (Nat.zero_add _) rfl (by simp))|exact rfl|refine zA ?_ ?_)<;>(try(conv=>whnf))<;>((intro _ _;rfl)))))
      ·(repeat' first|exact zT|exact rfl|refine zA ?_ ?_)<;>(try(conv=>whnf))
     rotate_left
     ·refine Weak.of [0,1,2,3,4] [6,7] rfl rfl ?_ ?_
      ·(repeat' first|exact zT|refine zA ?_ ?_)<;>(first|exact rfl|(first|exact Or.inr ⟨rfl,rfl⟩|exact Or.inr ⟨rfl,zas (fun _=>rfl) _⟩|(refine Or.inl ⟨rfl,?_⟩;(repeat' first|exact zT|exact(by first|exact Wv.list (fun _=>rfl) (fun _=>rfl) rfl (by simp) (Nat.zero_add _) (zaK _ _ _)|exact Wv.mt hb2 (Nat.zero_add _) rfl (by simp))|exact rfl|refine zA ?_ ?_)<;>(try(conv=>whnf))<;>((intro _ _;rfl)))))
      ·(repeat' first|exact zT|exact rfl|refine zA ?_ ?_)<;>(try(conv=>whnf))
     rotate_left
     ·refine Weak.of [0,1,2,3,4] [6,8] rfl rfl ?_ ?_
      ·(repeat' first|exact zT|refine zA ?_ ?_)<;>(first|exact rfl|(first|exact Or.inr ⟨rfl,rfl⟩|exact Or.inr ⟨rfl,zas (fun _=>rfl) _⟩|(refine Or.inl ⟨rfl,?_⟩;(repeat' first|exact zT|exact(by(exact Wv.list (fun _=>rfl) (fun _=>rfl) rfl (by simp) (Nat.zero_add _) (zaK _ _ _)))|exact rfl|refine zA ?_ ?_)<;>(try(conv=>whnf))<;>((intro _ _;rfl)))))
      ·(repeat' first|exact zT|exact rfl|refine zA ?_ ?_)<;>(try(conv=>whnf))
     rotate_left
     all_goals
      clear hn he hb hb2;intro m hm2
      cases m with
      |zero=>
       (conv=>whnf);repeat((refine Need.mk ?_ ?_;omega;conv=>whnf))
       refine KIf.dec (fun hm3=> ?_) (fun hm3=> ?_)
       ·have hm4:0<(at_ Rc.o v.rs (k+1)).ss.length:=by simp only[Int.toNat_natCast] at hm3;omega
        have h7:=hf.rr _ hm _ (at_mem Sm.o _ 0 hm4)
        (conv=>whnf);repeat(first|refine NCase.s (Nat.succ_ne_zero _) ?_|refine Need.mk (p:=zah _=true) ?_ ?_;decide+kernel|refine Need.mk ?_ ?_;(first|trivial|omega)|refine DCall.pure (zcS _ h7) ?_);conv=>whnf
        refine⟨1,by omega,by dsimp only;omega,?_⟩;refine Weak.of [0,1,2,3,4,7] [] rfl rfl ?_ ?_
        ·(repeat' first|exact zT|refine zA ?_ ?_)<;>(first|exact rfl|exact WRow.snoc (l:=[]) (x:=aSm (at_ Sm.o (at_ Rc.o v.rs (k+1)).ss 0)) (zcU aSm Sm.o (at_ Rc.o v.rs (k+1)).ss 0 hm4) rfl rfl (zbv rfl)|exact Or.inr ⟨rfl,zbS (fun _=>rfl) _⟩|(first|exact Or.inr ⟨rfl,rfl⟩|(refine Or.inl ⟨rfl,?_⟩;(repeat' first|exact zT|exact rfl|refine zA ?_ ?_)<;>(try(conv=>whnf))<;>((intro _ _;rfl)))))
        ·(repeat' first|exact zT|exact rfl|refine zA ?_ ?_)<;>(try(conv=>whnf))
       ·have hm4:0=(at_ Rc.o v.rs (k+1)).ss.length:=by simp only[Int.toNat_natCast] at hm3;omega
        (conv=>whnf);repeat(first|refine NCase.s (Nat.succ_ne_zero _) ?_|refine Need.mk ?_ ?_;(first|trivial|omega|(constructor<;>omega))|refine Need.mk ?_ ?_;exact Ex.take_len (enc:=aRc) (sz:=10) (fun _=>rfl) hd);conv=>whnf
        refine⟨k+2,hlt,by dsimp only;omega,?_⟩;refine Weak.of [0,1,2,6] [] rfl rfl ?_ ?_
        ·(repeat' first|exact zT|refine zA ?_ ?_)<;>(first|exact rfl|exact WRow.snoc (x:=aRc (at_ Rc.o v.rs (k+1))) (zcU aRc Rc.o v.rs (k+1) hlt) (zbS (fun _=>rfl) _) rfl (by(repeat' first|exact zT|exact zc3 rfl|exact Wv.nil (List.eq_nil_of_length_eq_zero hm4.symm)|refine zA ?_ ?_))|(first|exact Or.inr ⟨rfl,rfl⟩|(refine Or.inl ⟨rfl,?_⟩;(repeat' first|exact zT|exact rfl|refine zA ?_ ?_)<;>(try(conv=>whnf))<;>((intro _ _;rfl)))))
        ·(repeat' first|exact zT|exact rfl|refine zA ?_ ?_)<;>(try(conv=>whnf))
      |succ m=>
       (conv=>whnf);repeat((refine Need.mk ?_ ?_;omega;conv=>whnf))
       refine KIf.dec (fun hm3=> ?_) (fun hm3=> ?_)
       ·have hm4:(m+1)<(at_ Rc.o v.rs (k+1)).ss.length:=by simp only[Int.toNat_natCast] at hm3;omega
        have h7:=hf.rr _ hm _ (at_mem Sm.o _ (m+1) hm4)
        (conv=>whnf);repeat(first|refine NCase.s (Nat.succ_ne_zero _) ?_|refine Need.mk (p:=zah _=true) ?_ ?_;decide+kernel|refine Need.mk ?_ ?_;(first|trivial|omega|(constructor<;>omega))|refine DCall.pure (zcS _ h7) ?_|refine Need.mk ?_ ?_;exact Ex.take_len (enc:=aSm) (sz:=2) (fun _=>rfl) hm2);conv=>whnf
        refine⟨m+2,by omega,by dsimp only;omega,?_⟩;refine Weak.of [0,1,2,3,4,8] [] rfl rfl ?_ ?_
        ·(repeat' first|exact zT|refine zA ?_ ?_)<;>(first|exact rfl|exact WRow.snoc (x:=aSm (at_ Sm.o (at_ Rc.o v.rs (k+1)).ss (m+1))) (zcU aSm Sm.o (at_ Rc.o v.rs (k+1)).ss (m+1) hm4) (zbS (fun _=>rfl) _) rfl (zbv rfl)|exact Or.inr ⟨rfl,zbS (fun _=>rfl) _⟩|(first|exact Or.inr ⟨rfl,rfl⟩|(refine Or.inl ⟨rfl,?_⟩;(repeat' first|exact zT|exact rfl|refine zA ?_ ?_)<;>(try(conv=>whnf))<;>((intro _ _;rfl)))))
        ·(repeat' first|exact zT|exact rfl|refine zA ?_ ?_)<;>(try(conv=>whnf))
       ·have hm4:(m+1)=(at_ Rc.o v.rs (k+1)).ss.length:=by simp only[Int.toNat_natCast] at hm3;omega
        (conv=>whnf);repeat(first|refine NCase.s (Nat.succ_ne_zero _) ?_|refine Need.mk ?_ ?_;(first|trivial|omega|(constructor<;>omega))|refine Need.mk ?_ ?_;exact Ex.take_len (enc:=aRc) (sz:=10) (fun _=>rfl) hd);conv=>whnf
        refine⟨k+2,hlt,by dsimp only;omega,?_⟩;refine Weak.of [0,1,2,7] [5] rfl rfl ?_ ?_
        ·(repeat' first|exact zT|refine zA ?_ ?_)<;>(first|exact rfl|exact WRow.snoc (x:=aRc (at_ Rc.o v.rs (k+1))) (zcU aRc Rc.o v.rs (k+1) hlt) (zbS (fun _=>rfl) _) rfl (by(repeat' first|exact zT|exact zc3 rfl|exact Wv.list (fun _=>rfl) (fun _=>rfl) rfl (by simp) hm4 (by rw[hm4,List.take_length])|refine zA ?_ ?_))|(first|exact Or.inr ⟨rfl,rfl⟩|(refine Or.inl ⟨rfl,?_⟩;(repeat' first|exact zT|exact rfl|refine zA ?_ ?_)<;>(try(conv=>whnf))<;>((intro _ _;rfl)))))
        ·(repeat' first|exact zT|exact rfl|refine zA ?_ ?_)<;>(try(conv=>whnf))
    ·have hk:(k+1)=v.rs.length:=by omega
     conv=>whnf
     refine .z [3] ?_
     conv=>whnf
     refine⟨⟨rfl,rfl⟩,zaa rfl,?_,zaa rfl,rfl,trivial⟩;exact Wz.list (fun _=>rfl) (fun _=>rfl) rfl (by simp) hk (by rw[hk,List.take_length])
end Go.Proofs.YtgcjejajljhnaaaGreatDoor
namespace Ck
open Go Go.Ex
theorem shl_pow (n:Int) (h0:0≤n) (h8:n<8):shlZ .i64 1 n=2^n.toNat:=by
 have hk:∃k:Nat,k<8∧n=k:=⟨n.toNat,by omega,by omega⟩
 obtain⟨k,hk,rfl⟩:=hk
 have key:∀k:Fin 8,shlZ .i64 1 ((k.1:Nat):Int)=2^k.1:=by decide+kernel
 exact key ⟨k,hk⟩
end Ck
namespace Go.Proofs.YtgcjejajljhnaaaGreatDoor
open Go.Ex Ck
set_option maxRecDepth 100000
set_option maxHeartbeats 4000000
theorem Power_k (n:Int) (h0:0≤n) (h8:n<8):PureC Tryz.prog 81 [ib n] (ib (2^n.toNat)):=by
 refine PureC.of kmix rfl ?_
 (conv=>whnf);repeat((refine Need.mk ?_ ?_;trivial;conv=>whnf))
 (refine .z [] ?_;conv=>whnf);(repeat' first|exact rfl|refine zA ?_ ?_)<;>(try(conv=>whnf))<;>(exact(shl_pow n h0 h8).symm)
theorem Floor_k (n c:Int) (hn:n= -c) (h:0≤c∧c≤100000):PureC Tryz.prog 126 [ib n,ib 8] (ib (-((c+7)/8))):=by
 have e1:n.tdiv 8= -(c/8):=by rw[hn,Int.neg_tdiv,Int.tdiv_eq_ediv_of_nonneg h.1]
 have e2:n.tmod 8= -(c%8):=by rw[hn,Int.neg_tmod,Int.tmod_eq_emod_of_nonneg h.1]
 have h1:(8:Int)≠0∧Small (n.tdiv 8):=⟨by omega,by unfold Small;rw[e1];omega⟩
 have h2:Small (n.tdiv 8-1):=by unfold Small;rw[e1];omega
 refine PureC.of kmix rfl ?_
 (conv=>whnf);repeat((refine Need.mk ?_ ?_;trivial;conv=>whnf))
 refine KIf.dec (fun hlt=> ?_) (fun hlt=> ?_)
 ·rw[e2] at hlt
  (conv=>whnf);repeat((refine Need.mk ?_ ?_;trivial;conv=>whnf))
  (refine .z [] ?_;conv=>whnf);(repeat' first|exact rfl|refine zA ?_ ?_)<;>(try(conv=>whnf))<;>(omega)
 ·rw[e2] at hlt
  conv=>whnf
  (refine .z [] ?_;conv=>whnf);(repeat' first|exact rfl|refine zA ?_ ?_)<;>(try(conv=>whnf))<;>(omega)
theorem Ceil_k (c:Int) (h:0≤c∧c≤100000):PureC Tryz.prog 80 [ib c,ib 8] (ib ((c+7)/8)):=by
 have e1:IntKind.i64.wrap (0-c)= -c:=by rw[IntKind.wrap_i64];omega
 have e2:IntKind.i64.wrap (0-(-((c+7)/8)))=(c+7)/8:=by rw[IntKind.wrap_i64];omega
 refine PureC.of kmix rfl ?_
 (conv=>whnf);repeat((refine KCall.pure (Floor_k _ c e1 h) ?_;conv=>whnf))
 (refine .z [] ?_;conv=>whnf);(repeat' first|exact rfl|refine zA ?_ ?_)<;>(try(conv=>whnf))<;>(omega)
structure Okr (v:Pt):Prop extends Okv v where
 ab:∀r∈v.al,0≤r.s∧r.s+r.l≤v.c
theorem zf4 (r:Ref):PureC Tryz.prog 90 [.agg (aRef r)] (ib (zaC r)):=by
 unfold zaC;have h1:=za6 r.r 0 95;have h2:=za6 r.q 1 65535;have h3:=zbe (wi r.r 0 95&&wi r.q 1 65535) 2;refine PureC.of kmix rfl ?_;cases e:wi r.r 0 95
 ·rw[e] at h1 h3
  (conv=>whnf);repeat(first|refine KIf.f rfl ?_|refine KCall.pure (h1) ?_|refine KCall.pure (h3) ?_);conv=>whnf
  refine .z [] ?_;exact zaa rfl
 ·rw[e] at h1 h3
  (conv=>whnf);repeat(first|refine KIf.t rfl ?_|refine KCall.pure (h1) ?_|refine KCall.pure (h2) ?_|refine KCall.pure (h3) ?_);conv=>whnf
  refine .z [] ?_;exact zaa rfl
theorem zdO (n:Int):PureC Tryz.prog 89 [ib n] (bb (num n)):=by
 refine PureC.of kmix rfl ?_
 (conv=>whnf);repeat((refine KCall.pure (za6 _ _ _) ?_;conv=>whnf))
 refine .z [] ?_;exact zaa rfl
theorem zki (n:Int):PureC Tryz.prog 91 [ib n] (ib (most n)):=by
 unfold most;refine PureC.of kmix rfl ?_;by_cases h:n=5
 ·rw[if_pos h]
  (conv=>whnf);repeat((refine KIf.dt ?_ ?_;assumption;conv=>whnf))
  refine .z [] ?_;exact zaa rfl
 ·rw[if_neg h]
  (conv=>whnf);repeat((refine KIf.df ?_ ?_;assumption;conv=>whnf))
  refine .z [] ?_;exact zaa rfl
theorem nameErr_k (x:Nm) (hx:x.n.length≤100000):PureC Tryz.prog 92 [.agg (aNm x)] (ib (zcG x)):=by
 have hf:=ziF [zaC x.d,zaw x.n] (by decide:(2:Nat)≤1000000)
 have he:Ck.first [zaC x.d,zaw x.n]=zcG x:=by
  show(if zaC x.d=0 then(if zaw x.n=0 then 0 else zaw x.n) else zaC x.d)=_;unfold zcG;by_cases h1:zaw x.n=0
  ·rw[if_pos h1,h1]
  ·rw[if_neg h1]
 rw[he] at hf;refine PureC.of kmix rfl ?_
 (conv=>whnf);repeat(first|refine Need.mk (p:=zah _=true) ?_ ?_;decide+kernel|refine DCall.pure (zf4 x.d) ?_|refine DCall.pure (zc4 x.n hx) ?_|refine DCall.frz [1] (hf) ⟨Wz.ownS rfl (by simp) rfl (Nat.le_refl 2) (fun _ _=>rfl) rfl (fun _ _=>rfl),trivial⟩ ?_);conv=>whnf
 refine .z [] ?_;exact zaa rfl
theorem first_3 (a b c:Int):Ck.first [a,b,c]=if a=0 then(if b=0 then c else b) else a:=by
 show(if a=0 then(if b=0 then(if c=0 then 0 else c) else b) else a)=_;by_cases h:c=0
 ·rw[if_pos h,h]
 ·rw[if_neg h]
theorem entryErr_k (x:En) (hx:x.n.length≤100000):PureC Tryz.prog 94 [.agg (aEn x)] (ib (zcB x)):=by
 have hf:=ziF [zaw x.n,zaC x.f,if num x.z then 0 else 2] (by decide:(3:Nat)≤1000000);rw[first_3] at hf;have hf:PureC Tryz.prog 57 [LS 1 aI 0 [zaw x.n,zaC x.f,if num x.z then 0 else 2]] (ib (zcB x)):=hf;refine PureC.of kmix rfl ?_
 (conv=>whnf);repeat(first|refine Need.mk (p:=zah _=true) ?_ ?_;decide+kernel|refine DCall.pure (zf4 x.f) ?_|refine DCall.pure (zc4 x.n hx) ?_|refine DCall.pure (zdO x.z) ?_|refine DCall.pure (zbe (num x.z) 2) ?_|refine DCall.frz [1] (hf) ⟨Wz.ownS rfl (by simp) rfl (Nat.le_refl 3) (fun _ _=>rfl) rfl (fun _ _=>rfl),trivial⟩ ?_);conv=>whnf
 refine .z [] ?_;exact zaa rfl
theorem badRun_k (r:Run):PureC Tryz.prog 135 [.agg (aRun r)] (bb (zaW r)):=by
 unfold zaW;have h1:=za6 r.s (-1) 2147483647;have h2:=za6 r.l 1 512;refine PureC.of kmix rfl ?_;cases e:wi r.s (-1) 2147483647
 ·rw[e] at h1
  (conv=>whnf);repeat(first|refine KIf.t rfl ?_|refine KCall.pure (h1) ?_);conv=>whnf
  refine .z [] ?_;exact zaa rfl
 ·rw[e] at h1
  (conv=>whnf);repeat(first|refine KIf.f rfl ?_|refine KCall.pure (h1) ?_|refine KCall.pure (h2) ?_);conv=>whnf
  refine .z [] ?_;exact zaa rfl
theorem IndexRun_k (l:List Run) (hl:l.length≤100000):PureC Tryz.prog 169 [LS 2 aRun Run.o l, .sc (.func (.func 135) #[] #[])] (ib (ixL zaW l 0)):=by
 obtain⟨W,hW⟩:∃W,ixL zaW l 0=W:=⟨_,rfl⟩
 rw[hW];have hW:ixL zaW (l.drop 0) 0=W:=hW;refine PureC.of kmix rfl ?_
 conv=>whnf
 refine WLoop.inv kmix (D:=Nat) (fun d=>l.length-d) (fun d=>d≤l.length∧ixL zaW (l.drop d) d=W) (fun d=>slots [(0,LS 2 aRun Run.o l),(1, .sc (.func (.func 135) #[] #[])),(7,ib l.length),(8,ib d)] 19) (fun d=>zaj []) 0 ⟨Nat.zero_le _,hW⟩ ?_ ?_
 ·(refine Weak.of [] [] rfl rfl ?_ ?_<;>(repeat' first|exact zT|refine zA ?_ ?_)<;>(conv=>whnf)<;>(repeat'(exact rfl))<;>((intro _ _;rfl)))
 ·clear hW;rintro d ⟨hd,hW⟩;by_cases hlt:d<l.length
  ·have hp:=badRun_k (at_ Run.o l d);rw[drop_at Run.o l d hlt] at hW;unfold ixL at hW;cases hx:zaW (at_ Run.o l d)
   ·rw[if_neg (by simp[hx])] at hW;rw[hx] at hp
    (conv=>whnf);repeat(first|refine KIf.f rfl ?_|refine Need.mk ?_ ?_;(first|omega|(constructor<;>omega))|refine KIf.t (decide_eq_true (by omega)) ?_|refine KCall.pure (hp) ?_);conv=>whnf
    refine⟨d+1,⟨by omega,hW⟩,by dsimp only;omega,?_⟩
    (refine Weak.of [] [] rfl rfl ?_ ?_<;>(repeat' first|exact zT|refine zA ?_ ?_)<;>(conv=>whnf)<;>(repeat'(exact rfl))<;>((intro _ _;rfl)))
   ·rw[if_pos hx] at hW;rw[hx] at hp
    (conv=>whnf);repeat(first|refine KIf.t rfl ?_|refine Need.mk ?_ ?_;omega|refine KIf.t (decide_eq_true (by omega)) ?_|refine KCall.pure (hp) ?_);conv=>whnf
    refine .z [] ?_;rw[←hW];exact zaa rfl
  ·have hde:d=l.length:=by omega
   rw[hde,List.drop_length] at hW
   (conv=>whnf);repeat(((refine KIf.f (decide_eq_false (by omega)) ?_;conv=>whnf)))
   refine .z [] ?_;rw[←hW];exact zaa rfl
theorem ContainsRun_k (l:List Run) (hl:l.length≤100000):PureC Tryz.prog 136 [LS 2 aRun Run.o l, .sc (.func (.func 135) #[] #[])] (bb (l.any zaW)):=by
 rw[←zds zaW l 0];refine PureC.of kmix rfl ?_
 (conv=>whnf);repeat((refine KCall.pure (IndexRun_k l hl) ?_;conv=>whnf))
 refine .z [] ?_;exact zaa rfl
theorem streamErr_k (x:Sm) (hx:x.r.length≤100000):PureC Tryz.prog 93 [.agg (aSm x)] (ib (zbU x)):=by
 unfold zbU;refine PureC.of kmix rfl ?_;by_cases h:24<x.r.length
 ·rw[if_pos h]
  (conv=>whnf);repeat(((refine KIf.t (decide_eq_true (by omega)) ?_;conv=>whnf)))
  refine .z [] ?_;exact zaa rfl
 ·rw[if_neg h]
  obtain⟨b,hb⟩:∃b,x.r.any zaW=b:=⟨_,rfl⟩
  have hC:=ContainsRun_k x.r hx;have hN:=zdO x.z;rw[hb] at hC⊢;cases b
  ·have hU:=zbe (num x.z) 2
   (conv=>whnf);repeat(first|refine KIf.t rfl ?_|refine KIf.f (decide_eq_false (by omega)) ?_|refine KCall.pure (hC) ?_|refine KCall.pure (hN) ?_|refine KCall.pure (hU) ?_);conv=>whnf
   refine .z [] ?_;exact zaa rfl
  ·have hU:=zbe false 2
   (conv=>whnf);repeat(first|refine KIf.f rfl ?_|refine KIf.f (decide_eq_false (by omega)) ?_|refine KCall.pure (hC) ?_|refine KCall.pure (hU) ?_);conv=>whnf
   refine .z [] ?_;exact zaa rfl
end Go.Proofs.YtgcjejajljhnaaaGreatDoor
namespace Ck
theorem zaN {e:Int} {l:List Int} (h:e≠0):first (e::l)=e:=if_neg h
theorem zaE {l:List Int}:first (0::l)=first l:=rfl
theorem zb4 {E:Nat→Int} {n:Nat} (h:∀k,k<n→E k=0):goE E n=0:=zeS E n h
theorem zb3 {E:Nat→Int} {n k:Nat} (h:∀j,j<k→E j=0) (hk:k<n) (he:E k≠0):goE E n=E k:=ziC E (zeS E k h) he n hk
theorem refErr_2 {r:Ref} (h:zaC r≠0):zaC r=2:=by
 unfold zaC at h⊢;split
 ·rename_i c;rw[if_pos c] at h;exact absurd rfl h
 ·rfl
theorem zhI (i:Int) (x:Rc):zcA i x=if(!(wi x.q 1 65535)||(!(wi x.k 0 3)||(!(num x.ln)|| !(num x.ds))))=true then 2 else if(!x.u&&(!decide (x.b=Ref.o)||decide (0<x.ln+x.ds+x.parts+x.k)))=true then 3 else if(if x.k=3 then zaC x.b else if x.b=Ref.o then 0 else 2)≠0 then 2 else if 8<x.ns.length∨8<x.ss.length∨most i<x.es.length then 8 else if(0<x.es.length∧x.k≠0)∨(0<x.ns.length∧(x.k=3∨i<16)) then 3 else 0:=by
 unfold zcA;simp only[Bool.or_assoc]
 have:(x.b !=Ref.o)= !decide (x.b=Ref.o):=by
  by_cases h:x.b=Ref.o
  ·simp[h]
  ·simp[h]
 rw[this]
end Ck
namespace Go.Proofs.YtgcjejajljhnaaaGreatDoor
open Go.Ex Ck
set_option maxRecDepth 100000
set_option maxHeartbeats 8000000
theorem recordErr_k (i:Int) (x:Rc) (h1:x.ns.length≤100000) (h2:x.ss.length≤100000) (h3:x.es.length≤100000) (h4:∀y∈x.ss,y.r.length≤100000) (h5:∀y∈x.ns,y.n.length≤100000) (h6:∀y∈x.es,y.n.length≤100000):PureC Tryz.prog 47 [ib i,aRcs x] (ib (zbg i x)):=by
 have hA:=za6 x.q 1 65535;have hB:=za6 x.k 0 3;have hC:=zdO x.ln;have hD:=zdO x.ds
 have hk:wi x.k 0 3=true→0≤x.k∧x.k≤3:=fun e=>by unfold wi at e;simpa using e
 have hln:num x.ln=true→0≤x.ln∧x.ln≤2147483647:=fun e=>by unfold num wi at e;simpa using e
 have hds:num x.ds=true→0≤x.ds∧x.ds≤2147483647:=fun e=>by unfold num wi at e;simpa using e
 unfold zbg;rw[zhI];unfold Rc.parts
 generalize wi x.q 1 65535=a at*
 generalize wi x.k 0 3=b at*
 generalize num x.ln=c at*
 generalize num x.ds=d at*
 refine PureC.of kmix rfl ?_;cases a
 ·(conv=>whnf);repeat(first|refine KIf.t rfl ?_|refine KCall.pure (hA) ?_);conv=>whnf
  refine .z [] ?_;exact zaa rfl
 cases b
 ·(conv=>whnf);repeat(first|refine KIf.t rfl ?_|refine KIf.f rfl ?_|refine KCall.pure (hA) ?_|refine KCall.pure (hB) ?_);conv=>whnf
  refine .z [] ?_;exact zaa rfl
 cases c
 ·(conv=>whnf);repeat(first|refine KIf.t rfl ?_|refine KIf.f rfl ?_|refine KCall.pure (hA) ?_|refine KCall.pure (hB) ?_|refine KCall.pure (hC) ?_);conv=>whnf
  refine .z [] ?_;exact zaa rfl
 cases d
 ·(conv=>whnf);repeat(first|refine KIf.t rfl ?_|refine KIf.f rfl ?_|refine KCall.pure (hA) ?_|refine KCall.pure (hB) ?_|refine KCall.pure (hC) ?_|refine KCall.pure (hD) ?_);conv=>whnf
  refine .z [] ?_;exact zaa rfl
 have hk:=hk rfl;have hln:=hln rfl;have hds:=hds rfl;have e0:(!true||(!true||(!true|| !true)))=false:=rfl;rw[if_neg (by rw[e0];decide)]
 have hS:((x.ns.length+x.ss.length+x.es.length:Nat):Int)=(x.ns.length:Int)+(x.ss.length:Int)+(x.es.length:Int):=by omega
 have hcase:(x.u=false∧¬x.b=Ref.o)∨(x.u=false∧x.b=Ref.o∧0<x.ln+x.ds+((x.ns.length+x.ss.length+x.es.length:Nat):Int)+x.k)∨(x.u=true∧x.k=3∧¬zaC x.b=0)∨(x.u=true∧¬x.k=3∧¬x.b=Ref.o)∨(x.u=false∧x.b=Ref.o∧¬0<x.ln+x.ds+((x.ns.length+x.ss.length+x.es.length:Nat):Int)+x.k∧¬x.k=3)∨(x.u=true∧x.k=3∧zaC x.b=0)∨(x.u=true∧¬x.k=3∧x.b=Ref.o):=by
  cases hu:x.u
  ·by_cases hb:x.b=Ref.o
   ·by_cases hs:0<x.ln+x.ds+((x.ns.length+x.ss.length+x.es.length:Nat):Int)+x.k
    ·exact .inr (.inl ⟨rfl,hb,hs⟩)
    ·exact .inr (.inr (.inr (.inr (.inl ⟨rfl,hb,hs,by omega⟩))))
   ·exact .inl ⟨rfl,hb⟩
  ·by_cases h3:x.k=3
   ·by_cases hr:zaC x.b=0
    ·exact .inr (.inr (.inr (.inr (.inr (.inl ⟨rfl,h3,hr⟩)))))
    ·exact .inr (.inr (.inl ⟨rfl,h3,hr⟩))
   ·by_cases hb:x.b=Ref.o
    ·exact .inr (.inr (.inr (.inr (.inr (.inr ⟨rfl,h3,hb⟩)))))
    ·exact .inr (.inr (.inr (.inl ⟨rfl,h3,hb⟩)))
 have hgood:x.u=true→¬(!x.u&&(!decide (x.b=Ref.o)||decide (0<x.ln+x.ds+((x.ns.length+x.ss.length+x.es.length:Nat):Int)+x.k)))=true:=fun hu=>by rw[hu];simp
 have hbo:x.b=Ref.o→(if decide (x.b=Ref.o)=true then(0:Int) else 2)=0:=fun hb=>by rw[decide_eq_true hb];rfl
 have hbn:¬x.b=Ref.o→(if decide (x.b=Ref.o)=true then(0:Int) else 2)=2:=fun hb=>by rw[decide_eq_false hb];rfl
 rcases hcase with⟨hu,hb⟩|⟨hu,hb,hs⟩|⟨hu,h3,hr⟩|⟨hu,h3,hb⟩|⟨hu,hb,hs,h3⟩|⟨hu,h3,hr⟩|⟨hu,h3,hb⟩
 ·rw[if_pos (by rw[hu,decide_eq_false hb];rfl)]
  (conv=>whnf);repeat(first|refine KIf.f ?_ ?_;assumption|refine KIf.t rfl ?_|refine KIf.t ?_ ?_;(focus(simp only[Bool.not_eq_true',Bool.not_eq_false',Bool.not_true,Bool.not_false];assumption))|refine Need.mk ?_ ?_;((constructor<;>omega))|refine KCall.pure (hA) ?_|refine KCall.pure (hB) ?_|refine KCall.pure (hC) ?_|refine KCall.pure (hD) ?_|refine EqK.of (zaY x.b Ref.o) ?_|refine KIf.t (congrArg Bool.not (decide_eq_false hb)) ?_);conv=>whnf
  refine .z [] ?_;exact zaa rfl
 ·rw[if_pos (by rw[hu,decide_eq_true hb,decide_eq_true hs];rfl)]
  (conv=>whnf);repeat(first|refine KIf.dt ?_ ?_;assumption|refine KIf.f ?_ ?_;assumption|refine KIf.t ?_ ?_;(focus(simp only[Bool.not_eq_true',Bool.not_eq_false',Bool.not_true,Bool.not_false];assumption))|refine Need.mk ?_ ?_;((constructor<;>omega))|refine KCall.pure (hA) ?_|refine KCall.pure (hB) ?_|refine KCall.pure (hC) ?_|refine KCall.pure (hD) ?_|refine EqK.of (zaY x.b Ref.o) ?_|refine KIf.f (congrArg Bool.not (decide_eq_true hb)) ?_);conv=>whnf
  refine .z [] ?_;exact zaa rfl
 ·rw[if_neg (hgood hu),if_pos h3,if_pos hr];have hr2:=refErr_2 hr
  (conv=>whnf);repeat(first|refine KIf.dt ?_ ?_;assumption|refine KIf.f ?_ ?_;assumption|refine KIf.f ?_ ?_;(focus(simp only[Bool.not_eq_true',Bool.not_eq_false',Bool.not_true,Bool.not_false];assumption))|refine Need.mk ?_ ?_;((constructor<;>omega))|refine KCall.pure (hA) ?_|refine KCall.pure (hB) ?_|refine KCall.pure (hC) ?_|refine KCall.pure (hD) ?_|refine EqK.of (zaY x.b Ref.o) ?_|refine KIf.t (congrArg Bool.not (decide_eq_false (by omega))) ?_|refine KCall.pure (zbe (decide (x.b=Ref.o)) 2) ?_|refine KCall.pure (zf4 x.b) ?_);conv=>whnf
  refine .z [] ?_;rw[hr2];exact zaa rfl
 ·have hq:¬(if decide (x.b=Ref.o)=true then(0:Int) else 2)=0:=by rw[hbn hb];decide
  rw[if_neg (hgood hu),if_neg h3,if_neg hb,if_pos (by decide)]
  (conv=>whnf);repeat(first|refine KIf.df ?_ ?_;assumption|refine KIf.f ?_ ?_;assumption|refine KIf.f ?_ ?_;(focus(simp only[Bool.not_eq_true',Bool.not_eq_false',Bool.not_true,Bool.not_false];assumption))|refine Need.mk ?_ ?_;((constructor<;>omega))|refine KCall.pure (hA) ?_|refine KCall.pure (hB) ?_|refine KCall.pure (hC) ?_|refine KCall.pure (hD) ?_|refine EqK.of (zaY x.b Ref.o) ?_|refine KIf.t (congrArg Bool.not (decide_eq_false (by omega))) ?_|refine KCall.pure (zbe (decide (x.b=Ref.o)) 2) ?_);conv=>whnf
  refine .z [] ?_;rw[hbn hb];exact zaa rfl
 all_goals
  first|rw[if_neg (hgood hu),if_pos h3,if_neg (fun c=>c hr)]|rw[if_neg (hgood hu),if_neg h3,if_pos hb,if_neg (fun c=>c rfl)]|rw[if_neg (by rw[hu,decide_eq_true hb,decide_eq_false hs];decide),if_neg h3,if_pos hb,if_neg (fun c=>c rfl)]
  try have hq:=hbo hb
  (conv=>whnf);repeat(first|refine KIf.dt ?_ ?_;assumption|refine KIf.df ?_ ?_;assumption|refine KIf.f ?_ ?_;assumption|refine KIf.t ?_ ?_;(focus(simp only[Bool.not_eq_true',Bool.not_eq_false',Bool.not_true,Bool.not_false];assumption))|refine KIf.f ?_ ?_;(focus(simp only[Bool.not_eq_true',Bool.not_eq_false',Bool.not_true,Bool.not_false];assumption))|refine Need.mk (p:=zah _=true) ?_ ?_;decide+kernel|refine Need.mk ?_ ?_;((constructor<;>omega))|refine KCall.pure (hA) ?_|refine KCall.pure (hB) ?_|refine KCall.pure (hC) ?_|refine KCall.pure (hD) ?_|refine EqK.of (zaY x.b Ref.o) ?_|refine KIf.f (congrArg Bool.not (decide_eq_true hb)) ?_|refine KIf.f (decide_eq_false (by omega)) ?_|refine KIf.f (congrArg Bool.not (decide_eq_true (by omega))) ?_|refine KCall.pure (zbe (decide (x.b=Ref.o)) 2) ?_|refine KCall.pure (zf4 x.b) ?_);conv=>whnf
  by_cases h8:8<x.ns.length∨8<x.ss.length∨most i<x.es.length
  ·rw[if_pos h8];by_cases n8:8<x.ns.length
   ·try(exfalso;omega;done)
    all_goals
     (conv=>whnf);repeat(first|refine KIf.t rfl ?_|refine KIf.t (decide_eq_true (by omega)) ?_);conv=>whnf
     refine .z [] ?_;exact zaa rfl
   by_cases s8:8<x.ss.length
   ·try(exfalso;omega;done)
    all_goals
     (conv=>whnf);repeat(first|refine KIf.t rfl ?_|refine KIf.t (decide_eq_true (by omega)) ?_|refine KIf.f (decide_eq_false (by omega)) ?_);conv=>whnf
     refine .z [] ?_;exact zaa rfl
   try(exfalso;omega;done)
   all_goals
    (conv=>whnf);repeat(first|refine DCall.pure (zki i) ?_|refine KIf.t (decide_eq_true (by omega)) ?_|refine KIf.f (decide_eq_false (by omega)) ?_);conv=>whnf
    refine .z [] ?_;exact zaa rfl
  rw[if_neg h8];by_cases h9:(0<x.es.length∧x.k≠0)∨(0<x.ns.length∧(x.k=3∨i<16))
  ·rw[if_pos h9];by_cases p1:0<x.es.length
   all_goals by_cases p2:x.k=0
   all_goals by_cases p3:0<x.ns.length
   all_goals by_cases p4:i<16
   all_goals first|(exfalso;omega)|skip
   all_goals
    (conv=>whnf);repeat(first|refine KIf.dt ?_ ?_;assumption|refine KIf.df ?_ ?_;assumption|refine KIf.f ?_ ?_;assumption|refine KIf.t rfl ?_|refine DCall.pure (zki i) ?_|refine KIf.t (decide_eq_true (by omega)) ?_|refine KIf.f (decide_eq_false (by omega)) ?_|refine KIf.t (congrArg Bool.not (decide_eq_false (by omega))) ?_|refine KIf.f (congrArg Bool.not (decide_eq_true (by omega))) ?_);conv=>whnf
    refine .z [] ?_;exact zaa rfl
  ·rw[if_neg h9];by_cases p1:0<x.es.length
   all_goals by_cases p3:0<x.ns.length
   all_goals first|(exfalso;omega)|skip
   all_goals
    (conv=>whnf);repeat(first|refine KIf.df ?_ ?_;assumption|refine KIf.f ?_ ?_;assumption|refine DCall.pure (zki i) ?_|refine KIf.t (decide_eq_true (by omega)) ?_|refine KIf.f (decide_eq_false (by omega)) ?_|refine KIf.f (congrArg Bool.not (decide_eq_true (by omega))) ?_);conv=>whnf
    refine WLoop.inv kmix (D:=Nat) (fun d=>x.ns.length-d) (fun d=>d≤x.ns.length∧∀j,j<d→zcG (at_ Nm.o x.ns j)=0) (fun d=>slots [(3, .ptr 0 0),(4,ib 0),(128,LS 3 aNm Nm.o x.ns),(129,ib x.ns.length),(130,ib d)] 166) (fun d=>zaj [.row (aRc x) 66 0]) 0 ⟨Nat.zero_le _,fun j hj=>absurd hj (Nat.not_lt_zero _)⟩ ?_ ?_
    ·(refine Weak.of [0] [] rfl rfl ?_ ?_<;>(repeat' first|exact zT|refine zA ?_ ?_)<;>(conv=>whnf)<;>(repeat'(exact rfl))<;>(first|(intro _ _;rfl)|(exact Or.inr ⟨rfl,rfl⟩)))
    rintro d ⟨hd,hI⟩;by_cases hlt:d<x.ns.length
    ·have hm:=at_mem Nm.o x.ns d hlt;have hE:=nameErr_k (at_ Nm.o x.ns d) (h5 _ hm);by_cases he:zcG (at_ Nm.o x.ns d)=0
     ·(conv=>whnf);repeat(first|refine Need.mk ?_ ?_;(first|omega|(constructor<;>omega))|refine KCall.pure (hE) ?_|refine KIf.f (congrArg Bool.not (decide_eq_true he)) ?_|refine KIf.t (decide_eq_true (by omega)) ?_);conv=>whnf
      refine⟨d+1,⟨hlt,fun j hj=> ?_⟩,by dsimp only;omega,?_⟩
      ·by_cases e:j=d
       ·rw[e];exact he
       ·exact hI j (by omega)
      ·(refine Weak.of [0] [] rfl rfl ?_ ?_<;>(repeat' first|exact zT|refine zA ?_ ?_)<;>(conv=>whnf)<;>(repeat'(exact rfl))<;>(first|(intro _ _;rfl)|omega|(exact Or.inr ⟨rfl,rfl⟩)))
     ·have hz:Ck.first [0,zc5 x,zcf x,zcL x]=zcG (at_ Nm.o x.ns d):=by
       unfold zc5;rw[zaE,zb3 hI hlt he,zaN he]
      rw[hz]
      (conv=>whnf);repeat(first|refine Need.mk ?_ ?_;omega|refine KCall.pure (hE) ?_|refine KIf.t (congrArg Bool.not (decide_eq_false he)) ?_|refine KIf.t (decide_eq_true (by omega)) ?_);conv=>whnf
      refine .z [] ?_;exact zaa rfl
    have hn0:zc5 x=0:=zb4 fun k hk=>hI k (by omega)
    (conv=>whnf);repeat(((refine KIf.f (decide_eq_false (by omega)) ?_;conv=>whnf)))
    refine WLoop.inv kmix (D:=Nat) (fun d=>x.ss.length-d) (fun d=>d≤x.ss.length∧∀j,j<d→zbU (at_ Sm.o x.ss j)=0) (fun d=>slots [(3, .ptr 0 0),(4,ib 0),(141,LS 2 aSm Sm.o x.ss),(142,ib x.ss.length),(143,ib d)] 166) (fun d=>zaj [.row (aRc x) 66 0]) 0 ⟨Nat.zero_le _,fun j hj=>absurd hj (Nat.not_lt_zero _)⟩ ?_ ?_
    ·(refine Weak.of [0] [] rfl rfl ?_ ?_<;>(repeat' first|exact zT|refine zA ?_ ?_)<;>(conv=>whnf)<;>(repeat'(exact rfl))<;>(first|(intro _ _;rfl)|(exact Or.inr ⟨rfl,rfl⟩)))
    rintro d ⟨hd,hI⟩;by_cases hlt:d<x.ss.length
    ·have hm:=at_mem Sm.o x.ss d hlt;have hE:=streamErr_k (at_ Sm.o x.ss d) (h4 _ hm);by_cases he:zbU (at_ Sm.o x.ss d)=0
     ·(conv=>whnf);repeat(first|refine Need.mk ?_ ?_;(first|omega|(constructor<;>omega))|refine KCall.pure (hE) ?_|refine KIf.f (congrArg Bool.not (decide_eq_true he)) ?_|refine KIf.t (decide_eq_true (by omega)) ?_);conv=>whnf
      refine⟨d+1,⟨hlt,fun j hj=> ?_⟩,by dsimp only;omega,?_⟩
      ·by_cases e:j=d
       ·rw[e];exact he
       ·exact hI j (by omega)
      ·(refine Weak.of [0] [] rfl rfl ?_ ?_<;>(repeat' first|exact zT|refine zA ?_ ?_)<;>(conv=>whnf)<;>(repeat'(exact rfl))<;>(first|(intro _ _;rfl)|omega|(exact Or.inr ⟨rfl,rfl⟩)))
     ·have hz:Ck.first [0,zc5 x,zcf x,zcL x]=zbU (at_ Sm.o x.ss d):=by
       rw[hn0];unfold zcf;rw[zaE,zaE,zb3 hI hlt he,zaN he]
      rw[hz]
      (conv=>whnf);repeat(first|refine Need.mk ?_ ?_;omega|refine KCall.pure (hE) ?_|refine KIf.t (congrArg Bool.not (decide_eq_false he)) ?_|refine KIf.t (decide_eq_true (by omega)) ?_);conv=>whnf
      refine .z [] ?_;exact zaa rfl
    have hs0:zcf x=0:=zb4 fun k hk=>hI k (by omega)
    (conv=>whnf);repeat(((refine KIf.f (decide_eq_false (by omega)) ?_;conv=>whnf)))
    refine WLoop.inv kmix (D:=Nat) (fun d=>x.es.length-d) (fun d=>d≤x.es.length∧∀j,j<d→zcB (at_ En.o x.es j)=0) (fun d=>slots [(3, .ptr 0 0),(4,ib 0),(154,LS 4 aEn En.o x.es),(155,ib x.es.length),(156,ib d)] 166) (fun d=>zaj [.row (aRc x) 66 0]) 0 ⟨Nat.zero_le _,fun j hj=>absurd hj (Nat.not_lt_zero _)⟩ ?_ ?_
    ·(refine Weak.of [0] [] rfl rfl ?_ ?_<;>(repeat' first|exact zT|refine zA ?_ ?_)<;>(conv=>whnf)<;>(repeat'(exact rfl))<;>(first|(intro _ _;rfl)|(exact Or.inr ⟨rfl,rfl⟩)))
    rintro d ⟨hd,hI⟩;by_cases hlt:d<x.es.length
    ·have hm:=at_mem En.o x.es d hlt;have hE:=entryErr_k (at_ En.o x.es d) (h6 _ hm);by_cases he:zcB (at_ En.o x.es d)=0
     ·(conv=>whnf);repeat(first|refine Need.mk ?_ ?_;(first|omega|(constructor<;>omega))|refine KCall.pure (hE) ?_|refine KIf.f (congrArg Bool.not (decide_eq_true he)) ?_|refine KIf.t (decide_eq_true (by omega)) ?_);conv=>whnf
      refine⟨d+1,⟨hlt,fun j hj=> ?_⟩,by dsimp only;omega,?_⟩
      ·by_cases e:j=d
       ·rw[e];exact he
       ·exact hI j (by omega)
      ·(refine Weak.of [0] [] rfl rfl ?_ ?_<;>(repeat' first|exact zT|refine zA ?_ ?_)<;>(conv=>whnf)<;>(repeat'(exact rfl))<;>(first|(intro _ _;rfl)|omega|(exact Or.inr ⟨rfl,rfl⟩)))
     ·have hz:Ck.first [0,zc5 x,zcf x,zcL x]=zcB (at_ En.o x.es d):=by
       rw[hn0,hs0];unfold zcL;rw[zaE,zaE,zaE,zb3 hI hlt he,zaN he]
      rw[hz]
      (conv=>whnf);repeat(first|refine Need.mk ?_ ?_;omega|refine KCall.pure (hE) ?_|refine KIf.t (congrArg Bool.not (decide_eq_false he)) ?_|refine KIf.t (decide_eq_true (by omega)) ?_);conv=>whnf
      refine .z [] ?_;exact zaa rfl
    have hens:zcL x=0:=zb4 fun k hk=>hI k (by omega)
    rw[hn0,hs0,hens]
    (conv=>whnf);repeat(((refine KIf.f (decide_eq_false (by omega)) ?_;conv=>whnf)))
    refine .z [] ?_;exact zaa rfl
end Go.Proofs.YtgcjejajljhnaaaGreatDoor
namespace Ck
open Go Go.Ex Go.Proofs.YtgcjejajljhnaaaGreatDoor
theorem zmG {β:Type} (o:β) {l L:List β} (hl:L.length=l.length) (h:∀i,i<l.length→at_ o l i=at_ o L i):L=l:=by
 apply List.ext_getElem hl;intro i h1 h2;have:=h i h2;rw[zaG _ _ _ h2,zaG _ _ _ h1] at this;exact this.symm
def zeJ (x:Nm):Bool:=decide (x.n.length≤40)
def zeU (x:En):Bool:=decide (x.n.length≤40)
def zer (x:Sm):Bool:=decide (x.r.length≤30)
def zeC (x:Rc):Bool:=(decide (x.ns.length≤10)&&(decide (x.ss.length≤10)&&decide (x.es.length≤60)))&&(x.ns.all zeJ&&(x.es.all zeU&&x.ss.all zer))
def fewP (v:Pt):Bool:=(decide (v.al.length≤30)&&(decide (v.rs.length≤99)&&(decide (v.ds.length≤70)&&decide (v.mp.length≤600))))&&v.rs.all zeC
structure FitP (v:Pt):Prop where
 f:Fit' v
 nl:∀x∈v.rs,∀n∈x.ns,n.n.length≤100000
 el:∀x∈v.rs,∀n∈x.es,n.n.length≤100000
 mp:v.mp.length≤100000
theorem zdR {v:Pt} (h:fewP v=true):FitP v:=by
 unfold fewP at h;simp only[Bool.and_eq_true,decide_eq_true_eq] at h
 have hr:∀x∈v.rs,(x.ns.length≤10∧x.ss.length≤10∧x.es.length≤60)∧(∀n∈x.ns,n.n.length≤40)∧(∀n∈x.es,n.n.length≤40)∧∀s∈x.ss,s.r.length≤30:=fun x hx=>by
  have:=List.all_eq_true.1 h.2 x hx;unfold zeC at this;simp only[Bool.and_eq_true,decide_eq_true_eq,List.all_eq_true,zeJ,zeU,zer] at this;exact this
 refine⟨⟨by omega,by omega,by omega,fun x hx=> ?_,fun x hx=> ?_,fun x hx=> ?_,fun x hx y hy=> ?_⟩,fun x hx n hn=> ?_,fun x hx n hn=> ?_,by omega⟩
 ·have:=(hr x hx).1;omega
 ·have:=(hr x hx).1;omega
 ·have:=(hr x hx).1;omega
 ·have:=(hr x hx).2.2.2 y hy;omega
 ·have:=(hr x hx).2.1 n hn;omega
 ·have:=(hr x hx).2.2.1 n hn;omega
end Ck
namespace Ck
open Go Go.Ex
theorem shr_z (a:UInt8) (k:Nat) (hk:k<8):shrZ .u8 (a.toNat:Int) (k:Int)=0↔a.toNat/2^k=0:=by
 have key:∀k:Fin 8,∀a:Fin 256,(shrZ .u8 ((a:Nat):Int) ((k:Nat):Int)=0↔a.1/2^k.1=0):=by decide+kernel
 exact key ⟨k,hk⟩ ⟨a.toNat,a.toNat_lt⟩
theorem zmF (l:List UInt8):l.getLast?.getD 0=gd 0 l (l.length-1):=by
 unfold gd;rw[List.getLast?_eq_getElem?]
end Ck
namespace Go.Proofs.YtgcjejajljhnaaaGreatDoor
open Go.Ex Ck
set_option maxRecDepth 100000
set_option maxHeartbeats 8000000
theorem mwithin_k (n lo hi:Int):PureC Tryz.prog 131 [ib n,ib lo,ib hi] (bb (Ck.wi n lo hi)):=by
 refine PureC.of kmix rfl ?_
 conv=>whnf
 refine KIf.dec (fun h=> ?_) (fun h=> ?_)
 all_goals
  (conv=>whnf);repeat(first|refine KIf.dt ?_ ?_;assumption|refine KIf.df ?_ ?_;assumption);conv=>whnf
  refine .z [] ?_;(conv=>whnf);simp[Ck.wi,h]
theorem zgR (b:Bool) (e:Int):PureC Tryz.prog 133 [bb b,ib e] (ib (if b then 0 else e)):=by
 refine PureC.of kmix rfl ?_
 conv=>whnf
 cases b
 all_goals
  (conv=>whnf);repeat(first|refine KIf.t rfl ?_|refine KIf.f rfl ?_);conv=>whnf
  refine .z [] ?_;(conv=>whnf);exact⟨rfl,rfl⟩
theorem zio (c:Int) (h:64≤c∧c≤512):PureC Tryz.prog 132 [ib c] (ib ((c+7)/8)):=by
 have e1:(c+8-1).tdiv 8=(c+7)/8:=by rw[Int.tdiv_eq_ediv_of_nonneg (by omega)];omega
 have h1:(8:Int)≠0∧Small ((c+8-1).tdiv 8):=⟨by omega,by unfold Small;rw[e1];omega⟩
 refine PureC.of kmix rfl ?_
 (conv=>whnf);repeat((refine Need.mk ?_ ?_;(first|trivial|(constructor<;>omega));conv=>whnf))
 refine .z [] ?_;rw[←e1];exact zaa rfl
theorem CheckBitmap_k (s:List UInt8) (c:Int) (hs:s.length≤100000) (h:64≤c∧c≤512):PureC Tryz.prog 88 [tb s,ib c] (ib (zaO s c)):=by
 have hw:=mwithin_k c 0 4096
 have hwi:wi c 0 4096=true:=by unfold wi;simp only[Bool.and_eq_true,decide_eq_true_eq];omega
 rw[hwi] at hw;have e2:c.tmod 8=c%8:=Int.tmod_eq_emod_of_nonneg (by omega)
 have h8:(8:Int)≠0:=by omega
 unfold zaO;rw[if_pos hwi];refine PureC.of kmix rfl ?_;by_cases hl:s.length=((c+7)/8).toNat
 ·rw[if_pos hl];by_cases hr:c%8=0
  ·have hr':c.tmod 8=0:=by rw[e2];exact hr
   rw[if_pos (.inl hr)]
   (conv=>whnf);repeat(first|refine KIf.dt ?_ ?_;assumption|refine KIf.f rfl ?_|refine Need.mk ?_ ?_;trivial|refine KCall.pure (hw) ?_|refine KCall.pure (zio c h) ?_|refine KCall.pure (zgR true 3) ?_|refine KIf.f (congrArg Bool.not (decide_eq_true (by omega))) ?_);conv=>whnf
   refine .z [] ?_;exact zaa rfl
  ·have hr':¬c.tmod 8=0:=by rw[e2];exact hr
   have hix:0≤(s.length:Int)-1∧(s.length:Int)-1<s.length:=by omega
   have hsh:0≤c.tmod 8:=by rw[e2];omega
   have hz:shrZ .u8 ((gd 0 s ((s.length:Int)-1).toNat).toNat:Int) (c.tmod 8)=0↔(s.getLast?.getD 0).toNat/2^(c%8).toNat=0:=by
    obtain⟨k,hk⟩:∃k:Nat,c%8=k:=⟨(c%8).toNat,by omega⟩
    rw[e2,hk,zmF,show((s.length:Int)-1).toNat=s.length-1 by omega,Int.toNat_natCast];exact shr_z _ k (by omega)
   by_cases hy:(s.getLast?.getD 0).toNat/2^(c%8).toNat=0
   ·have hd:decide (shrZ .u8 ((gd 0 s ((s.length:Int)-1).toNat).toNat:Int) (c.tmod 8)=0)=true:=decide_eq_true (hz.2 hy);have hU:=zgR (decide (shrZ .u8 ((gd 0 s ((s.length:Int)-1).toNat).toNat:Int) (c.tmod 8)=0)) 3;rw[if_pos hd] at hU;rw[if_pos (.inr hy)]
    (conv=>whnf);repeat(first|refine KIf.df ?_ ?_;assumption|refine KIf.f rfl ?_|refine Need.mk ?_ ?_;(first|trivial|(constructor<;>omega))|refine KCall.pure (hw) ?_|refine KCall.pure (zio c h) ?_|refine KCall.pure (hU) ?_|refine KIf.f (congrArg Bool.not (decide_eq_true (by omega))) ?_);conv=>whnf
    refine .z [] ?_;exact zaa rfl
   ·have hd:¬decide (shrZ .u8 ((gd 0 s ((s.length:Int)-1).toNat).toNat:Int) (c.tmod 8)=0)=true:=fun e=>hy (hz.1 (of_decide_eq_true e))
    have hU:=zgR (decide (shrZ .u8 ((gd 0 s ((s.length:Int)-1).toNat).toNat:Int) (c.tmod 8)=0)) 3;rw[if_neg hd] at hU;rw[if_neg (fun e=>e.elim hr hy)]
    (conv=>whnf);repeat(first|refine KIf.df ?_ ?_;assumption|refine KIf.f rfl ?_|refine Need.mk ?_ ?_;(first|trivial|(constructor<;>omega))|refine KCall.pure (hw) ?_|refine KCall.pure (zio c h) ?_|refine KCall.pure (hU) ?_|refine KIf.f (congrArg Bool.not (decide_eq_true (by omega))) ?_);conv=>whnf
    refine .z [] ?_;exact zaa rfl
 ·rw[if_neg hl]
  (conv=>whnf);repeat(first|refine KIf.f rfl ?_|refine KCall.pure (hw) ?_|refine KCall.pure (zio c h) ?_|refine KIf.t (congrArg Bool.not (decide_eq_false (by omega))) ?_);conv=>whnf
  refine .z [] ?_;exact zaa rfl
theorem wholeErr_k (v:Pt) (h1:v.al.length≤100000) (h3:v.ds.length≤100000) (h4:v.mp.length≤100000):PureC Tryz.prog 46 [aPts v] (ib (za1 v)):=by
 have hA:=za6 v.c 64 512
 have hAw:wi v.c 64 512=true→64≤v.c∧v.c≤512:=fun e=>by unfold wi at e;simpa using e
 unfold za1
 generalize wi v.c 64 512=a at*
 refine PureC.of kmix rfl ?_;cases a
 ·(conv=>whnf);repeat(first|refine KIf.t rfl ?_|refine KCall.pure (hA) ?_|refine KCall.pure (zbe false 2) ?_);conv=>whnf
  refine .z [] ?_;exact zaa rfl
 have hc:=hAw rfl;have hM:=CheckBitmap_k v.mp v.c h4 hc;by_cases h8:24<v.al.length∨96<v.rs.length∨64<v.ds.length
 ·rw[if_pos h8];by_cases n8:24<v.al.length
  ·(conv=>whnf);repeat(first|refine KIf.t rfl ?_|refine KIf.f rfl ?_|refine KCall.pure (hA) ?_|refine KCall.pure (zbe true 2) ?_|refine KIf.t (decide_eq_true (by omega)) ?_);conv=>whnf
   refine .z [] ?_;exact zaa rfl
  by_cases s8:96<v.rs.length
  ·(conv=>whnf);repeat(first|refine KIf.t rfl ?_|refine KIf.f rfl ?_|refine KCall.pure (hA) ?_|refine KCall.pure (zbe true 2) ?_|refine KIf.t (decide_eq_true (by omega)) ?_|refine KIf.f (decide_eq_false (by omega)) ?_);conv=>whnf
   refine .z [] ?_;exact zaa rfl
  (conv=>whnf);repeat(first|refine KIf.f rfl ?_|refine KCall.pure (hA) ?_|refine KCall.pure (zbe true 2) ?_|refine KIf.t (decide_eq_true (by omega)) ?_|refine KIf.f (decide_eq_false (by omega)) ?_);conv=>whnf
  refine .z [] ?_;exact zaa rfl
 rw[if_neg h8]
 (conv=>whnf);repeat(first|refine KIf.f rfl ?_|refine KCall.pure (hA) ?_|refine KCall.pure (zbe true 2) ?_|refine KIf.f (decide_eq_false (by omega)) ?_);conv=>whnf
 refine WLoop.inv kmix (D:=Nat) (fun d=>v.al.length-d) (fun d=>d≤v.al.length∧∀j,j<d→zbL v.c (at_ Run.o v.al j)=0) (fun d=>slots [(1, .ptr 0 0),(2,ib 0),(32,LS 2 aRun Run.o v.al),(33,ib v.al.length),(34,ib d)] 93) (fun d=>zaj [.row (aPt v) 26 0]) 0 ⟨Nat.zero_le _,fun j hj=>absurd hj (Nat.not_lt_zero _)⟩ ?_ ?_
 ·(refine Weak.of [0] [] rfl rfl ?_ ?_<;>(repeat' first|exact zT|refine zA ?_ ?_)<;>(conv=>whnf)<;>(repeat'(exact rfl))<;>(first|(intro _ _;rfl)|(exact Or.inr ⟨rfl,rfl⟩)))
 rintro d ⟨hd,hI⟩;by_cases hlt:d<v.al.length
 ·have hW1:=za6 (at_ Run.o v.al d).s 0 (v.c-1);have hW2:=za6 (at_ Run.o v.al d).l 1 (v.c-(at_ Run.o v.al d).s)
  have hbad:zbL v.c (at_ Run.o v.al d)≠0→Ck.first [0,0,goE (fun i=>zbL v.c (at_ Run.o v.al i)) v.al.length,goE (zbb v.ds) v.ds.length,if v.ds.length=0 then 17 else 0,zaO v.mp v.c]=zbL v.c (at_ Run.o v.al d):=fun he=>by
   rw[zaE,zaE,zb3 (E:=fun i=>zbL v.c (at_ Run.o v.al i)) hI hlt he,zaN he]
  obtain⟨p,hp⟩:∃p,wi (at_ Run.o v.al d).s 0 (v.c-1)=p:=⟨_,rfl⟩
  rw[hp] at hW1;cases p
  ·have he:zbL v.c (at_ Run.o v.al d)=2:=by unfold zbL;rw[hp];rfl
   rw[show Ck.first [if true=true then 0 else 2,0,goE (fun i=>zbL v.c (at_ Run.o v.al i)) v.al.length,goE (zbb v.ds) v.ds.length,if v.ds.length=0 then 17 else 0,zaO v.mp v.c]=2 from(hbad (by rw[he];decide)).trans he]
   (conv=>whnf);repeat(first|refine KIf.t rfl ?_|refine Need.mk ?_ ?_;(first|omega|(constructor<;>omega))|refine KCall.pure (hW1) ?_|refine KIf.t (decide_eq_true (by omega)) ?_);conv=>whnf
   refine .z [] ?_;exact zaa rfl
  ·have hs:0≤(at_ Run.o v.al d).s∧(at_ Run.o v.al d).s≤v.c-1:=by unfold wi at hp;simpa using hp
   obtain⟨q,hq⟩:∃q,wi (at_ Run.o v.al d).l 1 (v.c-(at_ Run.o v.al d).s)=q:=⟨_,rfl⟩
   rw[hq] at hW2;cases q
   ·have he:zbL v.c (at_ Run.o v.al d)=2:=by unfold zbL;rw[hp,hq];rfl
    rw[show Ck.first [if true=true then 0 else 2,0,goE (fun i=>zbL v.c (at_ Run.o v.al i)) v.al.length,goE (zbb v.ds) v.ds.length,if v.ds.length=0 then 17 else 0,zaO v.mp v.c]=2 from(hbad (by rw[he];decide)).trans he]
    (conv=>whnf);repeat(first|refine KIf.t rfl ?_|refine KIf.f rfl ?_|refine Need.mk ?_ ?_;(first|omega|(constructor<;>omega)|(simp only[Int.toNat_natCast];((constructor<;>omega))))|refine KCall.pure (hW1) ?_|refine KCall.pure (hW2) ?_|refine KIf.t (decide_eq_true (by omega)) ?_);conv=>whnf
    refine .z [] ?_;exact zaa rfl
   ·have he:zbL v.c (at_ Run.o v.al d)=0:=by unfold zbL;rw[hp,hq];rfl
    (conv=>whnf);repeat(first|refine KIf.f rfl ?_|refine Need.mk ?_ ?_;(first|omega|(constructor<;>omega)|(simp only[Int.toNat_natCast];((constructor<;>omega))))|refine KCall.pure (hW1) ?_|refine KCall.pure (hW2) ?_|refine KIf.t (decide_eq_true (by omega)) ?_);conv=>whnf
    refine⟨d+1,⟨hlt,fun j hj=> ?_⟩,by dsimp only;omega,?_⟩
    ·by_cases e:j=d
     ·rw[e];exact he
     ·exact hI j (by omega)
    ·(refine Weak.of [0] [] rfl rfl ?_ ?_<;>(repeat' first|exact zT|refine zA ?_ ?_)<;>(conv=>whnf)<;>(repeat'(exact rfl))<;>(first|(intro _ _;rfl)|(exact Or.inr ⟨rfl,rfl⟩)))
 have ha0:goE (fun i=>zbL v.c (at_ Run.o v.al i)) v.al.length=0:=zb4 fun k hk=>hI k (by omega)
 rw[ha0]
 (conv=>whnf);repeat(((refine KIf.f (decide_eq_false (by omega)) ?_;conv=>whnf)))
 refine WLoop.inv kmix (D:=Nat) (fun d=>v.ds.length-d) (fun d=>d≤v.ds.length∧∀j,j<d→zbb v.ds j=0) (fun d=>slots [(1, .ptr 0 0),(2,ib 0),(58,LS 1 aI 0 v.ds),(59,ib v.ds.length),(60,ib d)] 93) (fun d=>zaj [.row (aPt v) 26 0]) 0 ⟨Nat.zero_le _,fun j hj=>absurd hj (Nat.not_lt_zero _)⟩ ?_ ?_
 ·(refine Weak.of [0] [] rfl rfl ?_ ?_<;>(repeat' first|exact zT|refine zA ?_ ?_)<;>(conv=>whnf)<;>(repeat'(exact rfl))<;>(first|(intro _ _;rfl)|(exact Or.inr ⟨rfl,rfl⟩)))
 clear hI hd;rintro d ⟨hd,hI⟩;by_cases hlt:d<v.ds.length
 ·have hW1:=za6 (at_ 0 v.ds d) 1 2147483647
  have hbad:zbb v.ds d≠0→Ck.first [0,0,0,goE (zbb v.ds) v.ds.length,if v.ds.length=0 then 17 else 0,zaO v.mp v.c]=zbb v.ds d:=fun he=>by
   rw[zaE,zaE,zaE,zb3 hI hlt he,zaN he]
  obtain⟨p,hp⟩:∃p,wi (at_ 0 v.ds d) 1 2147483647=p:=⟨_,rfl⟩
  rw[hp] at hW1;cases p
  ·have he:zbb v.ds d=2:=by unfold zbb;rw[hp];rfl
   rw[show Ck.first [if true=true then 0 else 2,0,0,goE (zbb v.ds) v.ds.length,if v.ds.length=0 then 17 else 0,zaO v.mp v.c]=2 from(hbad (by rw[he];decide)).trans he]
   (conv=>whnf);repeat(first|refine KIf.t rfl ?_|refine Need.mk ?_ ?_;omega|refine KCall.pure (hW1) ?_|refine KIf.t (decide_eq_true (by omega)) ?_);conv=>whnf
   refine .z [] ?_;exact zaa rfl
  ·have next:zbb v.ds d=0→d+1≤v.ds.length∧∀j,j<d+1→zbb v.ds j=0:=fun he=>⟨hlt,fun j hj=>by
    by_cases e:j=d
    ·rw[e];exact he
    ·exact hI j (by omega)⟩
   cases d with
   |zero=>
    have he:zbb v.ds 0=0:=by unfold zbb;rw[hp,if_pos rfl,if_neg (by omega)]
    (conv=>whnf);repeat(first|refine KIf.f rfl ?_|refine Need.mk ?_ ?_;(first|trivial|omega)|refine KCall.pure (hW1) ?_|refine KIf.t (decide_eq_true (by omega)) ?_);conv=>whnf
    refine⟨0+1,next he,by dsimp only;omega,?_⟩
    (refine Weak.of [0] [] rfl rfl ?_ ?_<;>(repeat' first|exact zT|refine zA ?_ ?_)<;>(conv=>whnf)<;>(repeat'(exact rfl))<;>(first|(intro _ _;rfl)|(exact Or.inr ⟨rfl,rfl⟩)))
   |succ d=>
    have hj:(((d+1:Nat):Int)-1).toNat=d:=by omega
    have hix:0≤((d+1:Nat):Int)-1∧((d+1:Nat):Int)-1<v.ds.length:=by omega
    by_cases hle:at_ 0 v.ds (d+1)≤at_ 0 v.ds d
    ·have he:zbb v.ds (d+1)=9:=by unfold zbb;rw[hp,if_pos rfl,if_pos ⟨by omega,hle⟩]
     have hle':at_ 0 v.ds (d+1)≤at_ 0 v.ds (((d+1:Nat):Int)-1).toNat:=by rw[hj];exact hle
     rw[show Ck.first [if true=true then 0 else 2,0,0,goE (zbb v.ds) v.ds.length,if v.ds.length=0 then 17 else 0,zaO v.mp v.c]=9 from(hbad (by rw[he];decide)).trans he]
     (conv=>whnf);repeat(first|refine KIf.dt ?_ ?_;assumption|refine KIf.f rfl ?_|refine Need.mk ?_ ?_;(first|trivial|omega|(constructor<;>omega))|refine KCall.pure (hW1) ?_|refine KIf.t (decide_eq_true (by omega)) ?_);conv=>whnf
     refine .z [] ?_;exact zaa rfl
    ·have he:zbb v.ds (d+1)=0:=by unfold zbb;rw[hp,if_pos rfl,if_neg (fun c=>hle c.2)]
     have hle':¬at_ 0 v.ds (d+1)≤at_ 0 v.ds (((d+1:Nat):Int)-1).toNat:=by rw[hj];exact hle
     (conv=>whnf);repeat(first|refine KIf.df ?_ ?_;assumption|refine KIf.f rfl ?_|refine Need.mk ?_ ?_;(first|trivial|omega|(constructor<;>omega))|refine KCall.pure (hW1) ?_|refine KIf.t (decide_eq_true (by omega)) ?_);conv=>whnf
     refine⟨d+1+1,next he,by dsimp only;omega,?_⟩
     (refine Weak.of [0] [] rfl rfl ?_ ?_<;>(repeat' first|exact zT|refine zA ?_ ?_)<;>(conv=>whnf)<;>(repeat'(exact rfl))<;>(first|(intro _ _;rfl)|(exact Or.inr ⟨rfl,rfl⟩)))
 have hd0:goE (zbb v.ds) v.ds.length=0:=zb4 fun k hk=>hI k (by omega)
 rw[hd0];by_cases hz:v.ds.length=0
 ·rw[if_pos hz];have hf:=ziF [17,zaO v.mp v.c] (by decide:(2:Nat)≤1000000);have hU:=zbe (decide (0<(v.ds.length:Int))) 17;rw[if_neg (by rw[hz];decide)] at hU
  (conv=>whnf);repeat(first|refine Need.mk (p:=zah _=true) ?_ ?_;decide+kernel|refine DCall.pure (hU) ?_|refine DCall.pure (hM) ?_|refine DCall.frz [1] (hf) ⟨Wz.ownS rfl (by simp) rfl (Nat.le_refl 2) (fun _ _=>rfl) rfl (fun _ _=>rfl),trivial⟩ ?_|refine KIf.f (decide_eq_false (by omega)) ?_);conv=>whnf
  refine .z [] ?_;exact zaa rfl
 ·rw[if_neg hz];have hf:=ziF [0,zaO v.mp v.c] (by decide:(2:Nat)≤1000000);have hU:=zbe (decide (0<(v.ds.length:Int))) 17;rw[if_pos (decide_eq_true (by omega))] at hU
  (conv=>whnf);repeat(first|refine Need.mk (p:=zah _=true) ?_ ?_;decide+kernel|refine DCall.pure (hU) ?_|refine DCall.pure (hM) ?_|refine DCall.frz [1] (hf) ⟨Wz.ownS rfl (by simp) rfl (Nat.le_refl 2) (fun _ _=>rfl) rfl (fun _ _=>rfl),trivial⟩ ?_|refine KIf.f (decide_eq_false (by omega)) ?_);conv=>whnf
  refine .z [] ?_;exact zaa rfl
theorem cCheckParts_k (v:Pt) (h:FitP v):PureC Tryz.prog 12 [aPts v] (.tup [ib (Ck.partsIx v),ib (Ck.partsErr v)]):=by
 have hW:=wholeErr_k v h.f.al h.f.ds h.mp;have hfr:=h.f.rs;unfold partsIx partsErr;refine PureC.of kmix rfl ?_;by_cases hw:za1 v=0
 ·rw[if_neg (fun c=>c hw),hw,zaE];rw[hw] at hW;by_cases h5:v.rs.length≤5
  ·have hre:zaU v=6:=by unfold zaU;rw[if_pos (.inl h5)]
   rw[hre,if_pos (by decide),zaN (by decide)]
   (conv=>whnf);repeat(first|refine KIf.t rfl ?_|refine KIf.f rfl ?_|refine KCall.pure (hW) ?_|refine KIf.t (decide_eq_true (by omega)) ?_);conv=>whnf
   refine .z [] ?_;unfold Wz;exact Wzc (zaa rfl) (Wzc (zaa rfl) Wzn)
  ·have hix:(0:Int)≤5∧(5:Int)<v.rs.length:=by omega
   cases hu:(at_ Rc.o v.rs 5).u
   ·have hre:zaU v=6:=by unfold zaU;rw[if_pos (.inr (.inl hu))]
    rw[hre,if_pos (by decide),zaN (by decide)]
    (conv=>whnf);repeat(first|refine KIf.t rfl ?_|refine KIf.f rfl ?_|refine KIf.t ?_ ?_;(focus(simp only[Bool.not_eq_true',Bool.not_eq_false',Bool.not_true,Bool.not_false];assumption))|refine Need.mk ?_ ?_;trivial|refine KCall.pure (hW) ?_|refine KIf.f (decide_eq_false (by omega)) ?_);conv=>whnf
    refine .z [] ?_;unfold Wz;exact Wzc (zaa rfl) (Wzc (zaa rfl) Wzn)
   ·by_cases hk:(at_ Rc.o v.rs 5).k=0
    ·have hre:zaU v=0:=by unfold zaU;rw[if_neg (fun c=>c.elim h5 fun c=>c.elim (fun c=>by rw[hu] at c;cases c) fun c=>c hk)]
     rw[hre,if_neg (fun c=>c rfl),zaE];unfold zff
     have hR:∀d,d<v.rs.length→PureC Tryz.prog 47 [ib (d:Nat),aRcs (at_ Rc.o v.rs d)] (ib (zbg d (at_ Rc.o v.rs d))):=fun d hd=>by
      have hm:=at_mem Rc.o v.rs d hd;exact recordErr_k d _ (h.f.ns _ hm) (h.f.ss _ hm) (h.f.es _ hm) (h.f.rr _ hm) (h.nl _ hm) (h.el _ hm)
     (conv=>whnf);repeat(first|refine KIf.f rfl ?_|refine KIf.f ?_ ?_;(focus(simp only[Bool.not_eq_true',Bool.not_eq_false',Bool.not_true,Bool.not_false];assumption))|refine Need.mk ?_ ?_;trivial|refine KCall.pure (hW) ?_|refine KIf.f (congrArg Bool.not (decide_eq_true hk)) ?_|refine KIf.f (decide_eq_false (by omega)) ?_);conv=>whnf
     refine WLoop.inv kmix (D:=Nat) (fun d=>v.rs.length-d) (fun d=>d≤v.rs.length∧∀j,j<d→zbg j (at_ Rc.o v.rs j)=0) (fun d=>slots [(1, .ptr 0 0),(2,ib 0),(3,ib 0),(34,LS 10 aRc Rc.o v.rs),(35,ib v.rs.length),(36,ib d)] 49) (fun d=>zaj [.row (aPt v) 26 0]) 0 ⟨Nat.zero_le _,fun j hj=>absurd hj (Nat.not_lt_zero _)⟩ ?_ ?_
     ·(refine Weak.of [0] [] rfl rfl ?_ ?_<;>(repeat' first|exact zT|refine zA ?_ ?_)<;>(conv=>whnf)<;>(repeat'(exact rfl))<;>(first|(intro _ _;rfl)|(exact Or.inr ⟨rfl,rfl⟩)))
     rintro d ⟨hd,hI⟩;by_cases hlt:d<v.rs.length
     ·have hE:=hR d hlt;by_cases he:zbg d (at_ Rc.o v.rs d)=0
      ·(conv=>whnf);repeat(first|refine Need.mk ?_ ?_;(first|omega|(constructor<;>omega))|refine KCall.pure (hE) ?_|refine KIf.f (congrArg Bool.not (decide_eq_true he)) ?_|refine KIf.t (decide_eq_true (by omega)) ?_);conv=>whnf
       refine⟨d+1,⟨hlt,fun j hj=> ?_⟩,by dsimp only;omega,?_⟩
       ·by_cases e:j=d
        ·rw[e];exact he
        ·exact hI j (by omega)
       ·(refine Weak.of [0] [] rfl rfl ?_ ?_<;>(repeat' first|exact zT|refine zA ?_ ?_)<;>(conv=>whnf)<;>(repeat'(exact rfl))<;>(first|(intro _ _;rfl)|(exact Or.inr ⟨rfl,rfl⟩)))
      ·rw[zb3 (E:=fun i=>zbg i (at_ Rc.o v.rs i)) hI hlt he,ziB (fun i=>zbg i (at_ Rc.o v.rs i)) (zeS _ d hI) he _ hlt,zaN he]
       (conv=>whnf);repeat(first|refine Need.mk ?_ ?_;omega|refine KCall.pure (hE) ?_|refine KIf.t (congrArg Bool.not (decide_eq_false he)) ?_|refine KIf.t (decide_eq_true (by omega)) ?_);conv=>whnf
       refine .z [] ?_;unfold Wz;exact Wzc (zaa rfl) (Wzc (zaa rfl) Wzn)
     ·have h0:goE (fun i=>zbg i (at_ Rc.o v.rs i)) v.rs.length=0:=zb4 fun k hk=>hI k (by omega)
      rw[ziA _ _ h0,h0]
      (conv=>whnf);repeat(((refine KIf.f (decide_eq_false (by omega)) ?_;conv=>whnf)))
      refine .z [] ?_;unfold Wz;exact Wzc (zaa rfl) (Wzc (zaa rfl) Wzn)
    ·have hre:zaU v=6:=by unfold zaU;rw[if_pos (.inr (.inr hk))]
     rw[hre,if_pos (by decide),zaN (by decide)]
     (conv=>whnf);repeat(first|refine KIf.f rfl ?_|refine KIf.f ?_ ?_;(focus(simp only[Bool.not_eq_true',Bool.not_eq_false',Bool.not_true,Bool.not_false];assumption))|refine Need.mk ?_ ?_;trivial|refine KCall.pure (hW) ?_|refine KIf.t (congrArg Bool.not (decide_eq_false hk)) ?_|refine KIf.f (decide_eq_false (by omega)) ?_);conv=>whnf
     refine .z [] ?_;unfold Wz;exact Wzc (zaa rfl) (Wzc (zaa rfl) Wzn)
 ·rw[if_pos hw,zaN hw]
  (conv=>whnf);repeat(first|refine KCall.pure (hW) ?_|refine KIf.t (congrArg Bool.not (decide_eq_false hw)) ?_);conv=>whnf
  refine .z [] ?_;unfold Wz;exact Wzc (zaa rfl) (Wzc (zaa rfl) Wzn)
end Go.Proofs.YtgcjejajljhnaaaGreatDoor
