/- Own text, part Rprt 4: walks of the package acl and of its reference, and the plain laws that they lean on; no statement of the seat is here. -/
import Derived.Test.YtgcjejajljhnaaaGreatDoorRprt1
import Derived.Test.YtgcjejajljhnaaaGreatDoorRprt3
set_option linter.all false
namespace Go.Ex
open Go
abbrev KC :=AV->St->Prop
structure KIf (b:Bool) (p q:Prop):Prop where
 intro::
 h1:b=true->p
 h2:b=false->q
theorem KIf.mk {b:Bool} {p q:Prop} (h1:b=true->p) (h2:b=false->q):KIf b p q:=⟨h1,h2⟩
theorem KIf.t {b:Bool} {p q:Prop} (hb:b=true) (h:p):KIf b p q:=⟨λ_=>h,λe=>by rw[hb] at e;cases e⟩
theorem KIf.f {b:Bool} {p q:Prop} (hb:b=false) (h:q):KIf b p q:=⟨λe=>(by rw[hb] at e;cases e),λ_=>h⟩
theorem KIf.ok {b:Bool} {p q:Prop} (h:KIf b p q):(b=true->p)/\(b=false->q):=⟨h.h1,h.h2⟩
theorem KIf.tt {p q:Prop} (h:KIf true p q):p:=h.ok.1 rfl
theorem KIf.ff {p q:Prop} (h:KIf false p q):q:=h.ok.2 rfl
theorem KIf.dec {P:Prop} [Decidable P] {p q:Prop} (h1:P->p) (h2:¬P->q):KIf (decide P) p q:=KIf.mk (λh=>h1 (yiZ h)) λh=>h2 (of_decide_eq_false h)
theorem KIf.dt {P:Prop} [Decidable P] {p q:Prop} (hb:P) (h:p):KIf (decide P) p q:=KIf.t (ybX hb) h
theorem KIf.df {P:Prop} [Decidable P] {p q:Prop} (hb:¬P) (h:q):KIf (decide P) p q:=KIf.f (ycX hb) h
structure NCase (n:Nat) (p q:Prop):Prop where
 intro::
 h1:n=0->p
 h2:n≠0->q
theorem NCase.z {n:Nat} {p q:Prop} (hn:n=0) (h:p):NCase n p q:=⟨λ_=>h,λe=>absurd hn e⟩
theorem NCase.zz {p q:Prop} (h:NCase 0 p q):p:=h.h1 rfl
theorem NCase.ss {n:Nat} {p q:Prop} (h:NCase (n+1) p q):q:=h.h2 (by simp)
theorem NCase.s {n:Nat} {p q:Prop} (hn:n≠0) (h:q):NCase n p q:=⟨λe=>absurd e hn,λ_=>h⟩
structure Need (p q:Prop):Prop where
 a:p
 b:q
def Small (n:Int):Prop:= -9223372036854775808<=n/\n<=9223372036854775807
structure Bx (q:Prop):Prop where
 a:q
theorem g {p q:Prop} (k:q) (h:Bx q->p:=by(intro kQ;(first|(refine Ex.NCase.s (Nat.succ_ne_zero _) ?_)|(refine Ex.KIf.dt ?_ ?_;assumption)|(refine Ex.KIf.df ?_ ?_;assumption)|(refine Ex.KIf.t ?_ ?_;assumption)|(refine Ex.KIf.f ?_ ?_;assumption)|(refine Ex.KIf.t rfl ?_)|(refine Ex.KIf.f rfl ?_)|(refine Ex.KIf.t ?_ ?_;(focus(simp only[y1X,yeZ,Bool.not_true,yGZ];assumption)))|(refine Ex.KIf.f ?_ ?_;(focus(simp only[y1X,yeZ,Bool.not_true,yGZ];assumption)))|(refine Ex.Need.mk (p:=Ex.zqG _=true) ?_ ?_;decide+kernel)|(refine Ex.Need.mk ?_ ?_;(first|trivial|omega|(constructor<;>omega)|(simp only[yrX];first|omega|(constructor<;>omega)))));exact kQ.a)):p:=h ⟨k⟩
theorem go {p q:Prop} (k:q) (h:Bx q->p:=by(intro kQ;(conv=>whnf);(repeat((first|(refine Ex.NCase.s (Nat.succ_ne_zero _) ?_)|(refine Ex.KIf.dt ?_ ?_;assumption)|(refine Ex.KIf.df ?_ ?_;assumption)|(refine Ex.KIf.t ?_ ?_;assumption)|(refine Ex.KIf.f ?_ ?_;assumption)|(refine Ex.KIf.t rfl ?_)|(refine Ex.KIf.f rfl ?_)|(refine Ex.KIf.t ?_ ?_;(focus(simp only[y1X,yeZ,Bool.not_true,yGZ];assumption)))|(refine Ex.KIf.f ?_ ?_;(focus(simp only[y1X,yeZ,Bool.not_true,yGZ];assumption)))|(refine Ex.Need.mk (p:=Ex.zqG _=true) ?_ ?_;decide+kernel)|(refine Ex.Need.mk ?_ ?_;(first|trivial|omega|(constructor<;>omega)|(simp only[yrX];first|omega|(constructor<;>omega)))));conv=>whnf));exact kQ.a)):p:=h ⟨k⟩
theorem om {p q:Prop} (k:q) (h:Bx q->p:=by(intro kQ;(first|(refine Ex.KIf.t (ybX ?_) ?_;omega)|(refine Ex.KIf.f (ycX ?_) ?_;omega)|(refine Ex.KIf.t (yqX Bool.not (ycX ?_)) ?_;omega)|(refine Ex.KIf.f (yqX Bool.not (ybX ?_)) ?_;omega));exact kQ.a)):p:=h ⟨k⟩
def T.putEK {α:Type}:Nat->Nat->Option α->(T α->Prop)->Prop
 |0,_,_,K=>K .e
 |d+1,k,x,K=>match k with
  |0=>K (.n .e x .e)
  |k+1=>match Nat.beq (Nat.mod k 2) 0 with
   |true=>T.putEK d (Nat.div k 2) x λl=>K (.n l none .e)
   |false=>T.putEK d (Nat.div k 2) x λr=>K (.n .e none r)
theorem T.putEK_ok {α:Type}:∀(d:Nat) (k:Nat) (x:Option α) (K:T α->Prop),T.putEK d k x K->K (T.putE d k x)
 |0,k,x,K,h=>h
 |d+1,0,x,K,h=>h
 |d+1,k+1,x,K,h=>by
  unfold T.putEK at h;simp only at h;show K (match Nat.beq (Nat.mod k 2) 0 with|true=> .n (T.putE d (Nat.div k 2) x) none .e|false=> .n .e none (T.putE d (Nat.div k 2) x));split at h
  ·exact T.putEK_ok d _ x _ h
  ·exact T.putEK_ok d _ x _ h
def T.putK {α:Type}:T α->Nat->Option α->(T α->Prop)->Prop
 | .e,k,x,K=>T.putEK (Nat.succ k) k x K
 | .n l v r,k,x,K=>match k with
  |0=>K (.n l x r)
  |k+1=>match Nat.beq (Nat.mod k 2) 0 with
   |true=>T.putK l (Nat.div k 2) x λl=>K (.n l v r)
   |false=>T.putK r (Nat.div k 2) x λr=>K (.n l v r)
 | .f a b g t,k,x,K=>match inR a b k with
  |true=>K (.f a b (zpD g (Nat.sub k a) x) t)
  |false=>T.putK t k x λt=>K (.f a b g t)
theorem T.putK_ok {α:Type}:∀(t:T α) (k:Nat) (x:Option α) (K:T α->Prop),T.putK t k x K->K (T.put t k x)
 | .e,k,x,K,h=>T.putEK_ok _ _ _ K h
 | .n l v r,0,x,K,h=>h
 | .n l v r,k+1,x,K,h=>by
  unfold T.putK at h;simp only at h;show K (match Nat.beq (Nat.mod k 2) 0 with|true=> .n (T.put l (Nat.div k 2) x) v r|false=> .n l v (T.put r (Nat.div k 2) x));split at h
  ·exact T.putK_ok l _ x _ h
  ·exact T.putK_ok r _ x _ h
 | .f a b g t,k,x,K,h=>by
  unfold T.putK at h;show K (match inR a b k with|true=> .f a b (zpD g (Nat.sub k a) x) t|false=> .f a b g (T.put t k x));split at h
  ·exact h
  ·exact T.putK_ok t k x (λt=>K (.f a b g t)) h
def Tm.putK (t:Tm) (d:Option Tmp) (v:AV) (K:Tm->Prop):Prop:=
 match d with
 |none=>K t
 |some d=>match t with
  |⟨t,n⟩=>match Nat.blt d n with
   |true=>T.putK t d (some v) λt'=>K ⟨t',n⟩
   |false=>False
theorem Tm.putK_ok {t:Tm} {d:Option Tmp} {v:AV} {K:Tm->Prop} (h:t.putK d v K):∃t',t.put d v= .ok t'/\K t':=by
 obtain⟨t,n⟩:=t
 cases d with
 |none=>exact⟨_,rfl,h⟩
 |some d=>
  unfold Tm.putK at h;unfold Tm.put;simp only at h⊢;split at h
  ·rename_i hb;simp only[hb];exact⟨_,rfl,T.putK_ok _ _ _ (λt'=>K ⟨t',n⟩) h⟩
  ·exact h.elim
def lits :List Nat:=[0,1,2,3,4,5,6,7,8,9,10,11,12,13,14,15,16,17,18,19,20,21,22,23,24,25,26,27,28,29,30,31,32,33,34,35,36,37,38,39,40,41,42,43,44,45,46,47,48,49,50,51,52,53,54,55,56,57,58,59,60,61,62,63,64,65,66,67,68,69,70,71,72,73,74,75,76,77,78,79,80,81,82,83,84,85,86,87,88,89,90,91,92,93,94,95,96,97,98,99,100,101,102,103,104,105,106,107,108,109,110,111,112,113,114,115,116,117,118,119,120,121,122,123,124,125,126,127,128,129,130,131,132,133,134,135,136,137,138,139,140,141,142,143,144,145,146,147,148,149,150,151,152,153,154,155,156,157,158,159,160,161,162,163,164,165,166,167,168,169,170,171,172,173,174,175,176,177,178,179,180,181,182,183,184,185,186,187,188,189,190,191,192,193,194,195,196,197,198,199,200,201,202,203,204,205,206,207,208,209,210,211,212,213,214,215,216,217,218,219,220,221,222,223,224,225,226,227,228,229,230,231,232,233,234,235,236,237,238,239,240,241,242,243,244,245,246,247,248,249,250,251,252,253,254,255,256,257,258,259,260,261,262,263,264,265,266,267,268,269,270,271,272,273,274,275,276,277,278,279,280,281,282,283,284,285,286,287,288,289,290,291,292,293,294,295,296,297,298,299,300,301,302,303,304,305,306,307,308,309,310,311,312,313,314,315,316,317,318,319,320,321,322,323,324,325,326,327,328,329,330,331,332,333,334,335,336,337,338,339,340,341,342,343,344,345,346,347,348,349,350,351,352,353,354,355,356,357,358,359,360,361,362,363,364,365,366,367,368,369,370,371,372,373,374,375,376,377,378,379,380,381,382,383,384,385,386,387,388,389,390,391,392,393,394,395,396,397,398,399,400,401,402,403,404,405,406,407,408,409,410,411,412,413,414,415,416,417,418,419,420,421,422,423,424,425,426,427,428,429,430,431,432,433,434,435,436,437,438,439,440,441,442,443,444,445,446,447,448,449]
theorem zqZ :∀n b,nth lits n=some b->b=n:=by
 have h:(List.range 450).all (λn=>nth lits n==some n)=true:=by decide+kernel
 intro n b hb;by_cases hn:n<450
 ·have:=yNY.1 h n (by simpa using hn);rw[yiY] at this;rw[this] at hb;cases hb;rfl
 ·rw[zbc,yyX (by have:lits.length=450:=(by decide+kernel);omega)] at hb;cases hb
def Nat.forceK (n:Nat) (K:Nat->Prop):Prop:=match nth lits n with|some b=>K b|none=>K n
theorem Nat.forceK_ok {n:Nat} {K:Nat->Prop} (h:Nat.forceK n K):K n:=by
 unfold Nat.forceK at h;split at h
 ·rename_i b hb;rw[←zqZ n b hb];exact h
 ·exact h
def AO.forceK (o:AO) (K:AO->Prop):Prop:=match o with| .row c e s=>Nat.forceK e λe=>Nat.forceK s λs=>K (.row c e s)| .iter s p=>K (.iter s p)
theorem AO.forceK_ok {o:AO} {K:AO->Prop} (h:o.forceK K):K o:=by
 cases o with
 |row c e s=>exact Nat.forceK_ok (K:=λs=>K (.row c e s)) (Nat.forceK_ok (K:=λe=>Nat.forceK s λs=>K (.row c e s)) h)
 |iter s p=>exact h
def T.nfK :T AO->(T AO->Prop)->Prop
 | .e,K=>K .e
 | .n l v r,K=>T.nfK l λl=>match v with
  |none=>T.nfK r λr=>K (.n l none r)
  |some o=>o.forceK λo=>T.nfK r λr=>K (.n l (some o) r)
 | .f a b g t,K=>T.nfK t λt=>K (.f a b g t)
theorem T.nfK_ok :∀(t:T AO) (K:T AO->Prop),t.nfK K->K t
 | .e,K,h=>h
 | .n l v r,K,h=>by
  have h1:=T.nfK_ok l _ h
  cases v with
  |none=>exact T.nfK_ok r _ h1
  |some o=>exact T.nfK_ok r _ (AO.forceK_ok h1)
 | .f a b g t,K,h=>T.nfK_ok t (λt=>K (.f a b g t)) h
def St.nfK (s:St) (K:St->Prop):Prop:=match s with|⟨h,n⟩=>Nat.forceK n λn=>T.nfK h λh=>K ⟨h,n⟩
theorem St.nfK_ok {s:St} {K:St->Prop} (h:s.nfK K):K s:=T.nfK_ok s.h _ (Nat.forceK_ok (K:=λn=>T.nfK s.h λh=>K ⟨h,n⟩) h)
def Value.forceK (v:Value) (K:Value->Prop):Prop:=
 match v with
 | .int k n=>K (.int k n)
 | .bool b=>K (.bool b)
 | .string b=>match b with|⟨⟨l⟩⟩=>K (.string ⟨⟨l⟩⟩)
 | .slice a n c=>K (.slice a n c)
 | .pointer a=>K (.pointer a)
 | .agg l=>K (.agg l)
 | .tuple l=>K (.tuple l)
 |v=>K v
theorem Value.forceK_ok {v:Value} {K:Value->Prop} (h:Value.forceK v K):K v:=by
 cases v<;>exact h
def AV.forceK (v:AV) (K:AV->Prop):Prop:=
 match v with
 | .sc x=>Value.forceK x λx=>K (.sc x)
 | .agg l=>K (.agg l)
 | .tup l=>K (.tup l)
 | .ptr b o=>K (.ptr b o)
 | .lst sz n f=>K (.lst sz n f)
 | .cp cs o=>K (.cp cs o)
 | .sl b o l c=>K (.sl b o l c)
 | .so b o l c=>K (.so b o l c)
 |v=>K v
theorem AV.forceK_ok {v:AV} {K:AV->Prop} (h:v.forceK K):K v:=by
 cases v with
 |sc x=>exact Value.forceK_ok (K:=λx=>K (.sc x)) h
 |_=>exact h
def AV.forceB (v:AV) (K:AV->Prop):Prop:=
 match v with
 | .ptr b o=>Nat.forceK b λb=>K (.ptr b o)
 | .sl b o l c=>Nat.forceK b λb=>K (.sl b o l c)
 | .so b o l c=>Nat.forceK b λb=>K (.so b o l c)
 |v=>v.forceK K
theorem AV.forceB_ok {v:AV} {K:AV->Prop} (h:v.forceB K):K v:=by
 cases v with
 |ptr b o=>exact Nat.forceK_ok (K:=λb=>K (.ptr b o)) h
 |sl b o l c=>exact Nat.forceK_ok (K:=λb=>K (.sl b o l c)) h
 |so b o l c=>exact Nat.forceK_ok (K:=λb=>K (.so b o l c)) h
 |_=>exact AV.forceK_ok h
def zlq (s:St) (o:AO) (K:Nat->St->Prop):Prop:=match s with|⟨h,n⟩=>(⟨h.put n (some o),Nat.succ n⟩:St).nfK λs'=>K n s'
theorem zd7 {s:St} {o:AO} {K:Nat->St->Prop} (h:zlq s o K):K s.n (s.new o):=by
 obtain⟨h0,n0⟩:=s;exact St.nfK_ok (s:=⟨h0.put n0 (some o),Nat.succ n0⟩) (K:=λs'=>K n0 s') h
def zri (s:St) (b:Nat) (o:AO) (K:Nat->St->Prop):Prop:=match s with|⟨h,n⟩=>(⟨(h.put b none).put n (some o),Nat.succ n⟩:St).nfK λs'=>K n s'
theorem zlp {s:St} {b:Nat} {o:AO} {K:Nat->St->Prop} (h:zri s b o K):K s.n ⟨(s.h.put b none).put s.n (some o),Nat.succ s.n⟩:=by
 obtain⟨h0,n0⟩:=s;exact St.nfK_ok (s:=⟨(h0.put b none).put n0 (some o),Nat.succ n0⟩) (K:=λs'=>K n0 s') h
def NxK (P:Program) (s:St) (K:KC):Nx->Prop
 | .val v s'=>K v s'
 | .enter f args=>∃v s',CallOk P f args s v s'/\s.n<=s'.n/\K v s'
def OpDoes (P:Program) (t:Tm) (s:St) (o:Oper) (K:KC):Prop:=∃nx,za7 P t s o= .ok nx/\NxK P s K nx
structure KCall (P:Program) (f:FuncId) (args:List AV) (s:St) (K:KC):Prop where
 h:∃v s',CallOk P f args s v s'/\s.n<=s'.n/\K v s'
def RK {α:Type} (r:R α) (K:α->Prop):Prop:=match r with| .ok a=>K a| .no _=>False
theorem zbA {α:Type} {r:R α} {K:α->Prop} (h:RK r K):∃a,r= .ok a/\K a:=by
 cases r with
 |ok a=>exact⟨a,rfl,h⟩
 |no _=>exact h.elim
def zpx (P:Program) (t:Tm) (s:St) (o:Oper) (K:KC):Prop:=
 match za7 P t s o with
 | .ok (.val v s')=>v.forceK λv=>K v s'
 | .ok (.enter f args)=>KCall P f args s K
 | .no _=>False
theorem zc3 {P:Program} {t:Tm} {s:St} {o:Oper} {K:KC} (h:zpx P t s o K):OpDoes P t s o K:=by
 unfold zpx at h;split at h
 ·rename_i hop;exact⟨_,hop,AV.forceK_ok h⟩
 ·rename_i hop;exact⟨_,hop,h.h⟩
 ·exact h.elim
def zsr (P:Program) (t:Tm) (s:St) (o:Oper) (K:KC):Prop:=zpx P t s o λv s'=>s'.nfK λs'=>K v s'
def zyu (P:Program) (t:Tm) (s:St) (o:Oper) (K:KC):Prop:=
 match za7 P t s o with
 | .ok (.val v s')=>v.forceB λv=>s'.nfK λs'=>K v s'
 | .ok (.enter f args)=>KCall P f args s K
 | .no _=>False
theorem zvM {P:Program} {t:Tm} {s:St} {o:Oper} {K:KC} (h:zyu P t s o K):OpDoes P t s o K:=by
 unfold zyu at h;split at h
 ·rename_i v s' hop;exact⟨_,hop,St.nfK_ok (K:=λs'=>K v s') (AV.forceB_ok (K:=λv=>s'.nfK λs'=>K v s') h)⟩
 ·rename_i hop;exact⟨_,hop,h.h⟩
 ·exact h.elim
theorem OpDoes.mono {P:Program} {t:Tm} {s:St} {o:Oper} {K K':KC} (h:OpDoes P t s o K) (hk:∀v s',K v s'->K' v s'):OpDoes P t s o K':=by
 obtain⟨nx,h1,h2⟩:=h;refine⟨nx,h1,?_⟩
 cases nx with
 |val v s'=>exact hk _ _ h2
 |enter f args=>obtain⟨v,s',h3,h4,h5⟩:=h2;exact⟨v,s',h3,h4,hk _ _ h5⟩
theorem zdx {P:Program} {t:Tm} {s:St} {o:Oper} {K:KC} (h:zsr P t s o K):OpDoes P t s o K:=(zc3 h).mono λ_ _ h=>St.nfK_ok h
def zeL (k:IntKind) (n:Int):Int:=k.wrap n
def zfH (op:BinOp) (k:IntKind) (a b:Int):Int:=
 k.wrap ((match op with
  | .and=>BitVec.ofInt k.bits a&&&BitVec.ofInt k.bits b
  | .or=>BitVec.ofInt k.bits a|||BitVec.ofInt k.bits b
  | .xor=>BitVec.ofInt k.bits a^^^BitVec.ofInt k.bits b
  |_=>BitVec.ofInt k.bits a&&& ~~~BitVec.ofInt k.bits b).toNat:Nat)
def zuZ (k:IntKind) (a b:Int):Int:=k.wrap (a*2^min b.toNat k.bits)
def zoy (k:IntKind) (a b:Int):Int:=a.fdiv (2^min b.toNat k.bits)
def zmF (op:BinOp) (k:IntKind) (a b:Int) (s:St) (K:KC):Prop:=
 match op with
 | .add=>match k with| .i64=>Need (Small (a+b)) (K (.sc (.int .i64 (a+b))) s)|k=>K (.sc (.int k (zeL k (a+b)))) s
 | .sub=>match k with| .i64=>Need (Small (a-b)) (K (.sc (.int .i64 (a-b))) s)|k=>K (.sc (.int k (zeL k (a-b)))) s
 | .mul=>match k with| .i64=>Need (Small (a*b)) (K (.sc (.int .i64 (a*b))) s)|k=>K (.sc (.int k (zeL k (a*b)))) s
 | .quo=>match k with| .i64=>Need (b≠0/\Small (a.tdiv b)) (K (.sc (.int .i64 (a.tdiv b))) s)|k=>Need (b≠0) (K (.sc (.int k (zeL k (a.tdiv b)))) s)
 | .rem=>Need (b≠0) (K (.sc (.int k (a.tmod b))) s)
 | .and=>K (.sc (.int k (zfH .and k a b))) s
 | .or=>K (.sc (.int k (zfH .or k a b))) s
 | .xor=>K (.sc (.int k (zfH .xor k a b))) s
 | .andNot=>K (.sc (.int k (zfH .andNot k a b))) s
 | .shl=>Need (0<=b) (K (.sc (.int k (zuZ k a b))) s)
 | .shr=>Need (0<=b) (K (.sc (.int k (zoy k a b))) s)
 | .eql=>K (.sc (.bool (decide (a=b)))) s
 | .neq=>K (.sc (.bool (!decide (a=b)))) s
 | .lss=>K (.sc (.bool (decide (a<b)))) s
 | .leq=>K (.sc (.bool (decide (a<=b)))) s
 | .gtr=>K (.sc (.bool (decide (b<a)))) s
 | .geq=>K (.sc (.bool (decide (b<=a)))) s
def zhv (P:Program) (t:Tm) (s:St) (o:Oper) (K:KC):Prop:=
 match zaR P t s o with
 | .ok (.val v s')=>v.forceK λv=>K v s'
 |_=>False
theorem zhu {P:Program} {t:Tm} {s:St} {o:Oper} {K:KC} (h:zhv P t s o K):∃nx,zaR P t s o= .ok nx/\NxK P s K nx:=by
 unfold zhv at h;split at h
 ·rename_i hop;exact⟨_,hop,AV.forceK_ok h⟩
 ·exact h.elim
structure EqK (P:Program) (T:TypeId) (x y:List AV) (K:Bool->Prop):Prop where
 intro::
 h:RK (eqO P T (.agg x) (.agg y)) K
theorem EqK.of {P:Program} {T:TypeId} {x y:List AV} {K:Bool->Prop} {b:Bool} (h:eqO P T (.agg x) (.agg y)= .ok b) (hk:K b):EqK P T x y K:=⟨by rw[h];exact hk⟩
def zx4 (P:Program) (T:TypeId) (x y:AV) (K:Bool->Prop):Prop:=
 match x with
 | .agg l=>match y with
  | .agg l'=>EqK P T l l' K
  |_=>RK (eqO P T x y) K
 |_=>RK (eqO P T x y) K
theorem zru {P:Program} {T:TypeId} {x y:AV} {K:Bool->Prop} (h:zx4 P T x y K):RK (eqO P T x y) K:=by
 unfold zx4 at h;split at h
 ·split at h
  ·exact h.h
  ·exact h
 ·exact h
def eqK (P:Program) (T:TypeId) (op:BinOp) (x y:AV) (s:St) (K:KC) (other:Prop):Prop:=
 match op with
 | .eql=>zx4 P T x y λb=>K (.sc (.bool b)) s
 | .neq=>zx4 P T x y λb=>K (.sc (.bool (!b))) s
 |_=>other
def zyG (P:Program) (t:Tm) (s:St) (o:Oper) (op:BinOp) (T:TypeId) (x y:AV) (K:KC):Prop:=
 match x with
 | .sc (.int k a)=>match y with
  | .sc (.int k' b)=>(match op with
   | .shl=>Need (0<=b) (K (.sc (.int k (zuZ k a b))) s)
   | .shr=>Need (0<=b) (K (.sc (.int k (zoy k a b))) s)
   |_=>match sameKind k k' with|true=>zmF op k a b s K|false=>zhv P t s o K)
  |_=>zhv P t s o K
 | .sc (.string ⟨⟨a⟩⟩)=>match y with
  | .sc (.string ⟨⟨b⟩⟩)=>(match op with
   | .add=>Need (a.length+b.length<=9223372036854775807) (K (.sc (.string ⟨⟨a++b⟩⟩)) s)
   |_=>eqK P T op x y s K (zhv P t s o K))
  |_=>False
 |_=>eqK P T op x y s K (zhv P t s o K)
def unK (P:Program) (t:Tm) (s:St) (o:Oper) (op:UnOp) (x:AV) (K:KC):Prop:=
 match op with
 | .not=>match x with| .sc (.bool b)=>K (.sc (.bool (!b))) s|_=>zpx P t s o K
 | .neg=>match x with
  | .sc (.int k a)=>match k with| .i64=>Need (Small (0-a)) (K (.sc (.int .i64 (0-a))) s)|_=>zpx P t s o K
  |_=>zpx P t s o K
 |_=>zpx P t s o K
def zvl (P:Program) (t:Tm) (s:St) (o:Oper) (c a b:AV) (K:KC):Prop:=
 match c with| .sc (.bool k)=>KIf k (a.forceK λa=>K a s) (b.forceK λb=>K b s)|_=>False
def gd {α:Type} (o:α) (l:List α) (i:Nat):α:=l[i]?.getD o
def zf1 (v:AV) (K:Int->Prop):Prop:=match v with| .sc (.int _ n)=>K n|_=>False
def ziQ (P:Program) (t:TypeId):R Nat:=bd (ty P t) λd=>match d.d with| .slice e=>bd (ty P e) λj=> .ok j.size|_=> .no "slice"
def zyt (P:Program) (t:Tm) (s:St) (o:Oper) (T:TypeId) (x i:AV) (K:KC):Prop:=
 match x with
 | .lst sz n f=>zf1 i λj=>Need (0<=j/\j<n) (RK (ziQ P T) λz=>match Nat.beq sz z with|true=>K (.cp (f j.toNat) 0) s|false=>False)
 | .sl b off n _=>zf1 i λj=>Need (0<=j/\j<n) (RK (ziQ P T) λz=>Nat.forceK z λz=>K (.ptr b (off+j.toNat*z)) s)
 | .so b off n _=>zf1 i λj=>Need (0<=j/\j<n) (RK (ziQ P T) λz=>Nat.forceK z λz=>K (.ptr b (off+j.toNat*z)) s)
 |_=>zpx P t s o K
def isStr (P:Program) (T:TypeId):R Unit:=bd (ty P T) λd=>match d.d with| .string=> .ok ()|_=> .no "string"
def zyD (P:Program) (t:Tm) (s:St) (o:Oper) (T:TypeId) (x i:AV) (K:KC):Prop:=
 match x with
 | .sc (.string ⟨⟨l⟩⟩)=>zf1 i λj=>Need (0<=j/\j<l.length) (RK (isStr P T) λ_=>K (.sc (.int .u8 ((gd 0 l j.toNat).toNat:Int))) s)
 |_=>zpx P t s o K
def zyq (P:Program) (t:Tm) (s:St) (o:Oper) (ts:List TypeId) (args:List AV) (K:KC):Prop:=
 match args with
 |[.sc (.string ⟨⟨l⟩⟩)]=>match ts with
  |[T]=>RK (isStr P T) λ_=>K (.sc (.int .i64 (l.length:Int))) s
  |_=>False
 |_=>zpx P t s o K
def zh6 (n:Nat) (lo hi:Option AV) (K:Nat->Nat->Prop):Prop:=
 match hi with
 |none=>match lo with
  |none=>K 0 n
  |some l=>zf1 l λl=>Need (0<=l/\l<=n) (K l.toNat n)
 |some h=>zf1 h λh=>Need (0<=h/\h<=n) (match lo with
  |none=>K 0 h.toNat
  |some l=>zf1 l λl=>Need (0<=l/\l<=h) (K l.toNat h.toNat))
def zxz (P:Program) (T:TypeId):R (TypeId×Nat):=bd (ty P T) λi=>match i.d with| .slice e=>bd (ty P e) λj=> .ok (e,j.size)|_=> .no ""
def cutK (s:St) (e:TypeId) (z b off len start l h:Nat) (K:KC):Prop:=
 match l with
 |0=>K (.so b off h start) s
 |l+1=>KIf (Nat.blt (Nat.succ l) len) (K (.so b (off+(Nat.succ l)*z) (h-(Nat.succ l)) (start+(Nat.succ l))) s) (match rowAt s b with
   | .ok o=>Need (off=start*z/\o.1.length=off+len*z/\o.2.2=z/\o.2.1=e) (zri s b (.row [] e z) λn s'=>K (.so n 0 0 0) s')
   | .no _=>Need (0<z) (K (.lst z 0 λ_=>[]) s))
def zp0 (P:Program) (t:Tm) (s:St) (o:Oper) (T:TypeId) (x:AV) (lo hi mx:Option AV) (K:KC):Prop:=
 match x with
 | .sc (.string ⟨⟨L⟩⟩)=>match mx with
  |none=>RK (isStr P T) λ_=>zh6 L.length lo hi λl h=>K (.sc (.string ⟨⟨(L.drop l).take (h-l)⟩⟩)) s
  |some _=>False
 | .sc (.slice (some a) _ c)=>match lo with
  |none=>match hi with
   |some h=>match mx with
    |some m=>zf1 h λh=>zf1 m λm=>Need (0<=h/\h<=m/\m<=c) (RK (ziQ P T) λ_=>K (.sc (.slice (some a) h.toNat m.toNat)) s)
    |none=>False
   |none=>False
  |some _=>False
 | .lst sz n f=>match mx with
  |none=>RK (ziQ P T) λz=>match Nat.beq sz z with|true=>zh6 n lo hi λl h=>K (.lst sz (h-l) λi=>f (l+i)) s|false=>False
  |some _=>zsr P t s o K
 | .so b off len start=>match mx with
  |none=>RK (zxz P T) λq=>match q with|(e,z)=>Nat.forceK z λz=>zh6 len lo hi λl h=>Nat.forceK l λl=>cutK s e z b off len start l h K
  |some _=>zsr P t s o K
 |_=>zsr P t s o K
def zuB (P:Program) (tx ty':TypeId) (y:AV):R (TypeId×Ty):=
 bd (ty P tx) λi=>bd (zkh i.d) λe=>bd (ty P e) λi=>zbh (Nat.blt 0 i.size) (
 bd (ofO i.zero) λz=>zbh (Nat.beq z.cells.size i.size&&zpJ i.size y) (
 bd (ty P ty') λj=>zbh (zwL j.d) (.ok (e,i))))
def zhd (s:St) (size:Nat) (y:AV) (K:Nat->List AV->Prop):Prop:=
 match y with
 | .lst sz n f=>match Nat.beq sz size with|true=>Need (∀i,i<n->za8 (f i)=true) (K n ((List.range n).flatMap f))|false=>False
 | .sc (.string ⟨⟨l⟩⟩)=>K l.length (l.map zbf)
 | .sc (.slice none 0 0)=>K 0 []
 |y=>RK (source s size y) λr=>match r with|(n,cs)=>Need (za8 cs=true) (K n cs)
def zxn (s:St) (e:TypeId) (size bytes need:Nat) (cs:List AV) (K:KC):Prop:=Need (need*bytes<=2^47/\need<=2^60) (zlq s (.row cs e size) λn s'=>K (.so n 0 need 0) s')
def zxK (s:St) (e:TypeId) (sz bytes:Nat) (x:AV) (n:Nat) (cs:List AV) (K:KC):Prop:=
 match x with
 | .sc (.slice none 0 0)=>NCase n (K x s) (zxn s e sz bytes n cs K)
 | .lst 0 0 _=>NCase n (K x s) (zxn s e sz bytes n cs K)
 | .sl b off len cap=>Need ((len+n)*bytes<=2^47/\len+n<=2^60) (KIf (Nat.ble (len+n) cap)
   (RK (zcH s b (off+len*sz) cs) λs'=>s'.nfK λs'=>K (.sl b off (len+n) cap) s')
   (RK (zeF s b off (len*sz)) λold=>zlq s (.row (old++cs) e sz) λk s'=>K (.so k 0 (len+n) 0) s'))
 | .so b off len start=>NCase n (K x s) (Need ((len+n)*bytes<=2^47/\len+n<=2^60) (
   Need (off=start*sz) (RK (rowAt s b) λo=>match Nat.beq o.2.2 sz with
    |true=>match Nat.beq o.2.1 e with
     |true=>Need (o.1.length=off+len*sz) (zri s b (.row (o.1.drop off++cs) e sz) λk s'=>K (.so k 0 (len+n) 0) s')
     |false=>False
    |false=>False)))
 |_=>False
def zm0 (P:Program) (s:St) (ts:List TypeId) (args:List AV) (K:KC):Prop:=
 match ts with
 |[tx,ty']=>match args with
  |[x,y]=>RK (zuB P tx ty' y) λq=>match q with|(e,i)=>Nat.forceK i.size λsz=>Nat.forceK i.bytes λbytes=>zhd s sz y λn cs=>zxK s e sz bytes x n cs K
  |_=>False
 |_=>False
def zvw (P:Program) (s:St) (T:TypeId) (l c:AV) (K:KC):Prop:=
 RK (ty P T) λi=>RK (zkh i.d) λe=>RK (ty P e) λj=>RK (ofO j.zero) λz=>match Nat.beq z.cells.size j.size with
 |true=>zf1 l λl=>zf1 c λc=>Nat.forceK j.bytes λbytes=>Need (0<=l/\l<=c/\c.toNat*bytes<=2^47/\c<=2^60) (zlq s (.row (zc8 c.toNat z) e 0) λk s'=>K (.sl k 0 l.toNat c.toNat) s')
 |false=>False
section
variable {P : Program} {t : Tm} {s : St} {o : Oper} {K : KC}
theorem zbU {v:AV} {K:Int->Prop} (h:zf1 v K):∃k n,v= .sc (.int k n)/\K n:=by
 unfold zf1 at h;split at h
 ·exact⟨_,_,rfl,h⟩
 ·exact h.elim
theorem zbI {k:IntKind} {n:Int} (h:0<=n):zk8 (.sc (.int k n))= .ok n.toNat:=by
 cases n with
 |ofNat n=>rfl
 |negSucc n=>omega
theorem zd9 {T:TypeId} {z:Nat} (h:ziQ P T= .ok z):∃d e j,ty P T= .ok d/\d.d= .slice e/\ty P e= .ok j/\j.size=z:=by
 obtain⟨d,hd,h⟩:=zaf h;split at h
 ·rename_i e he;obtain⟨j,hj,h⟩:=zaf h;cases h;exact⟨d,e,j,hd,he,hj,rfl⟩
 ·cases h
theorem zjU {T:TypeId} {u:Unit} (h:isStr P T= .ok u):∃d,ty P T= .ok d/\d.d= .string:=by
 obtain⟨d,hd,h⟩:=zaf h;split at h
 ·rename_i he;exact⟨d,hd,he⟩
 ·cases h
theorem zdl {a b:Nat} (h:a<b):Nat.blt a b=true:=ysY h
theorem zc1 {a b:Nat} (h:a<=b):Nat.ble a b=true:=ysY h
theorem OpDoes.val {v:AV} {s':St} (h:za7 P t s o= .ok (.val v s')) (hk:K v s'):OpDoes P t s o K:=⟨_,h,hk⟩
theorem zvL {T:TypeId} {x i:Operand} (ho:o.op= .indexAddr T x i) (h:zyt P t s o T (ev t x) (ev t i) K):OpDoes P t s o K:=by
 have e0:za7 P t s o=zcC P s T (ev t x) (ev t i):=by unfold za7 comp;rw[ho]
 unfold zyt at h;split at h
 ·rename_i sz n f hx;obtain⟨k,j,hi,hj,h⟩:=zbU h;obtain⟨z,hz,h⟩:=zbA h;obtain⟨d,e,j',hd,he,hj',rfl⟩:=zd9 hz;split at h
  ·rename_i hb;refine .val (s':=s) ?_ h;rw[e0,hx,hi];unfold zcC;rw[zbI hj.1,hd];simp only[bd,zlj,he,hj',zbh,zdl (show j.toNat<n by omega),hb]
  ·exact h.elim
 ·rename_i b off n c hx;obtain⟨k,j,hi,hj,h⟩:=zbU h;obtain⟨z,hz,h⟩:=zbA h;have h:=Nat.forceK_ok h;obtain⟨d,e,j',hd,he,hj',rfl⟩:=zd9 hz;refine .val (s':=s) ?_ h;rw[e0,hx,hi];unfold zcC;rw[zbI hj.1,hd];simp only[bd,zlj,he,hj',zbh,zdl (show j.toNat<n by omega)]
 ·rename_i b off n c hx;obtain⟨k,j,hi,hj,h⟩:=zbU h;obtain⟨z,hz,h⟩:=zbA h;have h:=Nat.forceK_ok h;obtain⟨d,e,j',hd,he,hj',rfl⟩:=zd9 hz;refine .val (s':=s) ?_ h;rw[e0,hx,hi];unfold zcC;rw[zbI hj.1,hd];simp only[bd,zlj,he,hj',zbh,zdl (show j.toNat<n by omega)]
 ·exact zc3 h
theorem zv3 {T:TypeId} {x i:Operand} (ho:o.op= .index T x i) (h:zyD P t s o T (ev t x) (ev t i) K):OpDoes P t s o K:=by
 have e0:za7 P t s o=znW P s T (ev t x) (ev t i):=by unfold za7 comp;rw[ho]
 unfold zyD at h;split at h
 ·rename_i l hx;obtain⟨k,j,hi,hj,h⟩:=zbU h;obtain⟨u,hu,h⟩:=zbA h;obtain⟨d,hd,he⟩:=zjU hu;refine .val (s':=s) ?_ h;rw[e0,hx,hi];unfold znW;rw[zbI hj.1];have hlt:j.toNat<l.length:=zo;simp only[bd,hd,he,zv4,zbc,ysX hlt,ofO,ret,zbf,gd,ycZ]
 ·exact zc3 h
theorem zvE {c:Call} (ho:o.op= .call c) (hc:c.callee= .builtin .len) (h:zyq P t s o c.argTypes.toList (evs t c.args.toList) K):OpDoes P t s o K:=by
 unfold zyq at h;split at h
 ·rename_i l hx;split at h
  ·rename_i T hT;obtain⟨u,hu,h⟩:=zbA h;obtain⟨d,hd,he⟩:=zjU hu;refine .val (s':=s) ?_ h;unfold za7 comp;rw[ho];simp only[zij,hc,zeA,hT,hx,zx0,bd,hd,he];rfl
  ·exact h.elim
 ·exact zc3 h
theorem zge {n:Nat} {lo hi:Option AV} {K:Nat->Nat->Prop} (h:zh6 n lo hi K) (c:Nat) (hc:n<=c):∃l h',bounds n c lo hi none= .ok (l,h',c)/\l<=h'/\h'<=n/\K l h':=by
 unfold zh6 at h
 cases hi with
 |none=>
  cases lo with
  |none=>exact⟨0,n,rfl,ymX _,yhX _,h⟩
  |some l=>
   obtain⟨k,j,rfl,hj,h⟩:=zbU h;refine⟨j.toNat,n,?_,zo,yhX _,h⟩;simp only[bounds,zbh,bd,bound,zbI hj.1,zc1 (show j.toNat<=n by omega)]
 |some hi=>
  obtain⟨k,j,rfl,hj,h⟩:=zbU h
  cases lo with
  |none=>
   refine⟨0,j.toNat,?_,ymX _,zo,h⟩;simp only[bounds,zbh,bd,bound,zbI hj.1,zc1 (show j.toNat<=c by omega)]
  |some l=>
   obtain⟨k',l',rfl,hl,h⟩:=zbU h;refine⟨l'.toNat,j.toNat,?_,zo,zo,h⟩;simp only[bounds,zbh,bd,bound,zbI hj.1,zbI hl.1,zc1 (show j.toNat<=c by omega),zc1 (show l'.toNat<=j.toNat by omega)]
theorem zpZ {T:TypeId} {x:Operand} {lo hi mx:Option Operand} (ho:o.op= .slice T x lo hi mx) (h:zp0 P t s o T (ev t x) (evo t lo) (evo t hi) (evo t mx) K):OpDoes P t s o K:=by
 have e0:za7 P t s o=zoF (zdS P s T (ev t x) (evo t lo) (evo t hi) (evo t mx)):=by unfold za7 comp;rw[ho]
 unfold zp0 at h;split at h
 ·rename_i L hx;split at h
  ·rename_i hm;obtain⟨u,hu,h⟩:=zbA h;obtain⟨d,hd,he⟩:=zjU hu;obtain⟨l,h',hb,h1,h2,h⟩:=zge h L.length (yhX _);refine .val (s':=s) ?_ h;have hb':bounds (ByteArray.mk ⟨L⟩).size (ByteArray.mk ⟨L⟩).size (evo t lo) (evo t hi) none= .ok (l,h',L.length):=hb;rw[e0,hx,hm];simp only[zdS,bd,hd,he,znd,hb',zoF]
  ·exact h.elim
 ·rename_i a n c hx;split at h
  ·rename_i hlo;split at h
   ·rename_i vh hhi;split at h
    ·rename_i vm hmx;obtain⟨k1,j1,e1,h⟩:=zbU h;obtain⟨k2,j2,e2,⟨p1,p2,p3⟩,h⟩:=zbU h;obtain⟨z,hz,h⟩:=zbA h;obtain⟨d,e,j',hd,he,hj',_⟩:=zd9 hz;refine .val (s':=s) ?_ h;subst e1 e2
     have hb:bounds n c none (some (.sc (.int k1 j1))) (some (.sc (.int k2 j2)))= .ok (0,j1.toNat,j2.toNat):=by
      simp only[bounds,zbh,bd,bound,zbI (show 0<=j1 from p1),zbI (show 0<=j2 by omega),zc1 (show j2.toNat<=c by omega),zc1 (show j1.toNat<=j2.toNat by omega),zc1 (show 0<=j1.toNat by omega)]
     rw[e0,hx,hlo,hhi,hmx];simp only[zdS,bd,hd,he,hj',ze7,hb,zoF]
    ·exact h.elim
   ·exact h.elim
  ·exact h.elim
 ·rename_i sz n f hx;split at h
  ·rename_i hm;obtain⟨z,hz,h⟩:=zbA h;obtain⟨d,e,j',hd,he,hj',rfl⟩:=zd9 hz;split at h
   ·rename_i hbq;obtain⟨l,h',hb,h1,h2,h⟩:=zge h n (yhX _);refine .val (s':=s) ?_ h;rw[e0,hx,hm];simp only[zdS,bd,hd,he,hj',ze7,hb,zoF,zbh,hbq,Option.isNone_none,ylZ]
   ·exact h.elim
  ·exact zdx h
 ·rename_i b off len start hx;split at h
  ·rename_i hm;obtain⟨⟨e,z⟩,hq,h⟩:=zbA h;obtain⟨i,hi,hq⟩:=zaf hq;split at hq
   ·rename_i e' hd;obtain⟨j,hj,hq⟩:=zaf hq;cases hq;have h:=Nat.forceK_ok h;obtain⟨l,h',hb,h1,h2,h⟩:=zge h len (yhX _);have h:=Nat.forceK_ok h
    cases l with
    |zero=>
     refine .val (s':=s) ?_ h;rw[e0,hx,hm];simp only[zdS,bd,hi,hd,hj,ze7,hb,zoF,zeZ]
    |succ l'=>
     obtain⟨h3,h4⟩:=KIf.ok h
     cases hlt:Nat.blt (l'+1) len with
     |true=>
      refine .val (s':=s) ?_ (h3 hlt);rw[e0,hx,hm];simp only[zdS,bd,hi,hd,hj,ze7,hb,zoF,zeZ,hlt]
     |false=>
      have h:=h4 hlt;split at h
      rotate_left
      ·rename_i ho2;obtain⟨hz,h⟩:=h;refine .val (s':=s) ?_ h;rw[e0,hx,hm];simp only[zdS,bd,hi,hd,hj,ze7,hb,zoF,zeZ,hlt,ho2,zbh,zdl hz]
      rename_i oo ho2;obtain⟨oc,oe,oq⟩:=oo;obtain⟨⟨p1,p2,p3,p4⟩,h⟩:=h;refine .val ?_ (zlp (K:=λn s'=>K (.so n 0 0 0) s') h);rw[e0,hx,hm];simp only at p1 p2 p3 p4;subst p4
      have q1:Nat.beq off (start*j.size)=true:=by rw[p1];exact ylY _
      have q2:Nat.beq oc.length (off+len*j.size)=true:=by rw[p2];exact ylY _
      have q3:Nat.beq oq j.size=true:=by rw[p3];exact ylY _
      have q4:Nat.beq oe oe=true:=ylY _;simp only[zdS,bd,hi,hd,hj,ze7,hb,zoF,zeZ,hlt,ho2,zbh,q1,q2,q3,q4,ylZ]
   ·cases hq
  ·exact zdx h
 ·exact zdx h
theorem zr8 {tx ty':TypeId} {x y:AV} {q:TypeId×Ty} (h:zuB P tx ty' y= .ok q) {r:Nat×List AV} (hs:source s q.2.size y= .ok r) (ha:za8 r.2=true) {w:AV×St} (hw:zc7 s q.1 q.2 x r= .ok w):zkv P s tx ty' x y= .ok w:=by
 obtain⟨i,hi,h⟩:=zaf h;obtain⟨e,he,h⟩:=zaf h;obtain⟨j,hj,h⟩:=zaf h;obtain⟨h1,h⟩:=zav h;obtain⟨z,hz,h⟩:=zaf h;obtain⟨h2,h⟩:=zav h;obtain⟨u,hu,h⟩:=zaf h;obtain⟨h3,h⟩:=zav h;cases h;simp only at hs hw;unfold zkv;simp only[hi,he,hj,bd,h1,zbh,hz,h2,hu,h3,hs,ha,hw]
theorem zm1 {f:Nat->List AV} {n:Nat} (h:∀i,i<n->za8 (f i)=true):za8 ((List.range n).flatMap f)=true:=by
 have app:∀{a b:List AV},za8 a=true->za8 b=true->za8 (a++b)=true:=by
  intro a b ha hb
  induction a with
  |nil=>exact hb
  |cons x l ih=>
   unfold za8 at ha;show za8 (x::(l++b))=true;unfold za8;split at ha
   ·exact ih ha
   ·cases ha
 induction n with
 |zero=>rfl
 |succ n ih=>
  rw[yUY,yJX];exact app (ih λi hi=>h i zo) (by simpa using h n zo)
theorem zlP (l:List UInt8):za8 (l.map zbf)=true:=by
 induction l with
 |nil=>rfl
 |cons x l ih=>exact ih
theorem zow {size:Nat} {y:AV} {K:Nat->List AV->Prop} (h:zhd s size y K):∃r,source s size y= .ok r/\za8 r.2=true/\K r.1 r.2:=by
 unfold zhd at h;split at h
 ·rename_i sz n f;split at h
  ·rename_i hb;obtain⟨h1,h2⟩:=h;exact⟨(n,(List.range n).flatMap f),by simp[source,hb,zbh],zm1 h1,h2⟩
  ·exact h.elim
 ·rename_i l;exact⟨(l.length,l.map zbf),rfl,zlP l,h⟩
 ·exact⟨(0,[]),rfl,rfl,h⟩
 ·obtain⟨⟨n,cs⟩,hr,h1,h2⟩:=zbA h;exact⟨(n,cs),hr,h1,h2⟩
theorem zwf {e:TypeId} {i:Ty} {x:AV} {r:Nat×List AV} (h:zxK s e i.size i.bytes x r.1 r.2 K):∃w,zc7 s e i x r= .ok w/\K w.1 w.2:=by
 obtain⟨n,cs⟩:=r;unfold zxK at h;split at h
 ·cases n with
  |zero=>exact⟨(_,s),rfl,h.zz⟩
  |succ n=>
   obtain⟨⟨h1,h2⟩,h⟩:=h.ss;refine⟨(_,_),?_,zd7 (K:=λk s'=>K (.so k 0 (n+1) 0) s') h⟩;simp only[zc7,zbh,ybX h1,ybX h2,ylZ,grow];rfl
 ·cases n with
  |zero=>exact⟨(_,s),rfl,h.zz⟩
  |succ n=>
   obtain⟨⟨h1,h2⟩,h⟩:=h.ss;refine⟨(_,_),?_,zd7 (K:=λk s'=>K (.so k 0 (n+1) 0) s') h⟩;simp only[zc7,zbh,ybX h1,ybX h2,ylZ,grow];rfl
 ·rename_i b off len cap;obtain⟨⟨h1,h2⟩,h⟩:=h
  cases hb:Nat.ble (len+n) cap with
  |true=>
   rw[hb] at h;obtain⟨s',hs,h⟩:=zbA h.tt;refine⟨(_,_),?_,St.nfK_ok (K:=λs'=>K _ s') h⟩;simp only[zc7,zbh,ybX h1,ybX h2,ylZ,hb,hs,bd]
  |false=>
   rw[hb] at h;obtain⟨old,hs,h⟩:=zbA h.ff;refine⟨(_,_),?_,zd7 (K:=λk s'=>K (.so k 0 (len+n) 0) s') h⟩;simp only[zc7,zbh,ybX h1,ybX h2,ylZ,hb,hs,bd,grow];rfl
 ·rename_i b off len start
  cases n with
  |zero=>exact⟨(_,s),rfl,h.zz⟩
  |succ n=>
   obtain⟨⟨h1,h2⟩,hoff,h⟩:=h.ss
   have hb:Nat.beq off (start*i.size)=true:=by rw[hoff];exact ylY _
   ·obtain⟨o,ho,h⟩:=zbA h;split at h
    ·rename_i hb2;split at h
     ·rename_i hb3;obtain⟨h3,h⟩:=h;refine⟨(_,_),?_,zlp (K:=λk s'=>K (.so k 0 (len+(n+1)) 0) s') h⟩;simp only[zc7,zbh,hb,ybX h1,ybX h2,ylZ,ho,bd,hb2,hb3,h3,ylY]
     ·exact h.elim
    ·exact h.elim
 ·exact h.elim
theorem zpl {c:Call} (ho:o.op= .call c) (hc:c.callee= .builtin .append) (h:zm0 P s c.argTypes.toList (evs t c.args.toList) K):OpDoes P t s o K:=by
 unfold zm0 at h;split at h
 ·rename_i tx ty' hT;split at h
  ·rename_i x y hx;obtain⟨⟨e,i⟩,hq,h⟩:=zbA h;have h:=Nat.forceK_ok (K:=λsz=>Nat.forceK i.bytes λbytes=>zhd s sz y λn cs=>zxK s e sz bytes x n cs K) h;have h:=Nat.forceK_ok (K:=λbytes=>zhd s i.size y λn cs=>zxK s e i.size bytes x n cs K) h;obtain⟨r,hr,ha,h⟩:=zow h;obtain⟨w,hw,h⟩:=zwf h;refine .val ?_ h;unfold za7 comp;rw[ho];simp only[zij,hc,zeA,hT,hx,zr8 hq hr ha hw,zoF,bd]
  ·exact h.elim
 ·exact h.elim
theorem zs8 {T:TypeId} {l c:Operand} (ho:o.op= .makeSlice T l c) (h:zvw P s T (ev t l) (ev t c) K):OpDoes P t s o K:=by
 have e0:za7 P t s o=zer P s T (ev t l) (ev t c):=by unfold za7 comp;rw[ho]
 unfold zvw at h;obtain⟨i,hi,h⟩:=zbA h;obtain⟨e,he,h⟩:=zbA h;obtain⟨j,hj,h⟩:=zbA h;obtain⟨z,hz,h⟩:=zbA h;split at h
 ·rename_i hb;obtain⟨k,l',hl,h⟩:=zbU h;obtain⟨k',c',hc,h⟩:=zbU h;obtain⟨⟨h1,h2,h3,h4⟩,h⟩:=Nat.forceK_ok h;refine .val ?_ (zd7 (K:=λk s'=>K (.sl k 0 l'.toNat c'.toNat) s') h);rw[e0,hl,hc];unfold zer;simp only[hi,bd,he,hj,zbI h1,zbI (Int.le_trans h1 h2),zbh,zc1 (show l'.toNat<=c'.toNat by omega),zc1 h3,zc1 (show c'.toNat<=2^60 by omega),ylZ,hz,hb]
 ·exact h.elim
end
end Go.Ex
namespace Go.Ex
open Go
def zxl :Op->Bool
 | .alloc _| .box _ _| .buildSlice _ _ _| .store _ _ _| .convert _ _ _| .range _ _| .next _ _=>true
 |_=>false
def s2b (P:Program) (src dst:TypeId):R TypeId:=bd (ty P src) λi=>bd (ty P dst) λj=>match i.d with| .string=>(match j.d with| .slice e=>zbh (zdv P e) (.ok e)|_=> .no "")|_=> .no ""
def i2i (P:Program) (src dst:TypeId):R IntKind:=bd (ty P src) λi=>bd (ty P dst) λj=>match i.d with| .int _=>(match j.d with| .int k=> .ok k|_=> .no "")|_=> .no ""
def b2s (P:Program) (src dst:TypeId):R Unit:=bd (ty P src) λi=>bd (ty P dst) λj=>match i.d with| .slice e=>(match j.d with| .string=>zbh (zdv P e) (.ok ())|_=> .no "")|_=> .no ""
def zxX (P:Program) (t:Tm) (s:St) (o:Oper) (src dst:TypeId) (b off len:Nat) (K:KC):Prop:=
 match b2s P src dst with
 | .ok _=>RK (zeF s b off len) λcs=>RK (bytesOf cs) λbs=>K (.sc (.string ⟨⟨bs⟩⟩)) s
 | .no _=>zsr P t s o K
def zv0 (P:Program) (t:Tm) (s:St) (o:Oper) (src dst:TypeId) (x:AV) (K:KC):Prop:=
 match x with
 | .sc (.string ⟨⟨l⟩⟩)=>match s2b P src dst with
  | .ok e=>Need (l.length<=2^47) (zlq s (.row (l.map zbf) e 1) λk s'=>K (.so k 0 l.length 0) s')
  | .no _=>zsr P t s o K
 | .sc (.int _ n)=>match i2i P src dst with
  | .ok k=>match k with| .i64=>Need (Small n) (K (.sc (.int .i64 n)) s)|k=>K (.sc (.int k (zeL k n))) s
  | .no _=>zsr P t s o K
 | .sl b off len _=>zxX P t s o src dst b off len K
 | .so b off len _=>zxX P t s o src dst b off len K
 |_=>zsr P t s o K
def zvB (P:Program) (t:Tm) (s:St) (o:Oper) (T:TypeId) (x:AV) (K:KC):Prop:=
 match x with
 | .ptr b off=>RK (zcw P s T b off) λv=>v.forceK λv=>K v s
 |_=>zpx P t s o K
def zyS (s:St) (e:TypeId) (x:AV) (K:KC):Prop:=x.forceK λx=>match zyE s e x with| .ok (.val v s')=>v.forceB λv=>s'.nfK λs'=>K v s'|_=>False
def zdQ (r:R Nx) (K:KC):Prop:=match r with| .ok (.val v s')=>s'.nfK λs'=>K v s'|_=>False
def zt0 (P:Program) (t:Tm) (s:St) (o:Oper) (T:TypeId) (a x:AV) (K:KC):Prop:=x.forceK λx=>zdQ (zcY P s T a x) K
def zrT (P:Program) (s:St) (ts:List TypeId) (args:List AV) (K:KC):Prop:=
 match ts with
 |[t]=>match args with
  |[x]=>RK (zrQ P t) λz=>RK (zlC s x z) λs'=>s'.nfK λs'=>K (.tup []) s'
  |_=>False
 |_=>False
def opK (P:Program) (t:Tm) (s:St) (o:Oper) (K:KC):Prop:=
 match o.op with
 | .binOp op T x y _=>zyG P t s o op T (ev t x) (ev t y) K
 | .unOp op _ x=>unK P t s o op (ev t x) K
 | .pick c a b=>zvl P t s o (ev t c) (ev t a) (ev t b) K
 | .indexAddr T x i=>zyt P t s o T (ev t x) (ev t i) K
 | .index T x i=>zyD P t s o T (ev t x) (ev t i) K
 | .slice T x lo hi mx=>zp0 P t s o T (ev t x) (evo t lo) (evo t hi) (evo t mx) K
 | .makeSlice T l c=>zvw P s T (ev t l) (ev t c) K
 | .box e x=>zyS s e (ev t x) K
 | .store T a x=>zt0 P t s o T (ev t a) (ev t x) K
 | .convert src dst x=>zv0 P t s o src dst (ev t x) K
 | .load T x=>zvB P t s o T (ev t x) K
 | .call c=>match c.callee with
  | .builtin b=>match b with
   | .append=>zm0 P s c.argTypes.toList (evs t c.args.toList) K
   | .len=>zyq P t s o c.argTypes.toList (evs t c.args.toList) K
   | .clear=>zrT P s c.argTypes.toList (evs t c.args.toList) K
   |_=>zsr P t s o K
  |_=>zsr P t s o K
 |op=>match zxl op with|true=>zyu P t s o K|false=>zpx P t s o K
section
variable {P : Program} {t : Tm} {s : St} {o : Oper} {K : KC}
theorem zrS {c:Call} (ho:o.op= .call c) (hc:c.callee= .builtin .clear) (h:zrT P s c.argTypes.toList (evs t c.args.toList) K):OpDoes P t s o K:=by
 unfold zrT at h;split at h
 ·rename_i ty hts;split at h
  ·rename_i x hx;obtain⟨z,hz,h⟩:=zbA h;obtain⟨s',hs,h⟩:=zbA h;refine .val (v:= .tup []) (s':=s') ?_ (St.nfK_ok (K:=λs'=>K (.tup []) s') h);unfold za7 comp;rw[ho];simp only[zij,hc,zeA,hts,hx,zuy,hz,hs,bd]
  ·exact h.elim
 ·exact h.elim
theorem zv8 {e:TypeId} {x:Operand} (ho:o.op= .box e x) (h:zyS s e (ev t x) K):OpDoes P t s o K:=by
 have h:=AV.forceK_ok h;split at h
 ·rename_i v s' hb;refine .val (v:=v) (s':=s') ?_ (St.nfK_ok (K:=λs'=>K v s') (AV.forceB_ok (K:=λv=>s'.nfK λs'=>K v s') h));unfold za7 comp;rw[ho];exact hb
 ·exact h.elim
theorem zpN {T:TypeId} {a x:Operand} (ho:o.op= .store T a x) (h:zt0 P t s o T (ev t a) (ev t x) K):OpDoes P t s o K:=by
 have h:=AV.forceK_ok h;unfold zdQ at h;split at h
 ·rename_i v s' hb;refine .val (v:=v) (s':=s') ?_ (St.nfK_ok (K:=λs'=>K v s') h);unfold za7 comp;rw[ho];exact hb
 ·exact h.elim
theorem zwU {src dst e:TypeId} (h:s2b P src dst= .ok e):∃i j,ty P src= .ok i/\ty P dst= .ok j/\i.d= .string/\j.d= .slice e/\zdv P e=true:=by
 obtain⟨i,hi,h⟩:=zaf h;obtain⟨j,hj,h⟩:=zaf h;split at h
 ·rename_i h1;split at h
  ·rename_i e' h2;obtain⟨h3,h⟩:=zav h;cases h;exact⟨i,j,hi,hj,h1,h2,h3⟩
  ·cases h
 ·cases h
theorem neg_eq (a b:Int):(a !=b)= !decide (a=b):=by
 by_cases h:a=b<;>simp[h]
theorem zpX {n:Int} (h:Small n):znh n=true:=by
 obtain⟨h1,h2⟩:=h
 cases n with
 |ofNat n=>exact zc1 (by have:(n:Int)<=9223372036854775807:=h2;omega)
 |negSucc n=>exact zc1 zo
theorem zcz (b:Bool):zgD s b= .ok (.val (.sc (.bool b)) s):=by cases b<;>rfl
theorem znC {v:Value} (hs:zjV o.op=false) (hv:∃l,AV.val.vals (evs t o.op.operands.toList)= .ok l) (h:pure? P (execOp (λx=>zuI (ev t x).val) o)= .ok (.value v)):zaR P t s o= .ok (.val (.sc v) s):=by
 obtain⟨l,hv⟩:=hv;unfold zaR;rw[hv,h,hs];rfl
theorem pure_bind {S:Sem Value}:∀{v:Value},pure? P S= .ok v->pure? P (do pure (.value (←S)):Sem Next)= .ok (.value v):=by
 intro v h
 induction S with
 |pure a=>cases h;rfl
 |program k ih=>exact ih P h
 |mark l k ih=>exact ih h
 |_=>cases h
theorem zht {op:BinOp} {xt yt:TypeId} {x y:Operand} {X Y v:Value} (ho:o.op= .binOp op xt x y yt) (hx:ev t x= .sc X) (hy:ev t y= .sc Y) (h:pure? P (do eqGuard op xt x y X Y;binOp op xt X Y:Sem Value)= .ok v):zaR P t s o= .ok (.val (.sc v) s):=by
 refine znC (by rw[ho];rfl) ⟨[X,Y],?_⟩ ?_
 ·rw[ho];show AV.val.vals [ev t x,ev t y]=_;rw[hx,hy];rfl
 ·have e:execOp (λx=>zuI (ev t x).val) o=(do pure (.value (←(do eqGuard op xt x y X Y;binOp op xt X Y:Sem Value))):Sem Next):=by
   unfold execOp;simp only[ho,hx,hy];rfl
  rw[e];exact pure_bind h
theorem zxk {src dst:TypeId} {k:IntKind} (h:i2i P src dst= .ok k):∃i j k0,ty P src= .ok i/\ty P dst= .ok j/\i.d= .int k0/\j.d= .int k:=by
 obtain⟨i,hi,h⟩:=zaf h;obtain⟨j,hj,h⟩:=zaf h;split at h
 ·rename_i k0 h1;split at h
  ·rename_i k' h2;cases h;exact⟨i,j,k0,hi,hj,h1,h2⟩
  ·cases h
 ·cases h
theorem zxH {src dst:TypeId} {u:Unit} (h:b2s P src dst= .ok u):∃i j e,ty P src= .ok i/\ty P dst= .ok j/\i.d= .slice e/\j.d= .string/\zdv P e=true:=by
 obtain⟨i,hi,h⟩:=zaf h;obtain⟨j,hj,h⟩:=zaf h;split at h
 ·rename_i e h1;split at h
  ·rename_i h2;obtain⟨h3,h⟩:=zav h;exact⟨i,j,e,hi,hj,h1,h2,h3⟩
  ·cases h
 ·cases h
theorem ztW {T:TypeId} {i:Ty} (h:ty P T= .ok i):P.underlying T=some i.d:=by
 unfold ty at h;split at h
 ·rename_i d i' h1 h2;cases h;exact h1
 ·cases h
theorem zta {T:TypeId} {x:Operand} (ho:o.op= .load T x) (h:zvB P t s o T (ev t x) K):OpDoes P t s o K:=by
 unfold zvB at h;split at h
 ·rename_i b off hx;obtain⟨v,hv,h⟩:=zbA h;refine .val (v:=v) (s':=s) ?_ (AV.forceK_ok (K:=λv=>K v s) h);unfold za7 comp;rw[ho];simp only[zqY,hx,hv,ret,bd]
 ·exact zc3 h
theorem znB {α:Type} {T:TypeId} {d:TypeDesc} (h:P.underlying T=some d) (k:TypeDesc->Sem α):pure? P (underlying T>>=k)=pure? P (k d):=by
 show pure? P (Sem.bind (underlying T) k)=_;unfold underlying;show pure? P ((match P.underlying T with|some d=>pure d|none=>_:Sem TypeDesc)>>=k)=_;rw[h];rfl
theorem zoK {src dst:TypeId} {x:Operand} {X v:Value} (ho:o.op= .convert src dst x) (hx:ev t x= .sc X) (h:pure? P (convert src dst X)= .ok v):zaR P t s o= .ok (.val (.sc v) s):=by
 refine znC (by rw[ho];rfl) ⟨[X],?_⟩ ?_
 ·rw[ho];show AV.val.vals [ev t x]=_;rw[hx];rfl
 ·have e:execOp (λx=>zuI (ev t x).val) o=(do pure (.value (←(convert src dst X:Sem Value))):Sem Next):=by
   unfold execOp;simp only[ho,hx];rfl
  rw[e];exact pure_bind h
theorem zty {src dst:TypeId} {k0 k k1:IntKind} {n:Int} (h1:P.underlying src=some (.int k0)) (h2:P.underlying dst=some (.int k)):pure? P (convert src dst (.int k1 n))= .ok (.int k (k.wrap n)):=by
 unfold convert;rw[znB h1,znB h2];rfl
theorem zpK {src dst:TypeId} {x:Operand} {b off len:Nat} (ho:o.op= .convert src dst x) (hx:(∃c,ev t x= .sl b off len c)∨∃c,ev t x= .so b off len c) (h:zxX P t s o src dst b off len K):OpDoes P t s o K:=by
 unfold zxX at h;split at h
 ·rename_i u hu;obtain⟨i,j,e,hi,hj,h1,h2,h3⟩:=zxH hu;obtain⟨cs,hc,h⟩:=zbA h;obtain⟨bs,hb,h⟩:=zbA h;refine .val (s':=s) ?_ h;unfold za7 comp;rw[ho]
  rcases hx with⟨c,hx⟩|⟨c,hx⟩
  ·simp only[zmT,hx,hi,hj,bd,zmS,h1,h2,zbh,h3,hc,hb]
  ·simp only[zmT,hx,hi,hj,bd,zmS,h1,h2,zbh,h3,hc,hb]
 ·exact zdx h
theorem ztA {src dst:TypeId} {x:Operand} (ho:o.op= .convert src dst x) (h:zv0 P t s o src dst (ev t x) K):OpDoes P t s o K:=by
 unfold zv0 at h;split at h
 ·rename_i l hx;split at h
  ·rename_i e he;obtain⟨i,j,hi,hj,h1,h2,h3⟩:=zwU he;obtain⟨h4,h⟩:=h;refine .val ?_ (zd7 (K:=λk s'=>K (.so k 0 l.length 0) s') h);unfold za7 comp;rw[ho];have h4':Nat.ble (ByteArray.mk ⟨l⟩).size (2^47)=true:=zc1 h4;simp only[zmT,hx,hi,hj,bd,zmS,h1,h2,zbh,h3,h4'];rfl
  ·exact zdx h
 ·rename_i k1 n hx;split at h
  ·rename_i k hk;obtain⟨i,j,k0,hi,hj,h1,h2⟩:=zxk hk
   have e0:za7 P t s o= .ok (.val (.sc (.int k (k.wrap n))) s):=by
    unfold za7 comp;rw[ho];simp only[zmT,hx,hi,hj,bd,zmS,h1,h2];have u1:=ztW hi;have u2:=ztW hj;rw[h1] at u1;rw[h2] at u2;exact zoK ho hx (zty u1 u2)
   split at h
   ·obtain⟨h3,h⟩:=h;refine .val (s':=s) ?_ h;rw[e0,show IntKind.wrap .i64 n=n from by rw[IntKind.wrap_i64];obtain⟨h4,h5⟩:=h3;omega]
   ·exact .val e0 h
  ·exact zdx h
 ·rename_i b off len c hx;exact zpK ho (.inl ⟨c,hx⟩) h
 ·rename_i b off len c hx;exact zpK ho (.inr ⟨c,hx⟩) h
 ·exact zdx h
theorem zoY {op:BinOp} {k:IntKind} {a b:Int} {other':R Nx} (h:zmF op k a b s K) (hp:∀v,pure? P (binOp op 0 (.int k a) (.int k b))= .ok v->other'= .ok (.val (.sc v) s)):∃nx,zgt op k a b s other'= .ok nx/\NxK P s K nx:=by
 have wr:∀{n:Int},k= .i64->Need (Small n) (K (.sc (.int .i64 n)) s)->∃nx,zg7 k n s other'= .ok nx/\NxK P s K nx:=by
  intro n hk hn;obtain⟨h1,h2⟩:=hn;rw[hk];refine⟨.val (.sc (.int .i64 n)) s,?_,h2⟩;show(match znh n with|true=>zys n λn=> .ok (.val (.sc (.int .i64 n)) s)|false=>other')=_;rw[zpX h1];exact zjZ _ _
 have wo:∀{n:Int},k≠ .i64->zg7 k n s other'=other':=by
  intro n hk
  cases k<;>first|rfl|exact absurd rfl hk
 have kk:¬(k≠k):=λh=>h rfl
 have ar:∀(op':BinOp) (f:Int->Int->Int),op=op'->pure? P (binOp op 0 (.int k a) (.int k b))= .ok (.int k (k.wrap (f a b)))->(zgt op k a b s other'=zg7 k (f a b) s other')->(∀k',k=k'->(match k' with| .i64=>Need (Small (f a b)) (K (.sc (.int .i64 (f a b))) s)|k'=>K (.sc (.int k' (zeL k' (f a b)))) s))->∃nx,zgt op k a b s other'= .ok nx/\NxK P s K nx:=by
  intro op' f e hpu hib hK;rw[hib];by_cases hk:k= .i64
  ·have:=hK .i64 hk;exact wr hk this
  ·rw[wo hk,hp _ hpu];refine⟨_,rfl,?_⟩;have:=hK k rfl
   cases k<;>first|exact this|exact absurd rfl hk
 have pl:∀(v:Int),pure? P (binOp op 0 (.int k a) (.int k b))= .ok (.int k v)->zgt op k a b s other'=other'->K (.sc (.int k v)) s->∃nx,zgt op k a b s other'= .ok nx/\NxK P s K nx:=by
  intro v hpu hib hK;rw[hib,hp _ hpu];exact⟨_,rfl,hK⟩
 cases op
 case add=>exact ar .add (·+·) rfl (by unfold binOp;simp only[yfX kk];rfl) rfl (λk' e=>by subst e;cases k<;>exact h)
 case sub=>exact ar .sub (·-·) rfl (by unfold binOp;simp only[yfX kk];rfl) rfl (λk' e=>by subst e;cases k<;>exact h)
 case mul=>exact ar .mul (·*·) rfl (by unfold binOp;simp only[yfX kk];rfl) rfl (λk' e=>by subst e;cases k<;>exact h)
 case quo=>
  have hb:b≠0:=by
   unfold zmF at h;simp only at h;split at h
   ·exact h.1.1
   ·exact h.1
  have hpu:pure? P (binOp .quo 0 (.int k a) (.int k b))= .ok (.int k (k.wrap (a.tdiv b))):=by
   unfold binOp Op.intDiv;simp only[yfX kk,yfX hb];rfl
  refine pl _ hpu rfl ?_;by_cases hk:k= .i64
  ·subst hk;obtain⟨⟨_,h1⟩,h2⟩:=h;rw[show IntKind.wrap .i64 (a.tdiv b)=a.tdiv b from by rw[IntKind.wrap_i64];obtain⟨h3,h4⟩:=h1;omega];exact h2
  ·cases k<;>first|exact h.2|exact absurd rfl hk
 case rem=>
  obtain⟨hb,h2⟩:=h;refine pl _ ?_ rfl h2;unfold binOp Op.intDiv;simp only[yfX kk,yfX hb];rfl
 case and=>exact pl _ (by unfold binOp;simp only[yfX kk];rfl) rfl h
 case or=>exact pl _ (by unfold binOp;simp only[yfX kk];rfl) rfl h
 case xor=>exact pl _ (by unfold binOp;simp only[yfX kk];rfl) rfl h
 case andNot=>exact pl _ (by unfold binOp;simp only[yfX kk];rfl) rfl h
 case shl=>
  obtain⟨hb,h2⟩:=h;refine pl _ ?_ rfl h2;unfold binOp Op.shift;simp only[yfX (Int.not_lt.2 hb)];rfl
 case shr=>
  obtain⟨hb,h2⟩:=h;refine pl _ ?_ rfl h2;unfold binOp Op.shift;simp only[yfX (Int.not_lt.2 hb)];rfl
 case eql=>exact⟨_,zcz _,h⟩
 case neq=>exact⟨_,zcz _,(by rw[neg_eq];exact h)⟩
 case lss=>exact⟨_,zcz _,h⟩
 case leq=>exact⟨_,zcz _,h⟩
 case gtr=>exact⟨_,zcz _,h⟩
 case geq=>exact⟨_,zcz _,h⟩
theorem zpM {xt yt:TypeId} {x y:Operand} {a b:List UInt8} (ho:o.op= .binOp .add xt x y yt) (hx:ev t x= .sc (.string ⟨⟨a⟩⟩)) (hy:ev t y= .sc (.string ⟨⟨b⟩⟩)) (h0:a.length+b.length<=9223372036854775807):zaR P t s o= .ok (.val (.sc (.string ⟨⟨a++b⟩⟩)) s):=by
 have hi:(((ByteArray.mk ⟨a⟩).size+(ByteArray.mk ⟨b⟩).size:Nat):Int)<=IntKind.i64.max:=by
  show((a.length+b.length:Nat):Int)<=9223372036854775807;omega
 have e:((ByteArray.mk ⟨a⟩)++(ByteArray.mk ⟨b⟩))=⟨⟨a++b⟩⟩:=by
  apply ByteArray.ext;simp
 rw[←e];refine zht ho hx hy ?_;show pure? P (Op.stringOp .add _ _)=_;unfold Op.stringOp;simp only[yfX (Int.not_lt.2 hi)];rfl
theorem zut {op:BinOp} {xt:TypeId} {x y:AV} (h:eqK P xt op x y s K (zhv P t s o K)):∃nx,eqB P op xt s x y (zaR P t s o)= .ok nx/\NxK P s K nx:=by
 unfold eqK at h;unfold eqB;split at h
 ·obtain⟨b,hb,h⟩:=zbA (zru h);exact⟨.val (.sc (.bool b)) s,by simp only[hb,zcz],h⟩
 ·obtain⟨b,hb,h⟩:=zbA (zru h);exact⟨.val (.sc (.bool (!b))) s,by simp only[hb,zcz],h⟩
 ·rename_i h1 h2;obtain⟨nx,h3,h4⟩:=zhu h;refine⟨nx,?_,h4⟩;split
  ·exact absurd rfl h1
  ·exact absurd rfl h2
  ·exact h3
theorem zgf {op:BinOp} {xt:TypeId} {x y:AV} (hn:∀k n,x≠ .sc (.int k n)):zr0 P t s o op xt x y=eqB P op xt s x y (zaR P t s o):=by
 unfold zr0;split
 ·exact absurd rfl (hn _ _)
 ·rfl
theorem zwa {op:BinOp} {xt yt:TypeId} {x y:Operand} (ho:o.op= .binOp op xt x y yt) (h:zyG P t s o op xt (ev t x) (ev t y) K):OpDoes P t s o K:=by
 have e0:za7 P t s o=zr0 P t s o op xt (ev t x) (ev t y):=by unfold za7 comp;rw[ho]
 unfold zyG at h;unfold OpDoes;split at h
 ·rename_i k a hx;split at h
  ·rename_i k' b hy
   have shf:∀n:Int,pure? P (binOp op xt (.int k a) (.int k' b))= .ok (.int k n)->(op= .shl∨op= .shr)->K (.sc (.int k n)) s->∃nx,za7 P t s o= .ok nx/\NxK P s K nx:=by
    intro n hp hop hK;have e1:zaR P t s o= .ok (.val (.sc (.int k n)) s):=zht ho hx hy (by rcases hop with rfl|rfl<;>exact hp);refine⟨.val (.sc (.int k n)) s,?_,hK⟩;rw[e0,hx,hy];unfold zr0;rw[←e1]
    rcases hop with rfl|rfl<;>(dsimp only;split<;>rfl)
   split at h
   ·obtain⟨hb,h⟩:=h;refine shf _ ?_ (.inl rfl) h;unfold binOp Op.shift;simp only[yfX (Int.not_lt.2 hb)];rfl
   ·obtain⟨hb,h⟩:=h;refine shf _ ?_ (.inr rfl) h;unfold binOp Op.shift;simp only[yfX (Int.not_lt.2 hb)];rfl
   ·split at h
    ·rename_i hk
     have hkk:k=k':=by
      unfold sameKind at hk
      cases k<;>cases k'<;>first|rfl|exact absurd hk (by decide)
     subst hkk;obtain⟨nx,h1,h2⟩:=zoY (other':=zaR P t s o) h (λv hv=>zht ho hx hy (by cases op<;>exact hv));refine⟨nx,?_,h2⟩;rw[e0,hx,hy];unfold zr0;simp only[hk];exact h1
    ·rename_i hk;obtain⟨nx,h1,h2⟩:=zhu h;refine⟨nx,?_,h2⟩;rw[e0,hx,hy];unfold zr0;simp only[hk];exact h1
  ·rename_i hne;obtain⟨nx,h1,h2⟩:=zhu h;refine⟨nx,?_,h2⟩;rw[e0,hx];unfold zr0;revert hne;generalize ev t y=ay;intro hne;show(match ay with| .sc (.int k' b)=>(match sameKind k k' with|true=>zgt op k a b s (zaR P t s o)|false=>zaR P t s o)|_=>zaR P t s o)=_;split
   ·rename_i k2 b2;exact absurd rfl (hne k2 b2)
   ·exact h1
 ·rename_i a hx;split at h
  ·rename_i b hy;split at h
   ·obtain⟨h0,h⟩:=h;refine⟨.val (.sc (.string ⟨⟨a++b⟩⟩)) s,?_,h⟩;rw[e0,hx,hy,zgf (λk n e=>by cases e)];exact zpM ho hx hy h0
   ·obtain⟨nx,h1,h2⟩:=zut h;refine⟨nx,?_,h2⟩;rw[e0,hx,hy,zgf (λk n e=>by cases e)];rw[hx,hy] at h1;exact h1
  ·exact h.elim
 ·rename_i hni hns;obtain⟨nx,h1,h2⟩:=zut h;refine⟨nx,?_,h2⟩;rw[e0,zgf hni];exact h1
end
end Go.Ex
namespace Go.Ex
open Go
section
variable {P : Program} {t : Tm} {s : St} {o : Oper} {K : KC}
theorem zwy {op:UnOp} {xt:TypeId} {x:Operand} (ho:o.op= .unOp op xt x) (h:unK P t s o op (ev t x) K):OpDoes P t s o K:=by
 unfold unK at h;split at h
 ·split at h
  ·rename_i b hx;refine .val ?_ h;unfold za7 comp;rw[ho];simp only[hx,unA,zcz]
  ·exact zc3 h
 ·split at h
  ·rename_i k a hx;split at h
   ·obtain⟨hs,h⟩:=h;refine .val ?_ h;unfold za7 comp;rw[ho];simp only[hx,unA,zg7,zpX hs,zjZ]
   ·exact zc3 h
  ·exact zc3 h
 ·exact zc3 h
theorem zsQ {c a b:Operand} (ho:o.op= .pick c a b) (h:zvl P t s o (ev t c) (ev t a) (ev t b) K):OpDoes P t s o K:=by
 unfold zvl at h;split at h
 ·rename_i k hc
  have e:za7 P t s o=zsS s (ev t c) (ev t a) (ev t b):=by
   unfold za7 comp;rw[ho]
  rw[hc] at e;cases k
  ·exact⟨_,e,AV.forceK_ok (K:=λb=>K b s) h.ff⟩
  ·exact⟨_,e,AV.forceK_ok (K:=λb=>K b s) h.tt⟩
 ·exact h.elim
theorem znF (h:opK P t s o K):OpDoes P t s o K:=by
 unfold opK at h;split at h
 ·exact zwa ‹_› h
 ·exact zwy ‹_› h
 ·exact zsQ ‹_› h
 ·exact zvL ‹_› h
 ·exact zv3 ‹_› h
 ·exact zpZ ‹_› h
 ·exact zs8 ‹_› h
 ·exact zv8 ‹_› h
 ·exact zpN ‹_› h
 ·exact ztA ‹_› h
 ·exact zta ‹_› h
 ·rename_i c ho;split at h
  ·rename_i b hb;split at h
   ·exact zpl ho hb h
   ·exact zvE ho hb h
   ·exact zrS ho hb h
   ·exact zdx h
  ·exact zdx h
 ·split at h
  ·exact zvM h
  ·exact zc3 h
end
def znZ (ops:List Oper) (t:Tm) (o:Oper) (K N:Prop):Prop:=
 match o.guard with
 |none=>K
 |some (j,want)=>match ztp ops j with
  |none=>N
  |some d=>match t.get d with
   | .sc (.bool b)=>match want with|true=>KIf b K N|false=>KIf b N K
   | .any=>False
   |_=>N
noncomputable def zyk (P:Program) (ops:List Oper) (l:List Oper):Tm->St->(Tm->St->Prop)->Prop:=
 List.rec (motive:=λ_=>Tm->St->(Tm->St->Prop)->Prop) (λt s K=>K t s)
  (λo _ ih t s K=>znZ ops t o (opK P t s o λv s'=>t.putK o.dst v λt=>ih t s' K) (t.putK o.dst AV.undef λt=>ih t s K)) l
theorem zlo {ops:List Oper} {t:Tm} {o:Oper} {K N:Prop} (h:znZ ops t o K N):(zcr ops t o=some true/\K)∨(zcr ops t o=some false/\N):=by
 unfold znZ at h;unfold zcr;split at h
 ·rename_i hg;rw[hg];exact .inl ⟨rfl,h⟩
 ·rename_i j want hg;rw[hg];simp only;split at h
  ·rename_i hd;rw[hd];exact .inr ⟨rfl,h⟩
  ·rename_i d hd;rw[hd];simp only;split at h
   ·rename_i b hb;simp only[hb]
    cases want<;>cases b<;>first|exact .inl ⟨rfl,KIf.tt h⟩|exact .inl ⟨rfl,KIf.ff h⟩|exact .inr ⟨rfl,KIf.tt h⟩|exact .inr ⟨rfl,KIf.ff h⟩
   ·exact h.elim
   ·rename_i h1 h2;split
    ·rename_i b hb;exact absurd hb (h1 b)
    ·rename_i hb;exact absurd hb h2
    ·exact .inr ⟨rfl,h⟩
def Above (m:Mp) (n:Nat):Prop:=∀b,n<=b->m b=none
structure Gk (n0:Nat) (F F':AH) (m m':Mp) (w w':World):Prop where
 ok:Ok m' F' w'
 fr:Fr m F w w'
 new:zx9 m m' F F' w
 zle:Zle m.z m'.z
 znew:zyI m m' F w
 low:∀b,b<n0->m' b=m b
section
variable {P : Program} {n0 : Nat} {m m' m'' : Mp} {F F' F'' : AH} {w w' w'' : World} {s s' s'' : St}
theorem Gk.refl (h:Ok m F w):Gk n0 F F m m w w:=⟨h,Fr.refl _ _ _,λb o hb=> .inl ⟨b,o,hb,rfl⟩,λ_ _ _ h=>h,λ_ _ _ h=> .inl h,λ_ _=>rfl⟩
theorem Gk.trans (h:Gk n0 F F' m m' w w') (h':Gk n0 F' F'' m' m'' w' w''):Gk n0 F F'' m m'' w w'':=by
 refine⟨h'.ok,⟨h'.fr.os.trans h.fr.os,h'.fr.tape.trans h.fr.tape,h'.fr.output.trans h.fr.output,yBX h.fr.size h'.fr.size,λk hk hn=> ?_⟩,λb o hb=> ?_,λk i v hv=>h'.zle k i v (h.zle k i v hv),λk i v hv=> ?_,λb hb=>(h'.low b hb).trans (h.low b hb)⟩
 ·rw[h'.fr.block k (ywY hk h.fr.size) λb o hb e=> ?_,h.fr.block k hk hn]
  rcases h.new b o hb with⟨b0,o0,h0,e0⟩|⟨k0,e0,hk0⟩
  ·exact hn b0 o0 h0 (e0.symm.trans e)
  ·rw[e0] at e;cases e;omega
 ·rcases h'.new b o hb with⟨b0,o0,h0,e0⟩|⟨k0,e0,hk0⟩
  ·rcases h.new b0 o0 h0 with⟨b1,o1,h1,e1⟩|⟨k1,e1,hk1⟩
   ·exact .inl ⟨b1,o1,h1,e0.trans e1⟩
   ·exact .inr ⟨k1,e0.trans e1,hk1⟩
  ·exact .inr ⟨k0,e0,yBX h.fr.size hk0⟩
 ·rcases h'.znew k i v hv with h1|⟨b0,o0,h0,e0⟩|h1
  ·exact h.znew k i v h1
  ·rcases h.new b0 o0 h0 with⟨b1,o1,h1,e1⟩|⟨k1,e1,hk1⟩
   ·exact .inr (.inl ⟨b1,o1,h1,e1.symm.trans e0⟩)
   ·rw[e1] at e0;cases e0;exact .inr (.inr hk1)
  ·exact .inr (.inr (yBX h.fr.size h1))
theorem Goes.gk (h:Goes F F' s.n s'.n m m' w w') (hn:n0<=s.n) (ha:Above m s.n):Gk n0 F F' m m' w w'/\Above m' s'.n:=by
 refine⟨⟨h.ok,h.fr,h.new,h.zle,h.znew,λb hb=>h.ext b (.inl zo)⟩,λb hb=> ?_⟩;have:=h.le;rw[h.ext b (.inr hb)];exact ha b zo
theorem Above.fresh (h:Above m s.n) (n':Nat):Fresh m s.n n':=λb hb _=>h b hb
end
def After (n0:Nat) (m:Mp) (w:World) (s:St) (K:Xt->Tm->St->Prop) (e:Exit) (a':Act) (w':World):Prop:=
 ∃x t' s' m',e=xtE x/\K x t' s'/\Fit m' t' a'/\a'.defers=[]/\Gk n0 s.h.get s'.h.get m m' w w'/\Above m' s'.n/\n0<=s'.n
def WK (P:Program) (n0:Nat) (c:Code) (t:Tm) (s:St) (K:Xt->Tm->St->Prop):Prop:=
 ∀m a w,Fit m t a->a.defers=[]->Ok m s.h.get w->Above m s.n->n0<=s.n->c.wp P (After n0 m w s K) a w
section
variable {P : Program} {n0 : Nat} {m m' : Mp} {w w' : World} {s s' : St} {t t' : Tm} {K K' : Xt -> Tm -> St -> Prop}
theorem After.trans {e:Exit} {a':Act} {w2:World} (hg:Gk n0 s.h.get s'.h.get m m' w w') (h:After n0 m' w' s' K e a' w2):After n0 m w s K e a' w2:=by
 obtain⟨x,t2,s2,m2,h1,h2,h3,h4,h5,h6,h7⟩:=h;exact⟨x,t2,s2,m2,h1,h2,h3,h4,hg.trans h5,h6,h7⟩
def AfterN (n0:Nat) (m:Mp) (w:World) (s:St) (K:Tm->St->Prop) (a':Act) (w':World):Prop:=
 ∃t' s' m',K t' s'/\Fit m' t' a'/\a'.defers=[]/\Gk n0 s.h.get s'.h.get m m' w w'/\Above m' s'.n/\n0<=s'.n
theorem AfterN.trans {K:Tm->St->Prop} {a':Act} {w2:World} (hg:Gk n0 s.h.get s'.h.get m m' w w') (h:AfterN n0 m' w' s' K a' w2):AfterN n0 m w s K a' w2:=by
 obtain⟨t2,s2,m2,h2,h3,h4,h5,h6,h7⟩:=h;exact⟨t2,s2,m2,h2,h3,h4,hg.trans h5,h6,h7⟩
theorem zjC {n0:Nat} (ops:Array Oper) (Q0:Exit->Act->World->Prop):∀(l:List Oper) (t:Tm) (s:St) (Q:Tm->St->Prop),zyk P ops.toList l t s Q->∀m a w,Fit m t a->a.defers=[]->Ok m s.h.get w->Above m s.n->n0<=s.n->(∀a' w',AfterN n0 m w s Q a' w'->Q0 .normal a' w')->wpList P ops Q0 l a w
 |[],t,s,Q,h,m,a,w,hf,hd,hok,ha,hn,hq=>hq _ _ ⟨t,s,m,h,hf,hd,Gk.refl hok,ha,hn⟩
 |o::l,t,s,Q,h,m,a,w,hf,hd,hok,ha,hn,hq=>by
  refine wpList_step λK hK=> ?_
  rcases zlo h with⟨hg,h⟩|⟨hg,h⟩
  ·rw[zdw hf hg,ygX rfl];obtain⟨nx,hop,hnx⟩:=znF h;unfold Oper.wp
   cases nx with
   |val v s1=>
    obtain⟨x,w1,m1,hr,hgo,hv⟩:=zeq hop hf.ev hok (ha.fresh _);obtain⟨hgk,ha1⟩:=hgo.gk (n0:=n0) hn ha;obtain⟨t1,hp,h2⟩:=Tm.putK_ok (K:=λt=>zyk P ops.toList l t s1 Q) hnx;have hk:=hK _ _ (zjC ops Q0 l t1 s1 Q h2 m1 (a.put o.dst x) w1 ((hf.mono (hgo.mle (ha.fresh _))).put hp hv) (by rw[put_defers,hd]) hgk.ok ha1 (yBX hn hgo.le) λa' w' h=>hq _ _ (h.trans hgk))
    rcases hr with hr|⟨hr,rfl⟩
    ·rw[hr];exact hk
    ·rw[hr];exact hk
   |enter f args=>
    obtain⟨v,s1,hc,hle,h2⟩:=hnx;obtain⟨args',hr,hR⟩:=zeq hop hf.ev hok;rw[hr];refine Calls.mono (hc m w args' hR hok (ha.fresh _)) ?_;rintro e w1 ⟨y,m1,rfl,hgo,hv⟩;obtain⟨hgk,ha1⟩:=hgo.gk (n0:=n0) hn ha;obtain⟨t1,hp,h2⟩:=Tm.putK_ok h2;exact hK _ _ (zjC ops Q0 l t1 s1 Q h2 m1 (a.put o.dst y) w1 ((hf.mono (hgo.mle (ha.fresh _))).put hp hv) (by rw[put_defers,hd]) hgk.ok ha1 (yBX hn hgo.le) λa' w' h=>hq _ _ (h.trans hgk))
  ·rw[zdw hf hg,yfX yFY];obtain⟨t1,hp,h2⟩:=Tm.putK_ok h;exact hK _ _ (zjC ops Q0 l t1 s Q h2 m (a.put o.dst undef) w (hf.put hp rfl) (by rw[put_defers,hd]) hok ha hn hq)
def nb (l:List Bool) (i:Nat):Bool:=match nth l i with|some b=>b|none=>false
def zuc (l:List (List Bool)) (i:Nat):List Bool:=match nth l i with|some b=>b|none=>[]
def orK :List Bool->List Bool->(List Bool->Prop)->Prop
 |[],b,K=>K b
 |x::a,b,K=>match b with
  |[]=>K (x::a)
  |y::b=>orK a b λr=>match x with
   |true=>K (true::r)
   |false=>match y with|true=>K (true::r)|false=>K (false::r)
def zwK :List Bool->Nat->(List Bool->Prop)->Prop
 |[],0,K=>K [true]
 |[],n+1,K=>zwK [] n λr=>K (false::r)
 |_::l,0,K=>K (true::l)
 |x::l,n+1,K=>zwK l n λr=>K (x::r)
def ziF :List Edge->List (List Bool)->List Bool->(List Bool->Prop)->Prop
 |[],_,r,K=>K r
 |e::l,acc,r,K=>match Region.binds .any e with
  |true=>match nth acc e.on with
   |some m=>orK r m λr=>zwK r e.on λr=>ziF l acc r K
   |none=>zwK r e.on λr=>ziF l acc r K
  |false=>ziF l acc r K
def zuT :List (List Bool)->List Bool->(List (List Bool)->Prop)->Prop
 |[],m,K=>K [m]
 |a::l,m,K=>zuT l m λr=>K (a::r)
def zqS :List Oper->List (List Bool)->(List (List Bool)->Prop)->Prop
 |[],acc,K=>K acc
 |o::l,acc,K=>ziF o.after.toList acc [] λm=>zuT acc m λacc=>zqS l acc K
theorem zd0 (i:Nat):nb [] i=false:=by unfold nb;rw[zbc];rfl
theorem zmz (x:Bool) (l:List Bool):nb (x::l) 0=x:=rfl
theorem zhF (x:Bool) (l:List Bool) (i:Nat):nb (x::l) (i+1)=nb l i:=rfl
theorem zub :∀(a b:List Bool) {K:List Bool->Prop},orK a b K->∃r,K r/\∀i,nb r i=(nb a i||nb b i)
 |[],b,K,h=>⟨b,h,λi=>by rw[zd0,y4Y]⟩
 |x::a,[],K,h=>⟨x::a,h,λi=>by rw[zd0,y3Y]⟩
 |x::a,y::b,K,h=>by
  obtain⟨r,h1,h2⟩:=zub a b h;cases x
  ·cases y
   ·exact⟨false::r,h1,λi=>by cases i;rfl;exact h2 _⟩
   ·exact⟨true::r,h1,λi=>by cases i;rfl;exact h2 _⟩
  ·exact⟨true::r,h1,λi=>by cases i;rfl;exact h2 _⟩
theorem zjg :∀(a:List Bool) (n:Nat) {K:List Bool->Prop},zwK a n K->∃r,K r/\∀i,nb r i=(nb a i||decide (n=i))
 |[],0,K,h=>⟨[true],h,λi=>by cases i;rfl;rw[zhF,zd0,zd0];simp⟩
 |[],n+1,K,h=>by
  obtain⟨r,h1,h2⟩:=zjg [] n h;refine⟨false::r,h1,λi=> ?_⟩
  cases i with
  |zero=>simp[zd0,zmz]
  |succ i=>rw[zhF,h2,zd0,zd0];simp
 |x::l,0,K,h=>⟨true::l,h,λi=>by cases i;simp[zmz];simp[zhF]⟩
 |x::l,n+1,K,h=>by
  obtain⟨r,h1,h2⟩:=zjg l n h;refine⟨x::r,h1,λi=> ?_⟩
  cases i with
  |zero=>simp[zmz]
  |succ i=>rw[zhF,h2,zhF];simp
theorem zuA (a b i:Nat):bit (Nat.lor a b) i=(bit a i||bit b i):=by
 rw[zdK,zdK,zdK];exact y7Z ..
def zx8 (acc:List (List Bool)) (ms:List Nat):Prop:=acc.length=ms.length/\∀j i,nb (zuc acc j) i=bit (zgC ms j) i
theorem zfw {acc:List (List Bool)} {ms:List Nat} (hr:zx8 acc ms):∀(l:List Edge) (r:List Bool) {K:List Bool->Prop},ziF l acc r K->∃r',K r'/\∀i,nb r' i=(nb r i||bit (zdd l ms) i)
 |[],r,K,h=>⟨r,h,λi=>by rw[show bit (zdd [] ms) i=false by rw[zdK];simp[zdd],y3Y]⟩
 |e::l,r,K,h=>by
  unfold ziF at h;split at h
  ·rename_i hb
   have he:∀i,bit (zdd (e::l) ms) i=((decide (e.on=i)||bit (zgC ms e.on) i)||bit (zdd l ms) i):=λi=>by
    show bit (match Region.binds .any e with|true=>Nat.lor (Nat.lor (Nat.pow 2 e.on) (zgC ms e.on)) (zdd l ms)|false=>zdd l ms) i=_;rw[hb];simp only;rw[zuA,zuA]
    congr 2
    rw[zdK];exact yVZ
   split at h
   ·rename_i m hm;obtain⟨r1,h,h1⟩:=zub _ _ h;obtain⟨r2,h,h2⟩:=zjg _ _ h;obtain⟨r3,h,h3⟩:=zfw hr l r2 h;refine⟨r3,h,λi=> ?_⟩
    have hmi:nb m i=bit (zgC ms e.on) i:=by
     rw[←hr.2 e.on i];unfold zuc;rw[hm]
    rw[h3,h2,h1,he,hmi];cases nb r i<;>cases bit (zgC ms e.on) i<;>simp
   ·rename_i hm;obtain⟨r2,h,h2⟩:=zjg _ _ h;obtain⟨r3,h,h3⟩:=zfw hr l r2 h;refine⟨r3,h,λi=> ?_⟩
    have hmi:bit (zgC ms e.on) i=false:=by
     rw[←hr.2 e.on i];unfold zuc;rw[hm];exact zd0 i
    rw[h3,h2,he,hmi];cases nb r i<;>simp
  ·rename_i hb;obtain⟨r3,h,h3⟩:=zfw hr l r h;refine⟨r3,h,λi=> ?_⟩;rw[h3]
   show _=(nb r i||bit (match Region.binds .any e with|true=>Nat.lor (Nat.lor (Nat.pow 2 e.on) (zgC ms e.on)) (zdd l ms)|false=>zdd l ms) i)
   rw[hb]
theorem znf :∀(l:List (List Bool)) (m:List Bool) {K:List (List Bool)->Prop},zuT l m K->K (l++[m])
 |[],m,K,h=>h
 |a::l,m,K,h=>znf l m h
theorem zlb :∀(l:List Oper) {acc:List (List Bool)} {ms:List Nat} {K:List (List Bool)->Prop},zx8 acc ms->zqS l acc K->∃acc',K acc'/\zx8 acc' (zjJ l ms)
 |[],acc,ms,K,hr,h=>⟨acc,h,hr⟩
 |o::l,acc,ms,K,hr,h=>by
  obtain⟨m,h,hm⟩:=zfw hr _ _ h;have h:=znf acc m h;refine zlb l (ms:=ms++[zdd o.after.toList ms]) ⟨by simp[hr.1],λj i=> ?_⟩ h;unfold zuc;rw[zbc,zhC,ymZ]
  rcases Nat.lt_trichotomy j acc.length with hj|hj|hj
  ·rw[yIX hj,yIX (by rw[←hr.1];exact hj)];have:=hr.2 j i;unfold zuc at this;rw[zbc,zhC,ymZ] at this;exact this
  ·subst hj;rw[yuX (yhX _),yuX (by rw[hr.1];exact yhX _)];rw[←hr.1];simp only[yQY,List.getElem?_cons_zero,ycZ];rw[hm,zd0,y4Y]
  ·rw[yyX (by simp;omega),yyX (by simp[←hr.1];omega)];rw[zdK];simp[zd0]
def zrd (m:List Bool):List (Nat×T AO)->Bool
 |[]=>true
 |(i,_)::l=>match nb m i with|true=>zrd m l|false=>false
def zf3 (m:List Bool):List (Nat×Nat×AO)->List (Nat×Nat×AO)
 |[]=>[]
 |(i,q)::l=>match nb m i with|true=>(i,q)::zf3 m l|false=>zf3 m l
def zfn (m:List Bool):List (Nat×Nat×AO)->List (Nat×Nat×AO)
 |[]=>[]
 |(i,q)::l=>match nb m i with|true=>zfn m l|false=>(i,q)::zfn m l
theorem znY {m:List Bool} {mask:Nat} (h:∀i,nb m i=bit mask i):∀l,zrd m l=zre mask l
 |[]=>rfl
 |(i,g)::l=>by unfold zrd zre;rw[h,znY h l];cases bit mask i<;>rfl
theorem ziM {m:List Bool} {mask:Nat} (h:∀i,nb m i=bit mask i):∀l,zf3 m l=zbD mask l
 |[]=>rfl
 |(i,g)::l=>by unfold zf3 zbD;rw[h,ziM h l];cases bit mask i<;>rfl
theorem zhx {m:List Bool} {mask:Nat} (h:∀i,nb m i=bit mask i):∀l,zfn m l=zcn mask l
 |[]=>rfl
 |(i,g)::l=>by unfold zfn zcn;rw[h,zhx h l];cases bit mask i<;>rfl
def zw7 (P:Program) (ty:TypeId) (b off:Nat) (v:AV) (mask:List Bool) (K:Prop):List (Nat×T AO)->Prop
 |[]=>K
 |(i,h)::l=>match nb mask i with|true=>zw7 P ty b off v mask K l|false=>RK (zcw P ⟨h,0⟩ ty b off) λv'=>Need (v'=v) (zw7 P ty b off v mask K l)
def zxb (P:Program) (h:T AO) (mask:List Bool) (K:Prop):List (Nat×TypeId×Nat×Nat×AV)->Prop
 |[]=>K
 |(i,ty,b,off,v)::l=>match nb mask i with|true=>zxb P h mask K l|false=>RK (zcw P ⟨h,0⟩ ty b off) λv'=>Need (v'=v) (zxb P h mask K l)
inductive Kd |load (ty:TypeId) (x:Operand)|light|call|heavy
def zwq (o:Op):Kd:=
 match o with
 | .load ty x=> .load ty x
 | .store _ _ _=> .heavy
 | .convert _ _ _=> .heavy
 | .next _ _=> .heavy
 | .call c=>match c.callee with
  | .builtin b=>match b with
   | .append=> .heavy
   | .copy=> .heavy
   | .clear=> .heavy
   |_=> .light
  |_=> .call
 |_=> .light
def PureC (P:Program) (f:FuncId) (args:List AV) (v:AV):Prop:=∀s,CallOk P f args s v s
theorem KCall.pure {P:Program} {f:FuncId} {args:List AV} {s:St} {K:KC} {v:AV} (h:PureC P f args v) (hk:K v s):KCall P f args s K:=⟨v,s,h s,yhX _,hk⟩
def zj1 (P:Program) (d:DS) (j:Nat) (o:Oper) (mask:List Bool) (v:AV) (s:St) (K:DS->Prop):Prop:=
 match d with
 |⟨t,h,n,pend,hv,lds⟩=>match s with
  |⟨h',n'⟩=>match Nat.ble n n' with
   |true=>zxb P h' mask (t.putK o.dst v λt=>K ⟨t,h',n',zfn mask pend,(j,h)::hv,lds⟩) lds
   |false=>False
def zhN (d:DS) (j:Nat) (o:Oper) (v:AV) (s:St) (K:DS->Prop):Prop:=
 match d with
 |⟨t,h,n,pend,hv,lds⟩=>match Nat.beq s.n n with
  |true=>t.putK o.dst v λt=>K ⟨t,h,n,pend,hv,lds⟩
  |false=>match Nat.beq s.n (Nat.succ n) with
   |true=>match s.h.get n with
    |some ao=>ao.forceK λao=>t.putK o.dst v λt=>Nat.forceK (Nat.succ n) λn'=>K ⟨t,h,n',(j,n,ao)::pend,hv,lds⟩
    |none=>False
   |false=>False
structure DCall (P:Program) (f:FuncId) (args:List AV) (light:AV->Prop) (heavy:AV->St->Prop) (s:St):Prop where
 h:(∃v,PureC P f args v/\light v)∨∃v s',CallOk P f args s v s'/\heavy v s'
theorem DCall.pure {P:Program} {f:FuncId} {args:List AV} {light:AV->Prop} {heavy:AV->St->Prop} {s:St} {v:AV} (h:PureC P f args v) (hk:light v):DCall P f args light heavy s:=⟨.inl ⟨v,h,hk⟩⟩
def zne (P:Program) (ops:List Oper) (d:DS) (j:Nat) (o:Oper) (mask:List Bool) (K:DS->Prop):Prop:=
 match d with
 |⟨t,h,n,pend,hv,lds⟩=>znZ ops t o
  (match zwq o.op with
  | .load ty x=>match ev t x with
   | .ptr b off=>RK (zcw P ⟨h,0⟩ ty b off) λv=>v.forceK λv=>zw7 P ty b off v mask (t.putK o.dst v λt=>K ⟨t,h,n,pend,hv,(j,ty,b,off,v)::lds⟩) hv
   |_=>opK P t ⟨.e,n⟩ o λv s=>zhN ⟨t,h,n,pend,hv,lds⟩ j o v s K
  | .light=>opK P t ⟨.e,n⟩ o λv s=>zhN ⟨t,h,n,pend,hv,lds⟩ j o v s K
  | .call=>match za7 P t ⟨.e,n⟩ o with
   | .ok (.enter f args)=>match zrd mask hv with
    |true=>(⟨merge h (zf3 mask pend),n⟩:St).nfK λs=>DCall P f args (λv=>t.putK o.dst v λt=>K ⟨t,h,n,pend,hv,lds⟩) (λv s'=>zj1 P ⟨t,h,n,pend,hv,lds⟩ j o mask v s' K) s
    |false=>DCall P f args (λv=>t.putK o.dst v λt=>K ⟨t,h,n,pend,hv,lds⟩) (λ_ _=>False) ⟨.e,n⟩
   | .ok (.val v s)=>v.forceK λv=>zhN ⟨t,h,n,pend,hv,lds⟩ j o v s K
   | .no _=>False
  | .heavy=>match zrd mask hv with
   |true=>(⟨merge h (zf3 mask pend),n⟩:St).nfK λs=>opK P t s o λv s'=>zj1 P ⟨t,h,n,pend,hv,lds⟩ j o mask v s' K
   |false=>False)
  (t.putK o.dst AV.undef λt=>K ⟨t,h,n,pend,hv,lds⟩)
noncomputable def ztq (P:Program) (ops:List Oper) (ms:List (List Bool)) (j:Nat) (l:List Oper):DS->(DS->Prop)->Prop:=
 List.rec (motive:=λ_=>Nat->DS->(DS->Prop)->Prop) (λ_ d K=>K d)
  (λo _ ih j d K=>zne P ops d j o (zuc ms j) λd=>Nat.forceK (Nat.succ j) λj=>ih j d K) l j
noncomputable def zrE (P:Program) (ops:Array Oper) (t:Tm) (s:St) (K:Tm->St->Prop):Prop:=
 Need (zqG ops=true) (match s with|⟨h,n⟩=>zqS ops.toList [] λms=>ztq P ops.toList ms 0 ops.toList ⟨t,h,n,[],[],[]⟩ λd=>match d with|⟨t,h,n,pend,_,_⟩=>(⟨merge h pend,n⟩:St).nfK λs=>K t s)
end
end Go.Ex
namespace Go.Ex
open Go
section
variable {P : Program} {ops : List Oper} {d d' : DS} {j mask : Nat} {bl : List Bool} {o : Oper} {K : DS -> Prop}
theorem zmv (hb:∀i,nb bl i=bit mask i) {ty:TypeId} {b off:Nat} {v:AV} {K:Prop}:∀{l:List (Nat×T AO)},zw7 P ty b off v bl K l->zxU P ty b off v mask l/\K
 |[],h=>⟨λp hp=>by simp at hp,h⟩
 |(i,g)::l,h=>by
  unfold zw7 at h;split at h
  ·rename_i hb1;rw[hb] at hb1;obtain⟨h1,h2⟩:=zmv hb h;refine⟨λp hp hm=> ?_,h2⟩
   rcases yAX.1 hp with rfl|hp
   ·rw[hb1] at hm;cases hm
   ·exact h1 p hp hm
  ·obtain⟨v',hv,he,h⟩:=zbA h;obtain⟨h1,h2⟩:=zmv hb h;refine⟨λp hp hm=> ?_,h2⟩
   rcases yAX.1 hp with rfl|hp
   ·exact⟨v',hv, .inr he⟩
   ·exact h1 p hp hm
theorem zmy (hb:∀i,nb bl i=bit mask i) {h:T AO} {K:Prop}:∀{l:List (Nat×TypeId×Nat×Nat×AV)},zxb P h bl K l->ztP P h mask l/\K
 |[],h=>⟨λp hp=>by simp at hp,h⟩
 |(i,ty,b,off,v)::l,h=>by
  unfold zxb at h;split at h
  ·rename_i hb1;rw[hb] at hb1;obtain⟨h1,h2⟩:=zmy hb h;refine⟨λp hp hm=> ?_,h2⟩
   rcases yAX.1 hp with rfl|hp
   ·rw[hb1] at hm;cases hm
   ·exact h1 p hp hm
  ·obtain⟨v',hv,he,h⟩:=zbA h;obtain⟨h1,h2⟩:=zmy hb h;refine⟨λp hp hm=> ?_,h2⟩
   rcases yAX.1 hp with rfl|hp
   ·exact⟨v',hv, .inr he⟩
   ·exact h1 p hp hm
theorem zfZ {v:AV} {s:St} (hg:zcr ops d.t o=some true) (ho:Op1 P d.t ⟨.e,d.n⟩ o v s) (h:zhN d j o v s K):∃d',zgE P ops d j o mask d'/\K d':=by
 obtain⟨t,h',n,pend,hv,lds⟩:=d;unfold zhN at h;simp only at h;split at h
 ·rename_i hn;obtain⟨t',hp,h⟩:=Tm.putK_ok h;exact⟨_,⟨t',v,hp, .inr ⟨hg, .inl ⟨s,ho,yjX hn,rfl⟩⟩⟩,h⟩
 ·split at h
  ·rename_i hn;have hn:=yjX hn;split at h
   ·rename_i ao hao;have h:=AO.forceK_ok h;obtain⟨t',hp,h⟩:=Tm.putK_ok h;have h:=Nat.forceK_ok h;refine⟨_,⟨t',v,hp, .inr ⟨hg, .inr (.inl ⟨s,ao,ho,hn,hao,rfl⟩)⟩⟩,?_⟩;rw[hn];exact h
   ·exact h.elim
  ·exact h.elim
theorem ziN (hb:∀i,nb bl i=bit mask i) {v:AV} {s:St} (hg:zcr ops d.t o=some true) (hh:zre mask d.hv=true) (ho:Op1 P d.t ⟨merge d.h (zbD mask d.pend),d.n⟩ o v s) (h:zj1 P d j o bl v s K):∃d',zgE P ops d j o mask d'/\K d':=by
 obtain⟨t,h',n,pend,hv,lds⟩:=d;obtain⟨sh,sn⟩:=s;unfold zj1 at h;simp only at h;split at h
 ·rename_i hn;rw[zhx hb] at h;obtain⟨hnew,h⟩:=zmy hb h;obtain⟨t',hp,h⟩:=Tm.putK_ok h;exact⟨_,⟨t',v,hp, .inr ⟨hg, .inr (.inr (.inr ⟨⟨sh,sn⟩,hh,ho,zdJ hn,hnew,rfl⟩))⟩⟩,h⟩
 ·exact h.elim
theorem OpDoes.op1 {t:Tm} {s:St} {K:KC} (h:OpDoes P t s o K):∃v s',Op1 P t s o v s'/\K v s':=by
 obtain⟨nx,hop,hnx⟩:=h
 cases nx with
 |val v s'=>exact⟨v,s', .inl hop,hnx⟩
 |enter f args=>
  obtain⟨v,s',hc,_,h⟩:=hnx;exact⟨v,s', .inr ⟨f,args,hop,hc⟩,h⟩
theorem zq3 {ty:TypeId} {x:Operand} {op:Op} (h:zwq op= .load ty x):op= .load ty x:=by
 unfold zwq at h;split at h
 ·cases h;rfl
 ·cases h
 ·cases h
 ·cases h
 ·split at h
  ·split at h<;>cases h
  ·cases h
 ·cases h
theorem zq4 {op:Op} (h:zwq op= .call):∃c,op= .call c/\∀b,c.callee≠ .builtin b:=by
 unfold zwq at h;split at h
 ·cases h
 ·cases h
 ·cases h
 ·cases h
 ·rename_i c;split at h
  ·split at h<;>cases h
  ·rename_i hb;exact⟨c,rfl,hb⟩
 ·cases h
theorem zoP {t:Tm} {s s':St} {f:FuncId} {args:List AV} (hk:zwq o.op= .call) (h:za7 P t s o= .ok (.enter f args)):za7 P t s' o= .ok (.enter f args):=by
 obtain⟨c,hc,hb⟩:=zq4 hk;unfold za7 comp at h⊢;rw[hc] at h⊢;simp only[zij] at h⊢;split at h
 ·exact h
 ·rename_i b hbb;exact absurd hbb (hb b)
 ·exact h
theorem zpQ (hb:∀i,nb bl i=bit mask i) (h:zne P ops d j o bl K):∃d',zgE P ops d j o mask d'/\K d':=by
 obtain⟨t,h',n,pend,hv,lds⟩:=d;unfold zne at h;simp only[znY hb,ziM hb] at h
 rcases zlo h with⟨hg,h⟩|⟨hg,h⟩
 ·split at h
  ·rename_i ty x hk;have hop:=zq3 hk;split at h
   ·rename_i b off hx;obtain⟨v,hv,h⟩:=zbA h;have h:=AV.forceK_ok h;obtain⟨hold,h⟩:=zmv hb h;obtain⟨t',hp,h⟩:=Tm.putK_ok h;exact⟨_,⟨t',v,hp, .inr ⟨hg, .inr (.inr (.inl ⟨ty,x,b,off,hop,hx,hv,hold,rfl⟩))⟩⟩,h⟩
   ·obtain⟨v,s',h1,h2⟩:=(znF h).op1;exact zfZ hg h1 h2
  ·obtain⟨v,s',h1,h2⟩:=(znF h).op1;exact zfZ hg h1 h2
  ·rename_i hk
   have pure:∀{f:FuncId} {args:List AV} {v:AV},za7 P t ⟨.e,n⟩ o= .ok (.enter f args)->PureC P f args v->(t.putK o.dst v λt=>K ⟨t,h',n,pend,hv,lds⟩)->∃d',zgE P ops ⟨t,h',n,pend,hv,lds⟩ j o mask d'/\K d':=by
    intro f args v hop hc hp;obtain⟨t',hp,h⟩:=Tm.putK_ok hp;exact⟨_,⟨t',v,hp, .inr ⟨hg, .inl ⟨⟨.e,n⟩, .inr ⟨f,args,hop,hc _⟩,rfl,rfl⟩⟩⟩,h⟩
   split at h
   ·rename_i f args hop;split at h
    ·rename_i hh
     rcases(St.nfK_ok h).h with⟨v,hc,hp⟩|⟨v,s',hc,hp⟩
     ·exact pure hop hc hp
     ·exact ziN hb hg hh (.inr ⟨f,args,zoP hk hop,hc⟩) hp
    ·rcases h.h with⟨v,hc,hp⟩|⟨_,_,_,hf⟩
     ·exact pure hop hc hp
     ·exact hf.elim
   ·rename_i v s hop;exact zfZ hg (.inl hop) (AV.forceK_ok h)
   ·exact h.elim
  ·split at h
   ·rename_i hh;obtain⟨v,s',h1,h2⟩:=(znF (St.nfK_ok h)).op1;exact ziN hb hg hh h1 h2
   ·exact h.elim
 ·obtain⟨t',hp,h⟩:=Tm.putK_ok h;exact⟨_,⟨t',_,hp, .inl ⟨hg,rfl,rfl⟩⟩,h⟩
theorem zoh {ml:List (List Bool)} {ms:List Nat} (hm:zx8 ml ms):∀{rest:List Oper} {j:Nat} {d:DS} {K:DS->Prop},ztq P ops ml j rest d K->∃D:Nat->DS,D j=d/\K (D (j+rest.length))/\∀k o,rest[k]? =some o->zgE P ops (D (j+k)) (j+k) o (zgC ms (j+k)) (D (j+k+1))
 |[],j,d,K,h=>⟨λ_=>d,rfl,h,λk o h=>by simp at h⟩
 |o::rest,j,d,K,h=>by
  have h:zne P ops d j o (zuc ml j) (λd=>Nat.forceK (Nat.succ j) λj=>ztq P ops ml j rest d K):=h;obtain⟨d1,h1,h⟩:=zpQ (hm.2 j) h;obtain⟨D,e1,e2,e3⟩:=zoh hm (Nat.forceK_ok (K:=λj=>ztq P ops ml j rest d1 K) h);refine⟨λi=>if i=j then d else D i,by simp,?_,λk o' hk=> ?_⟩
  ·show K (if j+(o::rest).length=j then d else D (j+(o::rest).length));rw[yfX (by simp)];rw[show j+(o::rest).length=j.succ+rest.length by simp only[yGX];omega];exact e2
  ·cases k with
   |zero=>
    simp at hk;subst hk;simp only[yvZ,ygX];rw[yfX zo,e1];exact h1
   |succ k=>
    have:=e3 k o' (by simpa using hk);show zgE P ops (if j+(k+1)=j then d else D (j+(k+1))) (j+(k+1)) o' (zgC ms (j+(k+1))) (if j+(k+1)+1=j then d else D (j+(k+1)+1));rw[yfX zo,yfX zo,show j+(k+1)=j.succ+k by omega];exact this
end
section
variable {P : Program} {n0 : Nat} {t : Tm} {s : St}
theorem zsv {ops:Array Oper} {D:Nat->DS} (hd:zqG ops=true) (h2:∀k o,ops.toList[k]? =some o->zgE P ops.toList (D k) k o (zgC (zjJ ops.toList []) k) (D (k+1))) (h0:(D 0).pend=[]):∃op,Tr P ops op D:=by
 have hop:∀j,j<ops.size->ops[j]? =some ((ops[j]?).getD default):=λj hj=>by simp[hj]
 have hop':∀j,j<ops.size->ops.toList[j]? =some ((ops[j]?).getD default):=λj hj=>by simp[hj]
 have chk:∀j,j<ops.size->_:=λj hj=>zf8 hd j _ (hop' j hj);simp only[ylX,yAY] at chk
 have pr:∀i j,i<j->j<ops.size->zoL (Oper.looksAt ops) i ((ops[i]?).getD default) ((ops[j]?).getD default) (maskAt ops j)=true:=λi j hi hj=>by
  have:=zeS (chk j hj).2 i ((ops[i]?).getD default) (by rw[yNX,ygX hi];exact hop' i zo);unfold maskAt;simpa using this
 exact⟨λj=>(ops[j]?).getD default,hop,λj hj=>h2 j _ (hop' j hj),λj hj=>zeC (chk j hj).1,λi j hi hj=>(zep (pr i j hi hj)).1,λi j hi hj=>(zep (pr i j hi hj)).2,h0⟩
theorem CodeOk.wk {c:Code} {x:Xt} {t':Tm} {s':St} (h:CodeOk P c t s x t' s') {K:Xt->Tm->St->Prop} (hk:K x t' s'):WK P n0 c t s K:=by
 intro m a w hf hd hok ha hn;refine h m a w _ hf hd hok (ha.fresh _) λa' w' ⟨m',hg,hf',hd'⟩=> ?_;obtain⟨hgk,ha'⟩:=hg.gk (n0:=n0) hn ha;exact⟨x,t',s',m',rfl,hk,hf',hd',hgk,ha',yBX hn hg.le⟩
theorem zrD (hmix:P.follows .mixedOrders=true) {ops:Array Oper} {K:Tm->St->Prop} {Q:Xt->Tm->St->Prop} (h:zrE P ops t s K) (hq:∀t' s',K t' s'->Q .normal t' s') (id:Nat):WK P n0 (.region id ops true) t s Q:=by
 unfold zrE at h;obtain⟨hd,h⟩:=h;obtain⟨ml,h,hm⟩:=zlb ops.toList (acc:=[]) (ms:=[]) ⟨rfl,λj i=>by rw[zdK];simp[zuc,zgC,nth,zd0]⟩ h;obtain⟨D,e1,e2,e3⟩:=zoh hm h;simp only[ylX,y0Z] at e2 e3;obtain⟨op,H⟩:=zsv hd e3 (by rw[e1]);exact((zfF hmix H e1).2 id).wk (hq _ _ (St.nfK_ok e2))
end
end Go.Ex
namespace Go.Ex
open Go
def VEq (x y:Value):Prop:=
 match x with
 | .int k a=>match y with| .int k' b=>k=k'/\a=b|_=>False
 | .bool a=>match y with| .bool b=>a=b|_=>False
 | .string ⟨⟨a⟩⟩=>match y with| .string ⟨⟨b⟩⟩=>a=b|_=>False
 |x=>x=y
theorem VEq.eq {x y:Value} (h:VEq x y):x=y:=by
 unfold VEq at h;split at h
 ·split at h
  ·obtain⟨rfl,rfl⟩:=h;rfl
  ·exact h.elim
 ·split at h
  ·rw[h]
  ·exact h.elim
 ·split at h
  ·rw[h]
  ·exact h.elim
 ·exact h
mutual
def Wz (h:T AO) (z:List Nat):AV->AV->Prop
 | .sc x,v=>match v with| .sc y=>VEq x y|_=>False
 | .any,_=>True
 | .agg l,v=>match v with| .agg l'=>Wzl h z l l'| .sc (.agg cs)=>Wzl h z l (cs.toList.map .sc)|_=>False
 | .tup l,v=>match v with| .tup l'=>Wzl h z l l'|_=>False
 | .lst sz n f,v=>match v with
  | .so b 0 n' 0=>n'=n/\b∈z/\Nat.blt 0 sz=true/\∃cs e q,h.get b=some (.row cs e q)/\n*sz<=cs.length/\∀i,i<n->(f i).length=sz/\Wzl h z (f i) ((cs.drop (i*sz)).take sz)
  | .sl b 0 n' c=>n'=n/\n<=c/\b∈z/\(Nat.blt 0 sz||(Nat.beq n 0&&Nat.beq c 0))=true/\∃cs e q,h.get b=some (.row cs e q)/\n*sz<=cs.length/\∀i,i<n->(f i).length=sz/\Wzl h z (f i) ((cs.drop (i*sz)).take sz)
  | .sc (.slice none 0 0)=>n=0
  | .lst sz' n' f'=>sz=sz'/\n=n'/\∀i,i<n->f i=f' i
  |_=>False
 | .fn f a c,v=>match v with| .fn f' a' c'=>f=f'/\Wzl h z a a'/\Wzl h z c c'|_=>False
 | .cp cs off,v=>match v with
  | .cp cs' off'=>cs=cs'/\off=off'
  | .ptr b o=>o=off/\b∈z/\∃cs0 e q,h.get b=some (.row cs0 e q)/\cs.length<=cs0.length/\Wzl h z cs (cs0.take cs.length)
  |_=>False
 |_,_=>False
def Wzl (h:T AO) (z:List Nat):List AV->List AV->Prop
 |[],l=>match l with|[]=>True|_=>False
 |x::l,ys=>match ys with|y::ys=>Wz h z x y/\Wzl h z l ys|[]=>False
end
mutual
def Wv (h:T AO) (z:List Nat) (r:Nat->Nat):AV->AV->Prop
 | .any,_=>True
 | .sc x,v=>match v with| .sc y=>VEq x y|_=>False
 | .ptr b o,v=>match v with| .ptr b' o'=>b'=r b/\o'=o|_=>False
 | .sl b o n c,v=>match v with| .sl b' o' n' c'=>b'=r b/\o'=o/\n'=n/\c'=c|_=>False
 | .so b o n s,v=>match v with| .so b' o' n' s'=>b'=r b/\o'=o/\n'=n/\s'=s|_=>False
 | .fn f a c,v=>match v with| .fn f' a' c'=>f=f'/\Wvl h z r a a'/\Wvl h z r c c'|_=>False
 | .agg l,v=>match v with| .agg l'=>Wvl h z r l l'| .sc (.agg cs)=>Wvl h z r l (cs.toList.map .sc)|_=>False
 | .tup l,v=>match v with| .tup l'=>Wvl h z r l l'|_=>False
 | .ifc t x,v=>match v with| .ifc t' x'=>t=t'/\Wv h z r x x'|_=>False
 | .lst sz n f,v=>Wz h z (.lst sz n f) v
 | .cp cs off,v=>v= .cp cs off
def Wvl (h:T AO) (z:List Nat) (r:Nat->Nat):List AV->List AV->Prop
 |[],l=>match l with|[]=>True|_=>False
 |x::l,ys=>match ys with|y::ys=>Wv h z r x y/\Wvl h z r l ys|[]=>False
end
def Weak (n0:Nat) (t:Tm) (s:St) (t1:Tm) (s1:St):Prop:=
 ∀m a w,Fit m t a->Ok m s.h.get w->Above m s.n->n0<=s.n->∃m1,Fit m1 t1 a/\Gk n0 s.h.get s1.h.get m m1 w w/\Above m1 s1.n/\n0<=s1.n
open Classical in
noncomputable def zdL (m:Mp) (F:AH) (z:List Nat) (w:World):Nat->Nat->Option Value:=λk i=>
 match m.z k i with
 |some v=>some v
 |none=>if ∃b o,b∈z/\F b=some o/\blk m b=some k then(match w.heap[k]? with|some (.cells cur _ _)=>cur[i]? |_=>none) else none
section
variable {m : Mp} {F : AH} {z : List Nat} {w : World} {h : T AO}
theorem zaW :Zle m.z (zdL m F z w):=λk i v hv=>by unfold zdL;rw[hv]
theorem zat {k i:Nat} {v:Value} (hv:zdL m F z w k i=some v):m.z k i=some v∨((∃b o,b∈z/\F b=some o/\blk m b=some k)/\∃cur e fr,w.heap[k]? =some (.cells cur e fr)/\cur[i]? =some v):=by
 unfold zdL at hv;split at hv
 ·rename_i v' hz;cases hv;exact .inl hz
 ·split at hv
  ·rename_i hb;split at hv
   ·rename_i cur e fr hw;exact .inr ⟨hb,cur,e,fr,hw,hv⟩
   ·cases hv
  ·cases hv
theorem zkJ (hok:Ok m F w) {b k o cap:Nat} {c:List AV} {e:TypeId} {q:Nat} (hb:b∈z) (hF:F b=some (.row c e q)):∃k o cap vs,m b=some (k,o,cap)/\Rl m c vs/\∀j v,vs[j]? =some v->zdL m F z w k (o+j)=some v:=by
 obtain⟨k,o,cap,cur,fr,pre,vs,post,h1,h2,h3,h4,h5,h6,h7⟩:=hok.has b _ hF;refine⟨k,o,cap,vs,h1,h6,λj v hv=> ?_⟩
 have hcell:cur[o+j]? =some v:=by
  rw[←Array.getElem?_toList,h4,yuX zo,←h5,yLX,yIX]
  ·exact hv
  ·exact(y7X.1 hv).1
 unfold zdL
 cases hz:m.z k (o+j) with
 |some v'=>
  exact absurd (by simp[blk,h1]) ((hok.fz k _ v' hz).2 b _ hF)
 |none=>
  simp only;rw[ygX ⟨b,_,hb,hF,by simp[blk,h1]⟩,h2];exact hcell
mutual
theorem zsf (hok:Ok m h.get w):∀(v1:AV) {v:AV} {x:Value},Wz h z v1 v->R1 m v x->Rz (zdL m h.get z w) v1 x
 | .sc x',v,x,hw,hr=>by
  unfold Wz at hw;split at hw
  ·rw[hw.eq];exact hr
  ·exact hw.elim
 | .any,_,_,_,_=>trivial
 | .agg l,v,x,hw,hr=>by
  unfold Wz at hw;split at hw
  ·obtain⟨l',hl,e⟩:=hr;exact⟨l',zee hok l hw hl,e⟩
  ·rename_i cs;cases hr;exact⟨cs.toList,zee hok l hw (Rl.sc _),by simp⟩
  ·exact hw.elim
 | .tup l,v,x,hw,hr=>by
  unfold Wz at hw;split at hw
  ·obtain⟨l',hl,e⟩:=hr;exact⟨l',zee hok l hw hl,e⟩
  ·exact hw.elim
 | .lst sz n f,v,x,hw,hr=>by
  unfold Wz at hw
  have key:∀{b cap:Nat} {A:Option Addr},b∈z->(Nat.blt 0 sz||(Nat.beq n 0&&Nat.beq cap 0))=true->(∃k o c,m b=some (k,o,c)/\x= .slice (some ⟨k,o+0,none⟩) n cap)->n<=cap->(∃cs e q,h.get b=some (.row cs e q)/\n*sz<=cs.length/\∀i,i<n->(f i).length=sz/\Wzl h z (f i) ((cs.drop (i*sz)).take sz))->Rz (zdL m h.get z w) (.lst sz n f) x:=by
   rintro b cap A hb hsz ⟨k,o,c,hm,rfl⟩ hcap ⟨cs,e,q,hcs,hlen,hf⟩;obtain⟨k',o',cap',vs,hm',hR,hz⟩:=zkJ (k:=k) (o:=o) (cap:=cap) hok hb hcs;rw[hm] at hm';cases hm';refine⟨_,cap,rfl,hcap,λe=> ?_,λi hi=> ?_⟩
   ·rcases e with e|e
    ·cases e
    ·subst e;simpa using hsz
   obtain⟨h1,h2⟩:=hf i hi;have hR':Rl m ((cs.drop (i*sz)).take sz) ((vs.drop (i*sz)).take sz):=(hR.drop _).take _;have hlv:=hR.length;have hle:(i+1)*sz<=n*sz:=yEX _ hi;rw[yZX,yuZ] at hle;refine⟨k,o,(vs.drop (i*sz)).take sz,rfl,zee hok (f i) h2 hR',by simp;omega,λj v hv=> ?_⟩;rw[yNX] at hv;split at hv
   ·rw[y8X] at hv;rw[yrY];exact hz _ _ hv
   ·cases hv
  split at hw
  ·obtain⟨rfl,hb,hsz,hrow⟩:=hw;obtain⟨k,o,c,hm,hc,e⟩:=hr;exact key (A:=none) hb (by rw[hsz];rfl) ⟨k,o,c,hm,e⟩ zo hrow
  ·obtain⟨rfl,hc,hb,hsz,hrow⟩:=hw;obtain⟨k,o,c,hm,e⟩:=hr;exact key (A:=none) hb hsz ⟨k,o,c,hm,e⟩ hc hrow
  ·subst hw;cases hr;exact⟨none,0,rfl,yhX _,λ_=>⟨rfl,rfl⟩,λi hi=>absurd hi (ypX _)⟩
  ·obtain⟨rfl,rfl,hf⟩:=hw;obtain⟨A,cap,e,h1,h2,h3⟩:=hr;refine⟨A,cap,e,h1,h2,λi hi=> ?_⟩;obtain⟨k,o,vs,h4,h5,h6,h7⟩:=h3 i hi;rw[hf i hi];exact⟨k,o,vs,h4,Rzl.mono zaW _ _ h5,h6,λj v hv=>zaW _ _ _ (h7 j v hv)⟩
  ·exact hw.elim
 | .cp cs off,v,x,hw,hr=>by
  unfold Wz at hw;split at hw
  ·obtain⟨rfl,rfl⟩:=hw;exact Rz.mono zaW _ _ hr
  ·obtain⟨rfl,hb,cs0,e,q,hcs,hlen,hw⟩:=hw;obtain⟨k,o,c,hm,rfl⟩:=hr;obtain⟨k',o',cap',vs,hm',hR,hz⟩:=zkJ (k:=k) (o:=o) (cap:=0) hok hb hcs;rw[hm] at hm';cases hm';refine⟨k,o,vs.take cs.length,rfl,zee hok cs hw (hR.take _),λj v hv=> ?_⟩;rw[yNX] at hv;split at hv
   ·exact hz _ _ hv
   ·cases hv
  ·exact hw.elim
 | .ptr _ _,_,_,hw,_=>by unfold Wz at hw;exact hw.elim
 | .sl _ _ _ _,_,_,hw,_=>by unfold Wz at hw;exact hw.elim
 | .so _ _ _ _,_,_,hw,_=>by unfold Wz at hw;exact hw.elim
 | .fn f a c,v,x,hw,hr=>by
  unfold Wz at hw;split at hw
  ·obtain⟨rfl,h1,h2⟩:=hw;obtain⟨a',b',ha,hb,e⟩:=hr;exact⟨a',b',zee hok a h1 ha,zee hok c h2 hb,e⟩
  ·exact hw.elim
 | .ifc _ _,_,_,hw,_=>by unfold Wz at hw;exact hw.elim
theorem zee (hok:Ok m h.get w):∀(l1:List AV) {l:List AV} {xs:List Value},Wzl h z l1 l->Rl m l xs->Rzl (zdL m h.get z w) l1 xs
 |[],l,xs,hw,hr=>by
  unfold Wzl at hw;split at hw
  ·exact hr
  ·exact hw.elim
 |v1::l1,l,xs,hw,hr=>by
  unfold Wzl at hw;split at hw
  ·obtain⟨y,ys,e,h1,h2⟩:=hr;exact⟨y,ys,e,zsf hok v1 hw.1 h1,zee hok l1 hw.2 h2⟩
  ·exact hw.elim
end
end
end Go.Ex
namespace Go.Ex
open Go
def zp7 {α:Type}:Nat->T α->List α->T α
 |_,t,[]=>t
 |i,t,v::l=>zp7 (Nat.succ i) (t.put i (some v)) l
theorem zjh {α:Type}:∀(l:List α) (i:Nat) (t:T α) (j:Nat),(zp7 i t l).get j=if i<=j then(match l[j-i]? with|some v=>some v|none=>t.get j) else t.get j
 |[],i,t,j=>by simp[zp7]
 |v::l,i,t,j=>by
  show(zp7 (i+1) (t.put i (some v)) l).get j=_;rw[zjh l (i+1) (t.put i (some v)) j,ydY];by_cases h:i<=j
  ·rw[ygX h];by_cases e:j=i
   ·subst e;rw[yfX zo,ygX rfl];simp
   ·rw[ygX zo,yfX e,show j-i=(j-(i+1))+1 by omega];simp
  ·rw[yfX h,yfX zo,yfX zo]
def zan (rows:List AO):St:=⟨zp7 0 .e rows,rows.length⟩
theorem zaL (rows:List AO) (b:Nat):(zan rows).h.get b=rows[b]? :=by
 show(zp7 0 .e rows).get b=_;rw[zjh,ygX (ymX _),Nat.sub_zero];cases rows[b]? <;>rfl
def zcU :List (Nat×AV)->T AV
 |[]=> .e
 |p::l=>(zcU l).put p.1 (some p.2)
def zag (l:List (Nat×AV)) (n:Nat):Tm:=⟨zcU l,n⟩
def cont :AV->Bool
 | .sc _| .lst _ _ _| .cp _ _| .any=>true
 | .agg l=>contL l
 | .fn _ a b=>match contL a with|true=>contL b|false=>false
 |_=>false
where contL:List AV->Bool
 |[]=>true
 |x::l=>match cont x with|true=>contL l|false=>false
def rn (r:List Nat) (b:Nat):Nat:=match nth r b with|some b0=>b0|none=>0
def named (k:Nat):AV->Bool
 | .ptr b _| .sl b _ _ _| .so b _ _ _=>Nat.blt b k
 | .fn _ a b=>match nameds k a with|true=>nameds k b|false=>false
 | .agg l=>nameds k l
 | .tup l=>nameds k l
 | .ifc _ v=>named k v
 |_=>true
where nameds (k:Nat):List AV->Bool
 |[]=>true
 |x::l=>match named k x with|true=>nameds k l|false=>false
def WRow (h:T AO) (z r:List Nat) (c1 c:List AV):Prop:=(named.nameds r.length c1=true/\Wvl h z (rn r) c1 c)∨(c1=c/\cont.contL c=true)
def WO (h:T AO) (z r:List Nat) (o1 o:AO):Prop:=
 match o1 with
 | .row c1 e1 q1=>match o with| .row c e q=>e1=e/\q1=q/\WRow h z r c1 c|_=>False
 | .iter s p=>match o with| .iter s' p'=>s=s'/\p=p'|_=>False
def zgA (h:T AO) (z r0:List Nat):List AO->List Nat->Prop
 |[],r=>match r with|[]=>True|_=>False
 |o1::l,r=>match r with
  |b0::r=>match h.get b0 with|some o=>WO h z r0 o1 o/\zgA h z r0 l r|none=>False
  |[]=>False
def zkQ (h:T AO) (z r:List Nat) (t:Tm):List (Nat×AV)->Prop
 |[]=>True
 |p::l=>(match named r.length p.2 with|true=>Wv h z (rn r) p.2 (t.get p.1)|false=>False)/\zkQ h z r t l
def zwr (a:Nat):List Nat->Bool
 |[]=>false
 |b::l=>match Nat.beq a b with|true=>true|false=>zwr a l
def zck (z:List Nat):List Nat->Bool
 |[]=>true
 |a::l=>match zwr a l with|true=>false|false=>match zwr a z with|true=>false|false=>zck z l
def zsq :Nat->Nat->List Nat->Bool
 |_,0,_=>true
 |i,n+1,b::r=>match Nat.beq b i with|true=>zsq (Nat.succ i) n r|false=>false
 |_,_+1,[]=>false
section
variable {m m1 : Mp} {F : AH} {w : World} {h : T AO} {z r : List Nat}
theorem hasN_iff {a:Nat}:∀{l:List Nat},zwr a l=true↔a∈l
 |[]=>by simp[zwr]
 |b::l=>by
  unfold zwr;rw[yAX];split
  ·rename_i hb;simp[yjX hb]
  ·rename_i hb;rw[hasN_iff];constructor
   ·exact .inr
   ·rintro(rfl|h)
    ·rw[ylY] at hb;cases hb
    ·exact h
theorem zcR :∀{r:List Nat},zck z r=true->(∀(i j a:Nat),r[i]? =some a->r[j]? =some a->i=j)/\∀a∈r,a∉z
 |[],_=>⟨λi j a h=>by simp at h,λa h=>by simp at h⟩
 |a::r,h=>by
  unfold zck at h;split at h
  ·cases h
  ·rename_i h1;split at h
   ·cases h
   ·rename_i h2
    have h1':a∉r:=λhm=>by rw[hasN_iff.2 hm] at h1;cases h1
    have h2':a∉z:=λhm=>by rw[hasN_iff.2 hm] at h2;cases h2
    obtain⟨h3,h4⟩:=zcR h;refine⟨λi j b hi hj=> ?_,λb hb=> ?_⟩
    ·cases i with
     |zero=>
      cases j with
      |zero=>rfl
      |succ j=>
       simp at hi hj;subst hi;exact absurd (yHX hj) h1'
     |succ i=>
      cases j with
      |zero=>
       simp at hi hj;subst hj;exact absurd (yHX hi) h1'
      |succ j=>
       simp at hi hj;rw[h3 i j b hi hj]
    ·rcases yAX.1 hb with rfl|hb
     ·exact h2'
     ·exact h4 b hb
theorem zjO :∀{n i:Nat} {r:List Nat},zsq i n r=true->∀b,b<n->r[b]? =some (i+b)
 |0,_,_,_,b,hb=>zo
 |n+1,i,[],h,_,_=>by cases h
 |n+1,i,a::r,h,b,hb=>by
  unfold zsq at h;split at h
  ·rename_i ha;have ha:=yjX ha
   cases b with
   |zero=>simp[ha]
   |succ b=>
    have:=zjO h b zo;simp only[List.getElem?_cons_succ,this]
    congr 1
    omega
  ·cases h
mutual
theorem zv1 :∀{v:AV} {x:Value},cont v=true->R1 m v x->Zle m.z m1.z->R1 m1 v x
 | .sc _,_,_,h,_=>h
 | .lst _ _ _,_,_,h,hz=>Rz.mono hz _ _ h
 | .cp _ _,_,_,h,hz=>Rz.mono hz _ _ h
 | .agg l,_,hc,⟨l',hl,e⟩,hz=>⟨l',zbX hc hl hz,e⟩
 | .ptr _ _,_,hc,_,_=>by cases hc
 | .sl _ _ _ _,_,hc,_,_=>by cases hc
 | .so _ _ _ _,_,hc,_,_=>by cases hc
 | .fn _ a b,_,hc,⟨a',b',ha,hb,e⟩,hz=>by
  unfold cont at hc;split at hc
  ·rename_i h1;exact⟨a',b',zbX h1 ha hz,zbX hc hb hz,e⟩
  ·cases hc
 | .tup _,_,hc,_,_=>by cases hc
 | .ifc _ _,_,hc,_,_=>by cases hc
 | .any,_,_,_,_=>trivial
theorem zbX :∀{l:List AV} {xs:List Value},cont.contL l=true->Rl m l xs->Zle m.z m1.z->Rl m1 l xs
 |[],_,_,h,_=>h
 |x::l,_,hc,⟨y,ys,e,h1,h2⟩,hz=>by
  unfold cont.contL at hc;split at hc
  ·rename_i hx;exact⟨y,ys,e,zv1 hx h1 hz,zbX hc h2 hz⟩
  ·cases hc
end
noncomputable def znN (m:Mp) (F:AH) (z r:List Nat) (w:World):Mp:=⟨λb=>match nth r b with|some b0=>m b0|none=>none,zdL m F z w⟩
theorem zjM {b:Nat} (hb:b<r.length):znN m F z r w b=m (rn r b):=by
 show(match nth r b with|some b0=>m b0|none=>none)=m (rn r b);unfold rn;rw[zbc,ysX hb]
mutual
theorem zwh (hok:Ok m h.get w):∀(v1:AV) {v:AV} {x:Value},named r.length v1=true->Wv h z (rn r) v1 v->R1 m v x->R1 (znN m h.get z r w) v1 x
 | .any,_,_,_,_,_=>trivial
 | .sc _,v,x,_,hw,hr=>by
  unfold Wv at hw;split at hw
  ·rw[hw.eq];exact hr
  ·exact hw.elim
 | .ptr b o,v,x,hn,hw,hr=>by
  unfold Wv at hw;split at hw
  ·obtain⟨rfl,rfl⟩:=hw;obtain⟨k,o',c,hm,e⟩:=hr;exact⟨k,o',c,(zjM (zby hn)).trans hm,e⟩
  ·exact hw.elim
 | .sl b o n c,v,x,hn,hw,hr=>by
  unfold Wv at hw;split at hw
  ·obtain⟨rfl,rfl,rfl,rfl⟩:=hw;obtain⟨k,o',c',hm,e⟩:=hr;exact⟨k,o',c',(zjM (zby hn)).trans hm,e⟩
  ·exact hw.elim
 | .so b o n s,v,x,hn,hw,hr=>by
  unfold Wv at hw;split at hw
  ·obtain⟨rfl,rfl,rfl,rfl⟩:=hw;obtain⟨k,o',c',hm,hc,e⟩:=hr;exact⟨k,o',c',(zjM (zby hn)).trans hm,hc,e⟩
  ·exact hw.elim
 | .fn f a c,v,x,hn,hw,hr=>by
  unfold Wv at hw;unfold named at hn;split at hw
  ·obtain⟨rfl,h1,h2⟩:=hw;obtain⟨a',b',ha,hb,e⟩:=hr;split at hn
   ·rename_i hna;exact⟨a',b',zfL hok a hna h1 ha,zfL hok c hn h2 hb,e⟩
   ·cases hn
  ·exact hw.elim
 | .agg l,v,x,hn,hw,hr=>by
  unfold Wv at hw;split at hw
  ·obtain⟨l',hl,e⟩:=hr;exact⟨l',zfL hok l hn hw hl,e⟩
  ·rename_i cs;cases hr;exact⟨cs.toList,zfL hok l hn hw (Rl.sc _),by simp⟩
  ·exact hw.elim
 | .tup l,v,x,hn,hw,hr=>by
  unfold Wv at hw;split at hw
  ·obtain⟨l',hl,e⟩:=hr;exact⟨l',zfL hok l hn hw hl,e⟩
  ·exact hw.elim
 | .ifc t x1,v,x,hn,hw,hr=>by
  unfold Wv at hw;split at hw
  ·obtain⟨rfl,hw⟩:=hw;obtain⟨v',hv,e⟩:=hr;exact⟨v',zwh hok x1 hn hw hv,e⟩
  ·exact hw.elim
 | .lst sz n f,v,x,_,hw,hr=>by
  unfold Wv at hw;exact zsf hok (.lst sz n f) hw hr
 | .cp cs off,v,x,_,hw,hr=>by
  unfold Wv at hw;subst hw;exact Rz.mono zaW _ _ hr
theorem zfL (hok:Ok m h.get w):∀(l1:List AV) {l:List AV} {xs:List Value},named.nameds r.length l1=true->Wvl h z (rn r) l1 l->Rl m l xs->Rl (znN m h.get z r w) l1 xs
 |[],l,xs,_,hw,hr=>by
  unfold Wvl at hw;split at hw
  ·exact hr
  ·exact hw.elim
 |v1::l1,l,xs,hn,hw,hr=>by
  unfold Wvl at hw;unfold named.nameds at hn;split at hw
  ·obtain⟨y,ys,e,h1,h2⟩:=hr;split at hn
   ·rename_i hv;exact⟨y,ys,e,zwh hok v1 hv hw.1 h1,zfL hok l1 hn hw.2 h2⟩
   ·cases hn
  ·exact hw.elim
end
theorem zfc {r0:List Nat}:∀{rows:List AO} {r:List Nat},zgA h z r0 rows r->rows.length=r.length/\∀(b:Nat) (o1:AO),rows[b]? =some o1->∃b0 o,r[b]? =some b0/\h.get b0=some o/\WO h z r0 o1 o
 |[],r,hw=>by
  unfold zgA at hw;split at hw
  ·exact⟨rfl,λb o1 hb=>by simp at hb⟩
  ·exact hw.elim
 |o1::l,r,hw=>by
  unfold zgA at hw;split at hw
  ·split at hw
   ·rename_i ho;obtain⟨h1,h2⟩:=hw;obtain⟨h3,h4⟩:=zfc h2;refine⟨by simp[h3],λb o' hb=> ?_⟩
    cases b with
    |zero=>simp at hb;subst hb;exact⟨_,_,rfl,ho,h1⟩
    |succ b=>simpa using h4 b o' (by simpa using hb)
   ·exact hw.elim
  ·exact hw.elim
theorem zip {t:Tm} {v1:AV} {i:Nat}:∀{l:List (Nat×AV)},zkQ h z r t l->(zcU l).get i=some v1->named r.length v1=true/\Wv h z (rn r) v1 (t.get i)
 |[],_,hv=>by cases hv
 |p::l,hw,hv=>by
  have hv':((zcU l).put p.1 (some p.2)).get i=some v1:=hv;rw[ydY] at hv';obtain⟨h1,h2⟩:=hw;split at hv'
  ·rename_i e;cases hv';subst e;split at h1
   ·rename_i hn;exact⟨hn,h1⟩
   ·exact h1.elim
  ·exact zip h2 hv'
theorem Weak.of {n0:Nat} {t:Tm} {s:St} (r z:List Nat) {sl:List (Nat×AV)} {n:Nat} {rows:List AO} (hn:t.n=n) (hr:(match zck z r with|true=>zsq 0 n0 r|false=>false)=true) (hrows:zgA s.h z r rows r) (hsl:zkQ s.h z r t sl):Weak n0 t s (zag sl n) (zan rows):=by
 intro m a w hf hok ha hn0;split at hr
 ·rename_i hap;obtain⟨hinj,hz⟩:=zcR hap;have hlow:=zjO hr;obtain⟨hlen,hget⟩:=zfc hrows
  have hblk:∀b b0,r[b]? =some b0->blk (znN m s.h.get z r w) b=blk m b0:=λb b0 hb=>by
   show Option.map (λx:Nat×Nat×Nat=>x.1) (match nth r b with|some b0=>m b0|none=>none)=_;rw[zbc,hb];rfl
  have hmget:∀b b0,r[b]? =some b0->znN m s.h.get z r w b=m b0:=λb b0 hb=>by
   show(match nth r b with|some b0=>m b0|none=>none)=_;rw[zbc,hb]
  refine⟨znN m s.h.get z r w,⟨hn▸hf.n,λi=> ?_⟩,⟨⟨λb o hb=> ?_,λb b' o o' hb hb' hne=> ?_,λk i v hv=> ?_,hok.tbsub λb o hb=> ?_⟩,⟨rfl,rfl,rfl,yhX _,λ_ _ _=>rfl⟩,λb o hb=> ?_,zaW,λk i v hv=> ?_,λb hb=> ?_⟩,λb hb=> ?_,?_⟩
  ·show R1 _ (match(zcU sl).get i with|some v=>v|none=> .any) _
   cases hv:(zcU sl).get i with
   |none=>trivial
   |some v1=>
    obtain⟨h1,h2⟩:=zip hsl hv;exact zwh hok v1 h1 h2 (hf.r i)
  ·rw[zaL] at hb;obtain⟨b0,o0,h1,h2,h3⟩:=hget b o hb;have hR:=hok.has b0 o0 h2;unfold WO at h3;split at h3
   ·split at h3
    ·obtain⟨rfl,rfl,h3⟩:=h3;obtain⟨k,o,cap,cur,fr,pre,vs,post,q1,q2,q3,q4,q5,q6,q7⟩:=hR;refine⟨k,o,cap,cur,fr,pre,vs,post,(hmget b b0 h1).trans q1,q2,q3,q4,q5,?_,q7⟩
     rcases h3 with⟨h4,h5⟩|⟨rfl,h4⟩
     ·exact zfL hok _ h4 h5 q6
     ·exact zbX h4 q6 zaW
    ·exact h3.elim
   ·split at h3
    ·obtain⟨rfl,rfl⟩:=h3;obtain⟨k,q1,q2⟩:=hR;exact⟨k,(hmget b b0 h1).trans q1,q2⟩
    ·exact h3.elim
  ·rw[zaL] at hb hb';obtain⟨b0,o0,h1,h2,_⟩:=hget b o hb;obtain⟨b0',o0',h1',h2',_⟩:=hget b' o' hb';rw[hblk b b0 h1,hblk b' b0' h1'];refine hok.apart b0 b0' o0 o0' h2 h2' λe=>hne ?_;subst e;exact hinj b b' b0 h1 h1'
  ·refine⟨?_,λb o hb=> ?_⟩
   ·rcases zat hv with h1|⟨_,h1⟩
    ·exact(hok.fz k i v h1).1
    ·exact h1
   ·rw[zaL] at hb;obtain⟨b0,o0,h1,h2,_⟩:=hget b o hb;rw[hblk b b0 h1]
    rcases zat hv with h3|⟨⟨b1,o1,h3,h4,h5⟩,_⟩
    ·exact(hok.fz k i v h3).2 b0 o0 h2
    ·intro e
     have hne:b1≠b0:=λe1=>by
      subst e1;exact hz b1 (yHX h1) h3
     exact hok.apart b1 b0 o1 o0 h4 h2 hne (h5.trans e.symm)
  ·rw[zaL] at hb;obtain⟨b0,o0,h1,h2,_⟩:=hget b o hb;exact⟨b0,o0,h2,hblk b b0 h1⟩
  ·rw[zaL] at hb;obtain⟨b0,o0,h1,h2,_⟩:=hget b o hb;exact .inl ⟨b0,o0,h2,hblk b b0 h1⟩
  ·rcases zat hv with h1|⟨⟨b1,o1,h3,h4,h5⟩,_⟩
   ·exact .inl h1
   ·exact .inr (.inl ⟨b1,o1,h4,h5⟩)
  ·have:=hlow b hb;rw[ylX] at this;exact hmget b b this
  ·show(match nth r b with|some b0=>m b0|none=>none)=none;rw[zbc,yyX (by have:rows.length<=b:=hb;omega)]
  ·show n0<=rows.length;rw[hlen]
   cases yeY r.length n0 with
   |inl hlt=>
    have:=hlow r.length hlt;simp at this
   |inr h=>exact h
 ·cases hr
theorem wO {n0:Nat} {t:Tm} {s:St} (r z:List Nat) {sl:List (Nat×AV)} {n:Nat} {rows:List AO} (hrows:zgA s.h z r rows r:=by((repeat' first|exact zT|refine zA ?_ ?_)<;>(conv=>whnf)<;>(repeat' first|exact zT|exact rfl|refine zA ?_ ?_)<;>(first|rfl|(intro _ _;rfl)|omega|(first|exact Or.inr ⟨rfl,rfl⟩|exact Or.inr ⟨rfl,yyY (λ_=>rfl) _⟩|(refine Or.inl ⟨rfl,?_⟩;(conv=>whnf);(repeat' first|exact zT|exact rfl|refine zA ?_ ?_)<;>(try(conv=>whnf))<;>(repeat' first|exact zT|exact rfl|refine zA ?_ ?_)<;>(first|rfl|(intro _ _;rfl)|omega)))))) (hsl:zkQ s.h z r t sl:=by((repeat' first|exact zT|refine zA ?_ ?_)<;>(conv=>whnf)<;>(repeat' first|exact zT|exact rfl|refine zA ?_ ?_)<;>(first|rfl|(intro _ _;rfl)|omega|(first|exact Or.inr ⟨rfl,rfl⟩|exact Or.inr ⟨rfl,yyY (λ_=>rfl) _⟩|(refine Or.inl ⟨rfl,?_⟩;(conv=>whnf);(repeat' first|exact zT|exact rfl|refine zA ?_ ?_)<;>(try(conv=>whnf))<;>(repeat' first|exact zT|exact rfl|refine zA ?_ ?_)<;>(first|rfl|(intro _ _;rfl)|omega)))))) (hn:t.n=n:=by rfl)
  (hr:(match zck z r with|true=>zsq 0 n0 r|false=>false)=true:=by rfl):Weak n0 t s (zag sl n) (zan rows):=Weak.of r z hn hr hrows hsl
end
end Go.Ex
namespace Go.Ex
open Go
structure WLoop (P:Program) (n0:Nat) (c:Code) (t:Tm) (s:St) (K:Xt->Tm->St->Prop):Prop where
 h:WK P n0 (.loop c) t s K
def zp8 (K2:Tm->St->Prop) (K:Xt->Tm->St->Prop) (x:Xt) (t:Tm) (s:St):Prop:=
 match x with
 | .normal=>K2 t s
 | .exit i=>K (.exit i) t s
 | .ret=>K .ret t s
def zlJ (id:Nat) (K:Xt->Tm->St->Prop) (x:Xt) (t:Tm) (s:St):Prop:=
 match x with
 | .exit i=>match Nat.beq i id with|true=>K .normal t s|false=>K (.exit i) t s
 | .normal=>K .normal t s
 | .ret=>K .ret t s
def zv2 (v:AV) (a b:Prop):Prop:=
 match v with
 | .sc (.bool k)=>KIf k a b
 |_=>False
noncomputable def zyP (P:Program) (ops:Array Oper) (draw:Bool) (t:Tm) (s:St) (K:Tm->St->Prop):Prop:=
 match draw with
 |false=>zyk P ops.toList ops.toList t s K
 |true=>zrE P ops t s K
noncomputable def zfG (P:Program) (n0:Nat) (c:Code):Tm->St->(Xt->Tm->St->Prop)->Prop:=
 Code.rec (motive:=λ_=>Tm->St->(Xt->Tm->St->Prop)->Prop)
  (λt s K=>K .normal t s)
  (λ_ ops draw t s K=>zyP P ops draw t s λt s=>K .normal t s)
  (λ_ _ iha ihb t s K=>iha t s (zp8 (λt s=>ihb t s K) K))
  (λx _ _ iha ihb t s K=>zv2 (ev t x) (iha t s K) (ihb t s K))
  (λid _ iha t s K=>iha t s (zlJ id K))
  (λa _ t s K=>WLoop P n0 a t s K)
  (λ_ _ _ _ _ _ _ _ _=>False)
  (λid t s K=>K (.exit id) t s)
  (λ_ _ _ _ _=>False)
  (λ_ t s K=>K .normal t s)
  (λ_ _ _ _=>False)
  (λt s K=>K .ret t s)
  (λ_ _ _ _=>False) c
section
variable {P : Program} {n0 : Nat}
theorem WK.here {c:Code} {t:Tm} {s:St} {x:Xt} {K:Xt->Tm->St->Prop} (hk:K x t s) (hc:∀(Q:Exit->Act->World->Prop) a w,Q (xtE x) a w->c.wp P Q a w):WK P n0 c t s K:=λm a w hf hd hok ha hn=>hc _ _ _ ⟨x,t,s,m,rfl,hk,hf,hd,Gk.refl hok,ha,hn⟩
theorem zbJ (hmix:P.follows .mixedOrders=true):∀(c:Code) {t:Tm} {s:St} {K:Xt->Tm->St->Prop},zfG P n0 c t s K->WK P n0 c t s K
 | .skip,t,s,K,h=> .here (x:= .normal) h λ_ _ _ h=>wp_skip h
 | .label _,t,s,K,h=> .here (x:= .normal) h λ_ _ _ h=>wp_label h
 | .exit _,t,s,K,h=> .here (x:= .exit _) h λ_ _ _ h=>wp_exit h
 | .ret,t,s,K,h=> .here (x:= .ret) h λ_ _ _ h=>wp_ret h
 | .region id ops draw,t,s,K,h=>by
  have h:zyP P ops draw t s λt s=>K .normal t s:=h
  cases draw with
  |false=>
   intro m a w hf hd hok ha hn;refine wp_region_list (zjC (n0:=n0) ops _ ops.toList t s _ h m a w hf hd hok ha hn ?_);rintro a' w' ⟨t',s',m',h1,h2⟩;exact⟨.normal,t',s',m',rfl,h1,h2⟩
  |true=>exact zrD hmix h (λ_ _ h=>h) id
 | .seq a b,t,s,K,h=>by
  have h:zfG P n0 a t s (zp8 (λt s=>zfG P n0 b t s K) K):=h;intro m ac w hf hd hok ha hn;refine wp_seq (wp_mono (zbJ hmix a h m ac w hf hd hok ha hn) ?_);rintro e a' w' ⟨x,t',s',m',rfl,hk,hf',hd',hg,ha',hn'⟩
  cases x with
  |normal=>
   refine wp_mono (zbJ hmix b hk m' a' w' hf' hd' hg.ok ha' hn') λe a2 w2 h2=> ?_;exact h2.trans hg
  |exit i=>exact⟨.exit i,t',s',m',rfl,hk,hf',hd',hg,ha',hn'⟩
  |ret=>exact⟨.ret,t',s',m',rfl,hk,hf',hd',hg,ha',hn'⟩
 | .cond x a b,t,s,K,h=>by
  have h:zv2 (ev t x) (zfG P n0 a t s K) (zfG P n0 b t s K):=h;unfold zv2 at h;split at h
  ·rename_i k hx;intro m ac w hf hd hok ha hn;have hv:=hf.ev x;rw[hx] at hv;cases k
   ·exact wp_cond_false hv (zbJ hmix b h.ff m ac w hf hd hok ha hn)
   ·exact wp_cond_true hv (zbJ hmix a h.tt m ac w hf hd hok ha hn)
  ·exact h.elim
 | .block id b,t,s,K,h=>by
  have h:zfG P n0 b t s (zlJ id K):=h;intro m ac w hf hd hok ha hn;refine wp_block (wp_mono (zbJ hmix b h m ac w hf hd hok ha hn) ?_);rintro e a' w' ⟨x,t',s',m',rfl,hk,hrest⟩
  cases x with
  |normal=>exact⟨.normal,t',s',m',rfl,hk,hrest⟩
  |ret=>exact⟨.ret,t',s',m',rfl,hk,hrest⟩
  |exit i=>
   show(if i=id then _ else _);split
   ·rename_i e;subst e;have hk':(match Nat.beq i i with|true=>K .normal t' s'|false=>K (.exit i) t' s'):=hk;rw[ylY] at hk';exact⟨.normal,t',s',m',rfl,hk',hrest⟩
   ·rename_i e;have hk':(match Nat.beq i id with|true=>K .normal t' s'|false=>K (.exit i) t' s'):=hk
    have hb:Nat.beq i id=false:=by
     cases hb:Nat.beq i id with
     |false=>rfl
     |true=>exact absurd (yjX hb) e
    rw[hb] at hk';exact⟨.exit i,t',s',m',rfl,hk',hrest⟩
 | .loop a,t,s,K,h=>(h:WLoop P n0 a t s K).h
 | .rangeFunc _ _ _ _,_,_,_,h=>(h:False).elim
 | .scope _,_,_,_,h=>(h:False).elim
 | .goto _,_,_,_,h=>(h:False).elim
 | .refuse _,_,_,_,h=>(h:False).elim
def zxV {D:Type} (n0:Nat) (meas:D->Nat) (ok:D->Prop) (tD:D->Tm) (sD:D->St) (d:D) (K:Xt->Tm->St->Prop) (x:Xt) (t:Tm) (s:St):Prop:=
 match x with
 | .normal=>∃d',ok d'/\meas d'<meas d/\Weak n0 t s (tD d') (sD d')
 | .exit i=>K (.exit i) t s
 | .ret=>K .ret t s
def startK (t:Tm) (s:St) (K:Tm->St->Prop):Prop:=match t with|⟨t,n⟩=>Nat.forceK n λn=>T.nfAK t λt=>s.nfK λs=>K ⟨t,n⟩ s
where T.nfAK:T AV->(T AV->Prop)->Prop
 | .e,K=>K .e
 | .n l v r,K=>T.nfAK l λl=>match v with
  |none=>T.nfAK r λr=>K (.n l none r)
  |some v=>v.forceK λv=>T.nfAK r λr=>K (.n l (some v) r)
 | .f a b g t,K=>T.nfAK t λt=>K (.f a b g t)
theorem zhE :∀(t:T AV) (K:T AV->Prop),startK.T.nfAK t K->K t
 | .e,K,h=>h
 | .n l v r,K,h=>by
  have h1:=zhE l _ h
  cases v with
  |none=>exact zhE r _ h1
  |some o=>exact zhE r _ (AV.forceK_ok h1)
 | .f a b g t,K,h=>zhE t (λt=>K (.f a b g t)) h
theorem zcI {t:Tm} {s:St} {K:Tm->St->Prop} (h:startK t s K):K t s:=by
 obtain⟨t,n⟩:=t;exact St.nfK_ok (K:=λs=>K ⟨t,n⟩ s) (zhE t _ (Nat.forceK_ok (K:=λn=>startK.T.nfAK t λt=>s.nfK λs=>K ⟨t,n⟩ s) h))
theorem WLoop.inv (hmix:P.follows .mixedOrders=true) {c:Code} {t:Tm} {s:St} {K:Xt->Tm->St->Prop} {D:Type} (meas:D->Nat) (ok:D->Prop) (tD:D->Tm) (sD:D->St) (d0:D) (h0:ok d0) (hw:Weak n0 t s (tD d0) (sD d0))
  (hr:∀d,ok d->startK (tD d) (sD d) λt s=>zfG P n0 c t s (zxV n0 meas ok tD sD d K)):WLoop P n0 c t s K:=by
 have key:∀k d,meas d<=k->ok d->∀m a w,Fit m (tD d) a->a.defers=[]->Ok m (sD d).h.get w->Above m (sD d).n->n0<=(sD d).n->LpN P c (After n0 m w (sD d) K) (k+1) a w:=by
  intro k
  induction k with
  |zero=>
   intro d hm hd m a w hf hdf hok ha hn;refine wp_mono (zbJ hmix c (zcI (hr d hd)) m a w hf hdf hok ha hn) ?_;rintro e a' w' ⟨x,t',s',m',rfl,hk,hrest⟩
   cases x with
   |normal=>
    obtain⟨d',_,hlt,_⟩:=hk;omega
   |exit i=>exact⟨.exit i,t',s',m',rfl,hk,hrest⟩
   |ret=>exact⟨.ret,t',s',m',rfl,hk,hrest⟩
  |succ k ih=>
   intro d hm hd m a w hf hdf hok ha hn;refine wp_mono (zbJ hmix c (zcI (hr d hd)) m a w hf hdf hok ha hn) ?_;rintro e a' w' ⟨x,t',s',m',rfl,hk,hf',hd',hg,ha',hn'⟩
   cases x with
   |normal=>
    obtain⟨d',hd2,hlt,hw2⟩:=hk;obtain⟨m2,hf2,hg2,ha2,hn2⟩:=hw2 m' a' w' hf' hg.ok ha' hn';have:=ih d' zo hd2 m2 a' w' hf2 hd' hg2.ok ha2 hn2;show LpN P c (After n0 m w (sD d) K) (k+1) a' w'
    have mono:∀n a w {Q Q':Exit->Act->World->Prop},(∀e a w,Q e a w->Q' e a w)->LpN P c Q n a w->LpN P c Q' n a w:=by
     intro n
     induction n with
     |zero=>intro a w Q Q' _ h;exact h.elim
     |succ n ihn=>
      intro a w Q Q' hQ h;refine wp_mono h λe a w he=> ?_
      cases e<;>first|exact ihn _ _ hQ he|exact hQ _ _ _ he
    exact mono _ _ _ (λe a2 w2 h2=>(h2.trans hg2).trans hg) this
   |exit i=>exact⟨.exit i,t',s',m',rfl,hk,hf',hd',hg,ha',hn'⟩
   |ret=>exact⟨.ret,t',s',m',rfl,hk,hf',hd',hg,ha',hn'⟩
 refine⟨λm a w hf hd hok ha hn=> ?_⟩;obtain⟨m1,hf1,hg1,ha1,hn1⟩:=hw m a w hf hok ha hn;refine wp_mono (zkK (key (meas d0) d0 (yhX _) h0 m1 a w hf1 hd hg1.ok ha1 hn1)) λe a' w' h=>h.trans hg1
theorem wl {c:Code} {t:Tm} {s:St} {K:Xt->Tm->St->Prop} (N:Nat) (tD:Nat->Tm) (sD:Nat->St) (hw:Weak n0 t s (tD 0) (sD 0))
  (hr:∀d,d<=N->startK (tD d) (sD d) λt s=>zfG P n0 c t s (zxV n0 (λd=>N-d) (λd=>d<=N) tD sD d K)) (hmix:P.follows .mixedOrders=true:=by exact zal):WLoop P n0 c t s K:=WLoop.inv hmix (λd=>N-d) (λd=>d<=N) tD sD 0 (ymX _) hw hr
def zqj (P:Program) (t:Tm) (s:St) (rs:List ResultVar) (K:KC):Prop:=RK (zfg P t s rs) λl=>K (zbn l) s
noncomputable def zo0 (P:Program) (n0:Nat) (f:FuncId) (args:List AV) (s:St) (K:KC):Prop:=
 match P.funcs[f]? with
 |none=>False
 |some fn=>match fn.body with
  |none=>False
  |some c=>Nat.forceK args.length λa=>startK ⟨zf2 0 .e args,Nat.add a (Nat.sub fn.ntmps a)⟩ s λt s=>zfG P n0 c t s λx t s=>
   match x with
   | .exit _=>False
   |_=>zqj P t s fn.results.toList K
structure PRet (v v0:AV) (s:St):Prop where
 h:∃z,Wz s.h z v v0
theorem PRet.z {v v0:AV} {s:St} (z:List Nat) (h:Wz s.h z v v0):PRet v v0 s:=⟨z,h⟩
theorem PureC.core (hmix:P.follows .mixedOrders=true) {f:FuncId} {args:List AV} {v:AV} {n:Nat} (h:zo0 P 0 f args ⟨.e,n⟩ (PRet v)) {s0:St} {m m0:Mp} {w:World} {args':List Value} (hok:Ok m s0.h.get w) (hz:m0.z=m.z) (ha:Above m0 n) (hR0:Rl m0 args args'):
  Calls P f args'.toArray w λe w'=>∃y m',e= .returned y/\Goes s0.h.get s0.h.get s0.n s0.n m m' w w'/\R1 m' v y:=by
 obtain⟨g0,z0⟩:=m0;simp only at hz;subst hz;unfold zo0 at h;split at h
 ·exact h.elim
 ·rename_i fn hfn;split at h
  ·exact h.elim
  ·rename_i c hcb;have h:=zcI (Nat.forceK_ok (K:=λa=>startK ⟨zf2 0 .e args,Nat.add a (Nat.sub fn.ntmps a)⟩ ⟨.e,n⟩ λt s=>zfG P 0 c t s λx t s=>match x with| .exit _=>False|_=>zqj P t s fn.results.toList (PRet v)) h)
   let m0:Mp:=⟨g0,m.z⟩
   have hok0:Ok m0 (⟨.e,n⟩:St).h.get w:=⟨λ_ _ h=>(by cases h),λ_ _ _ _ h=>(by cases h),λk i v hv=>⟨(hok.fz k i v hv).1,λ_ _ h=>(by cases h)⟩,hok.tbsub λ_ _ h=>(by cases h)⟩
   refine calls_of_wp hfn hcb (wp_mono (zbJ hmix c h m0 _ w (Fit.start hR0 fn.ntmps) rfl hok0 ha (ymX _)) ?_);rintro e a' w' ⟨x,t',s',m',rfl,hk,hf',hd',hg,ha',hn'⟩
   have hx:xtE x= .normal∨xtE x= .ret:=by
    cases x with
    |normal=>exact .inl rfl
    |ret=>exact .inr rfl
    |exit i=>exact hk.elim
   have hk':zqj P t' s' fn.results.toList (PRet v):=by
    cases x with
    |normal=>exact hk
    |ret=>exact hk
    |exit i=>exact hk.elim
   obtain⟨l,hl,⟨z,hz⟩⟩:=zbA hk';obtain⟨y,hy,hRy⟩:=zcB (fn:=fn) hf' hg.ok hl;have hRz:=zsf (z:=z) hg.ok v hz hRy
   have fin:∃y' m2,Ending.returned y= .returned y'/\Goes s0.h.get s0.h.get s0.n s0.n m m2 w w'/\R1 m2 v y':=by
    refine⟨y,⟨m.f,zdL m' s'.h.get z w'⟩,rfl,⟨yhX _,λ_ _=>rfl,⟨λb o hb=> ?_,hok.apart,λk i v hv=> ?_,hok.tbs (λk hk _=>hg.fr.block k hk λb o hb=>by cases hb) λb o hb=> .inl ⟨b,o,hb,rfl⟩⟩,⟨hg.fr.os,hg.fr.tape,hg.fr.output,hg.fr.size,λk hk _=>hg.fr.block k hk λb o hb=>by cases hb⟩,λb o hb=> .inl ⟨b,o,hb,rfl⟩,λk i v hv=>zaW _ _ _ (hg.zle k i v hv),λk i v hv=> ?_⟩,hRz.r1⟩
    ·have hRo:=hok.has b o hb;refine yMZ hRo ⟨λ_ _ h=>h,λk i v hv=>zaW _ _ _ (hg.zle k i v hv)⟩ λk hk=> ?_;obtain⟨k',hk',hlt⟩:=y5X hRo;rw[hk] at hk';cases hk'
     exact hg.fr.block k hlt λb o hb=>by cases hb
    ·have hnew:m.z k i=some v∨w.heap.size<=k:=by
      rcases zat hv with h1|⟨⟨b1,o1,h3,h4,h5⟩,_⟩
      ·rcases hg.znew k i v h1 with h2|⟨b0,o0,h2,_⟩|h2
       ·exact .inl h2
       ·cases h2
       ·exact .inr h2
      ·rcases hg.new b1 o1 h4 with⟨b0,o0,h0,_⟩|⟨k1,e1,hk1⟩
       ·cases h0
       ·rw[e1] at h5;cases h5;exact .inr hk1
     have hcell:∃cur e fr,w'.heap[k]? =some (.cells cur e fr)/\cur[i]? =some v:=by
      rcases zat hv with h1|⟨_,h1⟩
      ·exact(hg.ok.fz k i v h1).1
      ·exact h1
     refine⟨hcell,λb o hb=> ?_⟩
     rcases hnew with h1|h1
     ·exact(hok.fz k i v h1).2 b o hb
     ·obtain⟨k',hk',hlt⟩:=y5X (hok.has b o hb);show blk m b≠some k;rw[hk'];intro e;cases e;omega
    ·rcases zat hv with h1|⟨⟨b1,o1,h3,h4,h5⟩,_⟩
     ·rcases hg.znew k i v h1 with h2|⟨b0,o0,h2,_⟩|h2
      ·exact .inl h2
      ·cases h2
      ·exact .inr (.inr h2)
     ·rcases hg.new b1 o1 h4 with⟨b0,o0,h0,_⟩|⟨k1,e1,hk1⟩
      ·cases h0
      ·rw[e1] at h5;cases h5;exact .inr (.inr hk1)
   rcases hx with hx|hx
   ·rw[hx];exact⟨hd',y,hy,fin⟩
   ·rw[hx];exact⟨hd',y,hy,fin⟩
theorem PureC.of (hmix:P.follows .mixedOrders=true) {f:FuncId} {args:List AV} {v:AV} (hc:cont.contL args=true) (h:zo0 P 0 f args ⟨.e,0⟩ (PRet v)):PureC P f args v:=by
 intro s0 m w args' hR hok _;exact PureC.core hmix h hok (m0:=⟨λ_=>none,m.z⟩) rfl (λ_ _=>rfl) (zbX (m1:=⟨λ_=>none,m.z⟩) hc hR λ_ _ _ h=>h)
end
end Go.Ex
namespace Go.Ex
open Go
theorem zn4 {α:Type} {enc:α->List AV} {sz:Nat} (he:∀x,(enc x).length=sz) (o:α):∀(l:List α) (j k:Nat),j<l.length->k<sz->(l.flatMap enc)[j*sz+k]? =(enc (gd o l j))[k]?
 |[],j,k,h,_=>by simp at h
 |a::l,0,k,_,hk=>by
  rw[y0X,yHZ,ylX,yIX (by rw[he];exact hk)];rfl
 |a::l,j+1,k,h,hk=>by
  rw[y0X,yuX (by rw[he,yZX];omega),he,show(j+1)*sz+k-sz=j*sz+k by rw[yZX];omega];rw[zn4 he o l j k (by simpa using h) hk];rfl
theorem zmJ {α:Type} {enc:α->List AV} {sz:Nat} (he:∀x,(enc x).length=sz):∀l:List α,(l.flatMap enc).length=l.length*sz
 |[]=>by simp
 |a::l=>by rw[y0X,yvX,he,zmJ he l,yGX,yZX,yuZ,yIZ]
theorem zrl {α:Type} {enc:α->List AV} {sz:Nat} (he:∀x,(enc x).length=sz) (o:α) (l:List α) (j:Nat) (h:j<l.length):((l.flatMap enc).drop (j*sz)).take sz=enc (gd o l j):=by
 apply ykZ;intro k;rw[yNX];split
 ·rename_i hk;rw[y8X,zn4 he o l j k h hk]
 ·rename_i hk;rw[yyX (by rw[he];omega)]
theorem zaA {α:Type} (enc:α->List AV) (o:α) (l:List α):(List.range l.length).flatMap (λi=>enc (gd o l i))=l.flatMap enc:=by
 induction l with
 |nil=>rfl
 |cons a l ih=>
  rw[yGX,List.range_succ_eq_map,y0X,y0X,List.flatMap_map]
  congr 1
theorem zay {α:Type} {enc:α->List AV} (h:∀x,cont.contL (enc x)=true):∀l:List α,cont.contL (l.flatMap enc)=true
 |[]=>rfl
 |a::l=>by
  rw[y0X]
  have app:∀{x y:List AV},cont.contL x=true->cont.contL y=true->cont.contL (x++y)=true:=by
   intro x y hx hy
   induction x with
   |nil=>exact hy
   |cons b x ih=>
    unfold cont.contL at hx;show cont.contL (b::(x++y))=true;unfold cont.contL;split at hx
    ·exact ih hx
    ·cases hx
  exact app (h a) (zay h l)
theorem znG :∀{l:List AV} {k:Nat} {v:AV},l[k]? =some v->zqD l k= .ok v
 |[],_,_,h=>by simp at h
 |a::l,0,v,h=>by simp at h;rw[h];rfl
 |a::l,k+1,v,h=>znG (l:=l) (by simpa using h)
theorem ze2 :∀{l:List AV} {n:Nat},n<=l.length->zov l n= .ok (l.take n)
 |l,0,_=>by cases l<;>rfl
 |[],n+1,h=>by simp at h
 |a::l,n+1,h=>by
  show bd (zov l n) (λl=> .ok (a::l))=_;rw[ze2 (by simpa using h)];rfl
section
variable {P : Program} {t : Tm} {s : St} {o : Oper} {K : KC}
def tyS (P:Program) (T:TypeId):R (Bool×Nat):=bd (ty P T) λi=> .ok (zuD i.d,i.size)
theorem zpE {T:TypeId} {a:Bool} {n:Nat} (h:tyS P T= .ok (a,n)):∃i,ty P T= .ok i/\zuD i.d=a/\i.size=n:=by
 obtain⟨i,hi,h⟩:=zaf h
 have h2:(zuD i.d,i.size)=(a,n):=by injection h
 exact⟨i,hi,yqX Prod.fst h2,yqX Prod.snd h2⟩
theorem zlg {T:TypeId} {b off n:Nat} {c:List AV} {e:TypeId} {q:Nat} {v:AV} (hr:s.h.get b=some (.row c e q)) (hT:tyS P T= .ok (false,n)) (hv:c[off]? =some v):zcw P s T b off= .ok v:=by
 obtain⟨i,hi,ha,hs⟩:=zpE hT;unfold zcw rowAt;rw[hi,hr];simp only[bd,ofO,rowOf,zeE,ha];exact znG hv
theorem zlh {T:TypeId} {b off n:Nat} {c:List AV} {e:TypeId} {q:Nat} {l:List AV} (hr:s.h.get b=some (.row c e q)) (hT:tyS P T= .ok (true,n)) (hn:off+n<=c.length) (hv:(c.drop off).take n=l):zcw P s T b off= .ok (.agg l):=by
 obtain⟨i,hi,ha,hs⟩:=zpE hT;unfold zcw rowAt;rw[hi,hr];simp only[bd,ofO,rowOf,zeE,ha,takeN,hs];rw[ze2 (by simp;omega),hv]
theorem RK.of {α:Type} {r:R α} {a:α} {K:α->Prop} (h:r= .ok a) (hk:K a):RK r K:=by rw[h];exact hk
theorem zk1 :∀{l xs:List AV},xs.length<=l.length->(∀x∈xs,zgW x=true)->zfk l xs= .ok (xs++l.drop xs.length)
 |l,[],_,_=>by cases l<;>rfl
 |[],x::xs,h,_=>by simp at h
 |a::l,x::xs,h,h1=>by
  show(match zgW x with|true=>bd (zfk l xs) λl=> .ok (x::l)|false=> .no "store not of one cell")=_;rw[h1 x (by simp),zk1 (by simpa using h) λy hy=>h1 y (by simp[hy])];rfl
theorem zjw :∀{l:List AV} {off:Nat} {xs:List AV},off+xs.length<=l.length->(∀x∈xs,zgW x=true)->putAt l off xs= .ok (l.take off++(xs++l.drop (off+xs.length)))
 |l,0,xs,h,h1=>by
  have:putAt l 0 xs=zfk l xs:=by cases l<;>rfl
  rw[this,zk1 zo h1];simp
 |[],off+1,xs,h,_=>by simp at h
 |a::l,off+1,xs,h,h1=>by
  show bd (putAt l off xs) (λl=> .ok (a::l))=_;rw[zjw (by simp at h;omega) h1];simp[bd,show off+1+xs.length=(off+xs.length)+1 by omega]
theorem zdR {T:TypeId} {b off:Nat} {v:AV} {c c':List AV} {e:TypeId} {q:Nat} (hn:zeH v=true) {a:Bool} {n:Nat} (hT:tyS P T= .ok (a,n)) (hl:v.cells.length=n) (h1:∀x∈v.cells,zgW x=true) (hr:s.h.get b=some (.row c e q)) (ho2:off+n<=c.length) (hc:c.take off++(v.cells++c.drop (off+n))=c'):
  zcY P s T (.ptr b off) v= .ok (.val AV.undef (s.set b (.row c' e q))):=by
 obtain⟨i,hi,ha,hs⟩:=zpE hT
 have hb:Nat.beq v.cells.length i.size=true:=by rw[hl,hs];exact ylY _
 simp only[zcY,hi,bd,hn,zbh,hb,zcH,rowAt,hr,ofO,rowOf];rw[zjw zo h1,hl,hc]
theorem zdP {r:R Nx} {v:AV} {s':St} (h:r= .ok (.val v s')) (hk:s'.nfK λs'=>K v s'):zdQ r K:=by rw[h];exact hk
theorem zwE {α:Type} (enc:α->AV) {l:List α} {T:TypeId} {b j off:Nat} {a:α} {e:TypeId} {q:Nat} (hoff:off=j) (hn:zeH (enc a)=true) {n:Bool} (hT:tyS P T= .ok (n,1)) (hl:(enc a).cells=[enc a]) (h1:zgW (enc a)=true) (hr:s.h.get b=some (.row (l.map enc) e q)) (hj:j<l.length)
  (hk:(s.set b (.row ((l.set j a).map enc) e q)).nfK λs=>K AV.undef s):zdQ (zcY P s T (.ptr b off) (enc a)) K:=by
 subst hoff;refine zdP (zdR hn hT (by rw[hl];rfl) (by rw[hl];intro z hz;simp at hz;rw[hz];exact h1) hr (by simp;omega) ?_) hk;rw[hl];apply ykZ;intro k;by_cases h:k<off
 ·rw[yIX (by simp;omega),yNX,ygX h,yuY,yuY,List.getElem?_set_ne zo]
 ·by_cases h2:k=off
  ·subst h2;rw[yuX (by simp;omega),yuY,yzY hj];simp[yWZ (Nat.le_of_lt hj)]
  ·rw[yuX (by simp;omega),yuY,List.getElem?_set_ne zo];simp only[yYX,List.length_map,yWZ (Nat.le_of_lt hj)];rw[yuX (by simp;omega),y8X,yuY]
   congr 2
   simp;omega
end
def zb4 (h:T AO):List Nat->T AO
 |[]=>h
 |b::l=>(zb4 h l).put b none
theorem zaG {h:T AO} {b:Nat} {o:AO}:∀{l:List Nat},(zb4 h l).get b=some o->h.get b=some o/\b∉l
 |[],hb=>⟨hb,by simp⟩
 |a::l,hb=>by
  have hb':((zb4 h l).put a none).get b=some o:=hb;rw[ydY] at hb';split at hb'
  ·cases hb'
  ·rename_i hne;obtain⟨h1,h2⟩:=zaG hb';exact⟨h1,by simp[hne,h2]⟩
theorem CallOk.frz {P:Program} {f:FuncId} {args args1:List AV} {s:St} {v:AV} (z:List Nat) (hw:Wzl s.h z args1 args) (hc:PureC P f args1 v):CallOk P f args s v ⟨zb4 s.h z,s.n⟩:=by
 intro m w args' hR hok hfr
 let m1:Mp:=⟨m.f,zdL m s.h.get z w⟩
 have hok1:Ok m1 (⟨zb4 s.h z,s.n⟩:St).h.get w:=by
  refine⟨λb o hb=> ?_,λb b' o o' hb hb' hne=>hok.apart b b' o o' (zaG hb).1 (zaG hb').1 hne,λk i v hv=> ?_,hok.tbsub λb o hb=>⟨b,o,(zaG hb).1,rfl⟩⟩
  ·exact yMZ (hok.has b o (zaG hb).1) ⟨λ_ _ h=>h,zaW⟩ λ_ _=>rfl
  ·rcases zat hv with h1|⟨⟨b1,o1,h3,h4,h5⟩,h6⟩
   ·exact⟨(hok.fz k i v h1).1,λb o hb=>(hok.fz k i v h1).2 b o (zaG hb).1⟩
   ·refine⟨h6,λb o hb e=> ?_⟩;obtain⟨h7,h8⟩:=zaG hb
    have hne:b1≠b:=λe1=>by subst e1;exact h8 h3
    exact hok.apart b1 b o1 o h4 h7 hne (h5.trans e.symm)
 have hR1:Rl m1 args1 args':=Rzl.rl (m:=m1) (zee hok args1 hw hR);refine Calls.mono (hc ⟨zb4 s.h z,s.n⟩ m1 w args' hR1 hok1 hfr) ?_;rintro e w' ⟨y,m',rfl,hg,hv⟩;refine⟨y,m',rfl,⟨hg.le,hg.ext,hg.ok,⟨hg.fr.os,hg.fr.tape,hg.fr.output,hg.fr.size,λk hk hn=>hg.fr.block k hk λb o hb=>hn b o (zaG hb).1⟩,λb o hb=> ?_,λk i v hv=>hg.zle k i v (zaW _ _ _ hv),λk i v hv=> ?_⟩,hv⟩
 ·rcases hg.new b o hb with⟨b0,o0,h0,e0⟩|h
  ·exact .inl ⟨b0,o0,(zaG h0).1,e0⟩
  ·exact .inr h
 ·rcases hg.znew k i v hv with h1|⟨b0,o0,h0,e0⟩|h1
  ·rcases zat h1 with h2|⟨⟨b1,o1,h3,h4,h5⟩,_⟩
   ·exact .inl h2
   ·exact .inr (.inl ⟨b1,o1,h4,h5⟩)
  ·exact .inr (.inl ⟨b0,o0,(zaG h0).1,e0⟩)
  ·exact .inr (.inr h1)
theorem KCall.frz {P:Program} {f:FuncId} {args args1:List AV} {s:St} {K:KC} {v:AV} (z:List Nat) (hc:PureC P f args1 v) (hw:Wzl s.h z args1 args) (hk:(⟨zb4 s.h z,s.n⟩:St).nfK λs=>K v s):KCall P f args s K:=⟨v,_,CallOk.frz z hw hc,yhX _,St.nfK_ok hk⟩
theorem DCall.frz {P:Program} {f:FuncId} {args args1:List AV} {light:AV->Prop} {heavy:AV->St->Prop} {s:St} {v:AV} (z:List Nat) (hc:PureC P f args1 v) (hw:Wzl s.h z args1 args) (hk:(⟨zb4 s.h z,s.n⟩:St).nfK λs=>heavy v s):DCall P f args light heavy s:=⟨.inr ⟨v,_,CallOk.frz z hw hc,St.nfK_ok hk⟩⟩
end Go.Ex
namespace Go.Ex
open Go
theorem VEq.refl (x:Value):VEq x x:=by
 unfold VEq;split
 ·exact⟨rfl,rfl⟩
 ·rfl
 ·rfl
 ·rfl
mutual
theorem zwg {h:T AO} {z:List Nat}:∀{v:AV},cont v=true->Wz h z v v
 | .sc x,_=>by unfold Wz;exact VEq.refl x
 | .lst sz n f,_=>by unfold Wz;exact⟨rfl,rfl,λ_ _=>rfl⟩
 | .cp cs off,_=>by unfold Wz;exact⟨rfl,rfl⟩
 | .agg l,hc=>by unfold Wz;exact zeD hc
 | .ptr _ _,hc=>by cases hc
 | .sl _ _ _ _,hc=>by cases hc
 | .so _ _ _ _,hc=>by cases hc
 | .fn _ a b,hc=>by
  unfold cont at hc;unfold Wz;split at hc
  ·rename_i h1;exact⟨rfl,zeD h1,zeD hc⟩
  ·cases hc
 | .tup _,hc=>by cases hc
 | .ifc _ _,hc=>by cases hc
 | .any,_=>by unfold Wz;trivial
theorem zeD {h:T AO} {z:List Nat}:∀{l:List AV},cont.contL l=true->Wzl h z l l
 |[],_=>by unfold Wzl;trivial
 |x::l,hc=>by
  unfold cont.contL at hc;unfold Wzl;split at hc
  ·rename_i hx;exact⟨zwg hx,zeD hc⟩
  ·cases hc
end
theorem ziu {f:Nat->List AV} {sz:Nat}:∀(n i:Nat),(∀j,j<n->(f j).length=sz)->i<n->(((List.range n).flatMap f).drop (i*sz)).take sz=f i:=by
 intro n i hf hi;have h2:=zrl (enc:=λj=>if j<n then f j else List.replicate sz (.sc undef)) (sz:=sz) (λx=>by by_cases hx:x<n<;>simp[hx,hf]) 0 (List.range n) i (by simpa using hi)
 have e:(List.range n).flatMap (λj=>if j<n then f j else List.replicate sz (.sc undef))=(List.range n).flatMap f:=by
  rw[List.flatMap_def,List.flatMap_def]
  congr 1
  apply List.map_congr_left;intro a ha;rw[ygX (by simpa using ha)]
 rw[e] at h2;rw[h2]
 have:gd 0 (List.range n) i=i:=by
  unfold gd;rw[yXZ hi];rfl
 rw[this];simp[hi]
theorem Wz.own {h:T AO} {z:List Nat} {b n n' sz:Nat} {f:Nat->List AV} {cs:List AV} {e:TypeId} {q:Nat} (hb:h.get b=some (.row cs e q)) (hz:b∈z) (hn:n'=n) (hf:∀i,i<n->(f i).length=sz) (hw:cs=(List.range n).flatMap f) (hc:∀i,i<n->cont.contL (f i)=true) (hp:Nat.blt 0 sz=true:=by rfl):Wz h z (.lst sz n f) (.so b 0 n' 0):=by
 unfold Wz;refine⟨hn,hz,hp,cs,e,q,hb,?_,λi hi=>⟨hf i hi,?_⟩⟩
 ·rw[hw]
  have:∀k,k<=n->((List.range k).flatMap f).length=k*sz:=by
   intro k
   induction k with
   |zero=>intro _;simp
   |succ k ih=>
    intro hk;rw[yUY,yJX,yvX,ih zo];simp[hf k zo,yZX]
  rw[this n (yhX _)];exact yhX _
 ·rw[hw,ziu n i hf hi];exact zeD (hc i hi)
theorem Wz.ownS {h:T AO} {z:List Nat} {b n n' c sz:Nat} {f:Nat->List AV} {cs:List AV} {e:TypeId} {q:Nat} (hb:h.get b=some (.row cs e q)) (hz:b∈z) (hn:n'=n) (hnc:n<=c) (hf:∀i,i<n->(f i).length=sz) (hw:cs=(List.range n).flatMap f) (hc:∀i,i<n->cont.contL (f i)=true) (hp:(Nat.blt 0 sz||(Nat.beq n 0&&Nat.beq c 0))=true:=by rfl):Wz h z (.lst sz n f) (.sl b 0 n' c):=by
 unfold Wz;refine⟨hn,hnc,hz,hp,cs,e,q,hb,?_,λi hi=>⟨hf i hi,?_⟩⟩
 ·rw[hw]
  have:∀k,k<=n->((List.range k).flatMap f).length=k*sz:=by
   intro k
   induction k with
   |zero=>intro _;simp
   |succ k ih=>
    intro hk;rw[yUY,yJX,yvX,ih zo];simp[hf k zo,yZX]
  rw[this n (yhX _)];exact yhX _
 ·rw[hw,ziu n i hf hi];exact zeD (hc i hi)
theorem Wz.list {α:Type} {enc:α->List AV} {o:α} {l:List α} {h:T AO} {z:List Nat} {b n' sz:Nat} {cs:List AV} {e:TypeId} {q:Nat} (he:∀x,(enc x).length=sz) (hc:∀x,cont.contL (enc x)=true) (hb:h.get b=some (.row cs e q)) (hz:b∈z) (hn:n'=l.length) (hw:cs=l.flatMap enc) (hp:Nat.blt 0 sz=true:=by rfl):Wz h z (.lst sz l.length λi=>enc (gd o l i)) (.so b 0 n' 0):=
 Wz.own hb hz hn (λ_ _=>he _) (by rw[hw,zaA]) (λ_ _=>hc _) hp
mutual
theorem zoR {k:Nat}:∀{v:AV},cont v=true->named k v=true
 | .sc _,_=>rfl
 | .lst _ _ _,_=>rfl
 | .cp _ _,_=>rfl
 | .agg l,hc=>by unfold named;exact zcO hc
 | .ptr _ _,hc=>by cases hc
 | .sl _ _ _ _,hc=>by cases hc
 | .so _ _ _ _,hc=>by cases hc
 | .fn _ a b,hc=>by
  unfold cont at hc;unfold named;split at hc
  ·rename_i h1;rw[zcO h1];exact zcO hc
  ·cases hc
 | .tup _,hc=>by cases hc
 | .ifc _ _,hc=>by cases hc
 | .any,_=>rfl
theorem zcO {k:Nat}:∀{l:List AV},cont.contL l=true->named.nameds k l=true
 |[],_=>rfl
 |x::l,hc=>by
  unfold cont.contL at hc;unfold named.nameds;split at hc
  ·rename_i hx;rw[zoR hx];exact zcO hc
  ·cases hc
end
mutual
theorem zdD {h:T AO} {z:List Nat} {r:Nat->Nat}:∀{v:AV},cont v=true->Wv h z r v v
 | .sc x,_=>by unfold Wv;exact VEq.refl x
 | .lst sz n f,_=>by unfold Wv Wz;exact⟨rfl,rfl,λ_ _=>rfl⟩
 | .cp cs off,_=>by unfold Wv;rfl
 | .agg l,hc=>by unfold Wv;exact zbj hc
 | .ptr _ _,hc=>by cases hc
 | .sl _ _ _ _,hc=>by cases hc
 | .so _ _ _ _,hc=>by cases hc
 | .fn _ a b,hc=>by
  unfold cont at hc;unfold Wv;split at hc
  ·rename_i h1;exact⟨rfl,zbj h1,zbj hc⟩
  ·cases hc
 | .tup _,hc=>by cases hc
 | .ifc _ _,hc=>by cases hc
 | .any,_=>by unfold Wv;trivial
theorem zbj {h:T AO} {z:List Nat} {r:Nat->Nat}:∀{l:List AV},cont.contL l=true->Wvl h z r l l
 |[],_=>by unfold Wvl;trivial
 |x::l,hc=>by
  unfold cont.contL at hc;unfold Wvl;split at hc
  ·rename_i hx;exact⟨zdD hx,zbj hc⟩
  ·cases hc
end
theorem zgg {h:T AO} {z:List Nat} {r:Nat->Nat} {x y:List AV}:∀{a b:List AV},Wvl h z r a b->Wvl h z r x y->Wvl h z r (a++x) (b++y)
 |[],b,ha,hx=>by
  unfold Wvl at ha;split at ha
  ·exact hx
  ·exact ha.elim
 |v::a,b,ha,hx=>by
  unfold Wvl at ha;split at ha
  ·rename_i w b;show Wvl h z r (v::(a++x)) (w::(b++y));unfold Wvl;exact⟨ha.1,zgg ha.2 hx⟩
  ·exact ha.elim
theorem zft {k:Nat}:∀{a b:List AV},named.nameds k a=true->named.nameds k b=true->named.nameds k (a++b)=true
 |[],b,_,hb=>hb
 |x::a,b,ha,hb=>by
  unfold named.nameds at ha;show named.nameds k (x::(a++b))=true;unfold named.nameds;split at ha
  ·exact zft ha hb
  ·cases ha
theorem WRow.snoc {h:T AO} {z r:List Nat} {l l' x y:List AV} (hl:l'=l++x) (hc:cont.contL l=true) (hn:named.nameds r.length x=true) (hx:Wvl h z (rn r) x y):WRow h z r l' (l++y):=by
 subst hl;exact .inl ⟨zft (zcO hc) hn,zgg (zbj hc) hx⟩
theorem Wv.list {α:Type} {enc:α->List AV} {o:α} {l:List α} {h:T AO} {z:List Nat} {r:Nat->Nat} {b n' sz:Nat} {cs:List AV} {e:TypeId} {q:Nat} (he:∀x,(enc x).length=sz) (hc:∀x,cont.contL (enc x)=true) (hb:h.get b=some (.row cs e q)) (hz:b∈z) (hn:n'=l.length) (hw:cs=l.flatMap enc) (hp:Nat.blt 0 sz=true:=by rfl):Wv h z r (.lst sz l.length λi=>enc (gd o l i)) (.so b 0 n' 0):=by
 unfold Wv;exact Wz.list he hc hb hz hn hw hp
theorem Wz.mt {α:Type} {enc:α->List AV} {o:α} {l:List α} {h:T AO} {z:List Nat} {b n' sz:Nat} {e:TypeId} {q:Nat} (hl:l=[]) (hn:n'=l.length) (hb:h.get b=some (.row [] e q)) (hz:b∈z):Wz h z (.lst sz l.length λi=>enc (gd o l i)) (.sl b 0 n' 0):=by
 subst hl;exact Wz.ownS hb hz hn (ymX _) (λi hi=>absurd hi (ypX _)) rfl (λi hi=>absurd hi (ypX _)) (by simp)
theorem Wv.mt {α:Type} {enc:α->List AV} {o:α} {l:List α} {h:T AO} {z:List Nat} {r:Nat->Nat} {b n' sz:Nat} {e:TypeId} {q:Nat} (hl:l=[]) (hn:n'=l.length) (hb:h.get b=some (.row [] e q)) (hz:b∈z):Wv h z r (.lst sz l.length λi=>enc (gd o l i)) (.sl b 0 n' 0):=by
 unfold Wv;exact Wz.mt hl hn hb hz
theorem Wz.nil {α:Type} {enc:α->List AV} {o:α} {l:List α} {h:T AO} {z:List Nat} {sz:Nat} (hl:l=[]):Wz h z (.lst sz l.length λi=>enc (gd o l i)) (.sc (.slice none 0 0)):=by
 subst hl;unfold Wz
 first|trivial|exact rfl|simp
theorem Wv.nil {α:Type} {enc:α->List AV} {o:α} {l:List α} {h:T AO} {z:List Nat} {r:Nat->Nat} {sz:Nat} (hl:l=[]):Wv h z r (.lst sz l.length λi=>enc (gd o l i)) (.sc (.slice none 0 0)):=by
 subst hl;unfold Wv;exact Wz.nil rfl
theorem zcG {α β:Type} (enc:α->List β) (o:α):∀(l:List α) (k:Nat),k<l.length->(l.take (k+1)).flatMap enc=(l.take k).flatMap enc++enc (gd o l k)
 |[],_,h=>absurd h (ypX _)
 |x::l,0,_=>by simp[gd]
 |x::l,k+1,h=>by
  have:=zcG enc o l k (Nat.lt_of_succ_lt_succ h);show enc x++(l.take (k+1)).flatMap enc=(enc x++(l.take k).flatMap enc)++enc (gd o l k);rw[this,yVX]
theorem take_len {α β:Type} {enc:α->List β} {sz:Nat} (he:∀x,(enc x).length=sz) {l:List α} {k:Nat} (hk:k<=l.length):((l.take k).flatMap enc).length=0+k*sz:=by
 have:∀l:List α,(l.flatMap enc).length=l.length*sz:=by
  intro l
  induction l with
  |nil=>simp
  |cons x l ih=>rw[y0X,yvX,ih,he,yGX,ybZ,yIZ]
 rw[this,yYX,yWZ hk,ylX]
mutual
def Rn (ρ:Nat->Nat):AV->AV->Prop
 | .sc x,v=>v= .sc x
 | .any,v=>v= .any
 | .ptr b o,v=>v= .ptr (ρ b) o
 | .sl b o n c,v=>v= .sl (ρ b) o n c
 | .so b o n s,v=>v= .so (ρ b) o n s
 | .lst sz n f,v=>v= .lst sz n f
 | .cp cs off,v=>v= .cp cs off
 | .fn f a c,v=>match v with| .fn f' a' c'=>f'=f/\Rnl ρ a a'/\Rnl ρ c c'|_=>False
 | .agg l,v=>match v with| .agg l'=>Rnl ρ l l'|_=>False
 | .tup l,v=>match v with| .tup l'=>Rnl ρ l l'|_=>False
 | .ifc t x,v=>match v with| .ifc t' x'=>t'=t/\Rn ρ x x'|_=>False
def Rnl (ρ:Nat->Nat):List AV->List AV->Prop
 |[],l=>match l with|[]=>True|_=>False
 |x::l,ys=>match ys with|y::ys=>Rn ρ x y/\Rnl ρ l ys|[]=>False
end
def RnO (ρ:Nat->Nat) (o1 o2:AO):Prop:=
 match o1 with
 | .row c1 e1 q1=>match o2 with| .row c e q=>e=e1/\q=q1/\(Rnl ρ c1 c∨(c=c1/\cont.contL c1=true))|_=>False
 | .iter s p=>match o2 with| .iter s' p'=>s'=s/\p'=p|_=>False
def zkz (ρ:Nat->Nat):List AO->List AO->Prop
 |[],l=>match l with|[]=>True|_=>False
 |x::l,ys=>match ys with|y::ys=>RnO ρ x y/\zkz ρ l ys|[]=>False
section
variable {m m' : Mp} {ρ : Nat -> Nat}
mutual
theorem zsi (hm:∀b x,m b=some x->m' (ρ b)=some x) (hz:Zle m.z m'.z):∀(v1:AV) {v2:AV} {x:Value},Rn ρ v1 v2->R1 m v1 x->R1 m' v2 x
 | .sc _,_,_,h,hr=>by unfold Rn at h;subst h;exact hr
 | .any,_,_,h,_=>by unfold Rn at h;subst h;trivial
 | .ptr _ _,_,_,h,⟨k,o,c,h1,e⟩=>by unfold Rn at h;subst h;exact⟨k,o,c,hm _ _ h1,e⟩
 | .sl _ _ _ _,_,_,h,⟨k,o,c,h1,e⟩=>by unfold Rn at h;subst h;exact⟨k,o,c,hm _ _ h1,e⟩
 | .so _ _ _ _,_,_,h,⟨k,o,c,h1,h2,e⟩=>by unfold Rn at h;subst h;exact⟨k,o,c,hm _ _ h1,h2,e⟩
 | .lst _ _ _,_,_,h,hr=>by unfold Rn at h;subst h;exact Rz.mono hz _ _ hr
 | .cp _ _,_,_,h,hr=>by unfold Rn at h;subst h;exact Rz.mono hz _ _ hr
 | .fn f a c,v2,x,h,⟨a',b',ha,hb,e⟩=>by
  unfold Rn at h;split at h
  ·obtain⟨rfl,h1,h2⟩:=h;exact⟨a',b',zib hm hz a h1 ha,zib hm hz c h2 hb,e⟩
  ·exact h.elim
 | .agg l,v2,x,h,⟨l',hl,e⟩=>by
  unfold Rn at h;split at h
  ·exact⟨l',zib hm hz l h hl,e⟩
  ·exact h.elim
 | .tup l,v2,x,h,⟨l',hl,e⟩=>by
  unfold Rn at h;split at h
  ·exact⟨l',zib hm hz l h hl,e⟩
  ·exact h.elim
 | .ifc t y,v2,x,h,⟨v',hv,e⟩=>by
  unfold Rn at h;split at h
  ·obtain⟨rfl,h⟩:=h;exact⟨v',zsi hm hz y h hv,e⟩
  ·exact h.elim
theorem zib (hm:∀b x,m b=some x->m' (ρ b)=some x) (hz:Zle m.z m'.z):∀(l1:List AV) {l2:List AV} {xs:List Value},Rnl ρ l1 l2->Rl m l1 xs->Rl m' l2 xs
 |[],l2,xs,h,hr=>by
  unfold Rnl at h;split at h
  ·exact hr
  ·exact h.elim
 |v::l,l2,xs,h,⟨y,ys,e,h1,h2⟩=>by
  unfold Rnl at h;split at h
  ·exact⟨y,ys,e,zsi hm hz v h.1 h1,zib hm hz l h.2 h2⟩
  ·exact h.elim
end
end
theorem zfM {ρ:Nat->Nat}:∀{l1 l2:List AO},zkz ρ l1 l2->∀{j:Nat} {o:AO},l2[j]? =some o->∃o1,l1[j]? =some o1/\RnO ρ o1 o
 |[],l2,h,j,o,hj=>by
  unfold zkz at h;split at h
  ·simp at hj
  ·exact h.elim
 |x::l,l2,h,j,o,hj=>by
  unfold zkz at h;split at h
  ·cases j with
   |zero=>simp at hj;subst hj;exact⟨_,rfl,h.1⟩
   |succ j=>simpa using zfM h.2 (by simpa using hj)
  ·exact h.elim
def HC (P:Program) (n0:Nat) (f:FuncId) (args0:List AV) (rows0:List AO) (v1:AV) (rows1:List AO):Prop:=
 ∀m w args',Rl m args0 args'->Ok m (zan rows0).h.get w->Above m rows0.length->Calls P f args'.toArray w λe w'=>
  ∃y m',e= .returned y/\Gk n0 (zan rows0).h.get (zan rows1).h.get m m' w w'/\R1 m' v1 y/\Above m' rows1.length
structure HRet (n0:Nat) (v1:AV) (rows1:List AO) (v:AV) (s:St):Prop where
 h:∃r z,(match zck z r with|true=>zsq 0 n0 r|false=>false)=true/\zgA s.h z r rows1 r/\zkQ s.h z r ⟨zcU [(0,v)],1⟩ [(0,v1)]
theorem HC.of {P:Program} (hmix:P.follows .mixedOrders=true) {n0:Nat} {f:FuncId} {args0:List AV} {rows0 rows1:List AO} {v1:AV} (hn:n0<=rows0.length) (h:zo0 P n0 f args0 (zan rows0) (HRet n0 v1 rows1)):HC P n0 f args0 rows0 v1 rows1:=by
 intro m w args' hR hok hab;unfold zo0 at h;split at h
 ·exact h.elim
 ·rename_i fn hfn;split at h
  ·exact h.elim
  ·rename_i c hcb;have h:=zcI (Nat.forceK_ok (K:=λa=>startK ⟨zf2 0 .e args0,Nat.add a (Nat.sub fn.ntmps a)⟩ (zan rows0) λt s=>zfG P n0 c t s λx t s=>match x with| .exit _=>False|_=>zqj P t s fn.results.toList (HRet n0 v1 rows1)) h);refine calls_of_wp hfn hcb (wp_mono (zbJ hmix c h m _ w (Fit.start hR fn.ntmps) rfl hok hab hn) ?_);rintro e a' w' ⟨x,t',s',m',rfl,hk,hf',hd',hg,ha',hn'⟩
   have hk':zqj P t' s' fn.results.toList (HRet n0 v1 rows1):=by
    cases x with
    |normal=>exact hk
    |ret=>exact hk
    |exit i=>exact hk.elim
   have hx:xtE x= .normal∨xtE x= .ret:=by
    cases x with
    |normal=>exact .inl rfl
    |ret=>exact .inr rfl
    |exit i=>exact hk.elim
   obtain⟨l,hl,⟨r,z,hr,hrows,hsl⟩⟩:=zbA hk';obtain⟨y,hy,hRy⟩:=zcB (fn:=fn) hf' hg.ok hl
   have hfit:Fit m' ⟨zcU [(0,zbn l)],1⟩ {tmps:= #[y],defers:=[]}:=by
    refine⟨rfl,λi=> ?_⟩;show R1 m' (match(zcU [(0,zbn l)]).get i with|some v=>v|none=> .any) _
    have:(zcU [(0,zbn l)]).get i=if i=0 then some (zbn l) else none:=by
     show((T.e:T AV).put 0 _).get i=_;rw[ydY];split<;>rfl
    rw[this];by_cases h0:i=0
    ·subst h0;rw[ygX rfl];exact hRy
    ·rw[yfX h0];trivial
   obtain⟨m2,hf2,hg2,ha2,hn2⟩:=Weak.of (n0:=n0) r z rfl hr hrows hsl m' _ w' hfit hg.ok ha' hn'
   have hv1:R1 m2 v1 y:=by
    have:=hf2.r 0
    have e:(zag [(0,v1)] 1).get 0=v1:=by
     show(match(((T.e:T AV).put 0 (some v1)).get 0) with|some v=>v|none=> .any)=v1;rw[ydY,ygX rfl]
    rw[e] at this;exact this
   have fin:∃y' m2,Ending.returned y= .returned y'/\Gk n0 (zan rows0).h.get (zan rows1).h.get m m2 w w'/\R1 m2 v1 y'/\Above m2 rows1.length:=⟨y,m2,rfl,hg.trans hg2,hv1,ha2⟩
   rcases hx with hx|hx
   ·rw[hx];exact⟨hd',y,hy,fin⟩
   ·rw[hx];exact⟨hd',y,hy,fin⟩
section
variable {m : Mp} {w : World} {s : St} {z r : List Nat} {rows : List AO}
theorem zeV {b b0:Nat} (hb:r[b]? =some b0):znN m s.h.get z r w b=m b0:=by
 show(match nth r b with|some b0=>m b0|none=>none)=_;rw[zbc,hb]
theorem zvy (hap:zck z r=true) (hrows:zgA s.h z r rows r) (hok:Ok m s.h.get w):Gk 0 s.h.get (zan rows).h.get m (znN m s.h.get z r w) w w/\Above (znN m s.h.get z r w) rows.length:=by
 obtain⟨hinj,hz⟩:=zcR hap;obtain⟨hlen,hget⟩:=zfc hrows
 have hblk:∀b b0,r[b]? =some b0->blk (znN m s.h.get z r w) b=blk m b0:=λb b0 hb=>by
  show Option.map (λx:Nat×Nat×Nat=>x.1) (znN m s.h.get z r w b)=_;rw[zeV hb];rfl
 refine⟨⟨⟨λb o hb=> ?_,λb b' o o' hb hb' hne=> ?_,λk i v hv=> ?_,hok.tbsub λb o hb=> ?_⟩,⟨rfl,rfl,rfl,yhX _,λ_ _ _=>rfl⟩,λb o hb=> ?_,zaW,λk i v hv=> ?_,λb hb=>absurd hb (ypX _)⟩,λb hb=> ?_⟩
 ·rw[zaL] at hb;obtain⟨b0,o0,h1,h2,h3⟩:=hget b o hb;have hR:=hok.has b0 o0 h2;unfold WO at h3;split at h3
  ·split at h3
   ·obtain⟨rfl,rfl,h3⟩:=h3;obtain⟨k,o,cap,cur,fr,pre,vs,post,q1,q2,q3,q4,q5,q6,q7⟩:=hR;refine⟨k,o,cap,cur,fr,pre,vs,post,(zeV h1).trans q1,q2,q3,q4,q5,?_,q7⟩
    rcases h3 with⟨h4,h5⟩|⟨rfl,h4⟩
    ·exact zfL hok _ h4 h5 q6
    ·exact zbX h4 q6 zaW
   ·exact h3.elim
  ·split at h3
   ·obtain⟨rfl,rfl⟩:=h3;obtain⟨k,q1,q2⟩:=hR;exact⟨k,(zeV h1).trans q1,q2⟩
   ·exact h3.elim
 ·rw[zaL] at hb hb';obtain⟨b0,o0,h1,h2,_⟩:=hget b o hb;obtain⟨b0',o0',h1',h2',_⟩:=hget b' o' hb';rw[hblk b b0 h1,hblk b' b0' h1'];refine hok.apart b0 b0' o0 o0' h2 h2' λe=>hne ?_;subst e;exact hinj b b' b0 h1 h1'
 ·refine⟨?_,λb o hb=> ?_⟩
  ·rcases zat hv with h1|⟨_,h1⟩
   ·exact(hok.fz k i v h1).1
   ·exact h1
  ·rw[zaL] at hb;obtain⟨b0,o0,h1,h2,_⟩:=hget b o hb;rw[hblk b b0 h1]
   rcases zat hv with h3|⟨⟨b1,o1,h3,h4,h5⟩,_⟩
   ·exact(hok.fz k i v h3).2 b0 o0 h2
   ·intro e
    have hne:b1≠b0:=λe1=>by
     subst e1;exact hz b1 (yHX h1) h3
    exact hok.apart b1 b0 o1 o0 h4 h2 hne (h5.trans e.symm)
 ·rw[zaL] at hb;obtain⟨b0,o0,h1,h2,_⟩:=hget b o hb;exact⟨b0,o0,h2,hblk b b0 h1⟩
 ·rw[zaL] at hb;obtain⟨b0,o0,h1,h2,_⟩:=hget b o hb;exact .inl ⟨b0,o0,h2,hblk b b0 h1⟩
 ·rcases zat hv with h1|⟨⟨b1,o1,h3,h4,h5⟩,_⟩
  ·exact .inl h1
  ·exact .inr (.inl ⟨b1,o1,h4,h5⟩)
 ·show(match nth r b with|some b0=>m b0|none=>none)=none;rw[zbc,yyX zo]
end
def rho (r:List Nat) (n0 n b:Nat):Nat:=match Nat.blt b n0 with|true=>rn r b|false=>Nat.add n (Nat.sub b n0)
def zsP (r:List Nat) (n0 n:Nat):Nat->List AO->T AO->T AO
 |_,[],h=>h
 |i,o::l,h=>zsP r n0 n (Nat.succ i) l (h.put (rho r n0 n i) (some o))
theorem zen {r:List Nat} {n0 n b:Nat} {o:AO}:∀{l:List AO} {i:Nat} {h:T AO},(zsP r n0 n i l h).get b=some o->(∃j,l[j]? =some o/\b=rho r n0 n (i+j))∨h.get b=some o
 |[],_,_,hb=> .inr hb
 |x::l,i,h,hb=>by
  rcases zen (l:=l) (i:=Nat.succ i) hb with⟨j,h1,h2⟩|h1
  ·exact .inl ⟨j+1,by simpa using h1,by rw[h2];congr 1;omega⟩
  ·rw[ydY] at h1;split at h1
   ·rename_i e;cases h1;exact .inl ⟨0,rfl,e⟩
   ·exact .inr h1
def zso (s:St) (r z:List Nat) (n0:Nat) (rows2:List AO):St:=⟨zsP r n0 s.n 0 rows2 (zb4 (zb4 s.h z) r),Nat.add s.n (Nat.sub rows2.length n0)⟩
theorem CallOk.lift {P:Program} {n0:Nat} {f:FuncId} {args0 args:List AV} {rows0 rows1:List AO} {v1:AV} {s:St} (r z:List Nat) (v2:AV) (rows2:List AO) (hc:HC P n0 f args0 rows0 v1 rows1) (hap:zck z r=true) (hn:n0<=r.length) (hrows:zgA s.h z r rows0 r) (hna:named.nameds r.length args0=true)
  (hargs:Wvl s.h z (rn r) args0 args) (hv:Rn (rho r n0 s.n) v1 v2) (hlen:rows2.length=rows1.length) (hrows2:zkz (rho r n0 s.n) rows1 rows2):CallOk P f args s v2 (zso s r z n0 rows2):=by
 intro m w args' hR hok hfr;obtain⟨hinj,hzr⟩:=zcR hap;obtain⟨hl0,hget0⟩:=zfc hrows;obtain⟨g1,ha1⟩:=zvy hap hrows hok;have hR0:=zfL hok args0 hna hargs hR;refine Calls.mono (hc _ w args' hR0 g1.ok ha1) ?_;rintro e w' ⟨y,m1,rfl,g2,hv1,ha2⟩;have g:Gk 0 s.h.get (zan rows1).h.get m m1 w w':=g1.trans ⟨g2.ok,g2.fr,g2.new,g2.zle,g2.znew,λb hb=>absurd hb (ypX _)⟩;have hfr:∀b,s.n<=b->b<s.n+(rows2.length-n0)->m b=none:=hfr
 let m':Mp:=⟨λb=>if s.n<=b/\b<s.n+(rows2.length-n0) then m1 (n0+(b-s.n)) else m b,m1.z⟩
 have hout:∀b x,m b=some x->m' b=some x:=λb x hb=>by
  show(if s.n<=b/\b<s.n+(rows2.length-n0) then _ else _)=_;split
  ·rename_i h;rw[hfr b h.1 h.2] at hb;cases hb
  ·exact hb
 have hρ:∀b x,m1 b=some x->m' (rho r n0 s.n b)=some x:=λb x hb=>by
  unfold rho;split
  ·rename_i hlt;have hlt:=zby hlt;have h1:r[b]? =some r[b]:=ysX (ywY hlt hn)
   have h2:rn r b=r[b]:=by unfold rn;rw[zbc,h1]
   rw[h2];refine hout _ _ ?_;rw[←hb,g2.low b hlt,zeV h1]
  ·rename_i hge
   have hge:n0<=b:=yNZ λh=>by rw[show Nat.blt b n0=true from ysY h] at hge;cases hge
   have hlt:b<rows1.length:=Nat.lt_of_not_le λh=>by rw[ha2 b h] at hb;cases hb
   show(if s.n<=s.n+(b-n0)/\s.n+(b-n0)<s.n+(rows2.length-n0) then m1 (n0+(s.n+(b-n0)-s.n)) else m (s.n+(b-n0)))=_;rw[ygX ⟨zo,zo⟩,show n0+(s.n+(b-n0)-s.n)=b by omega];exact hb
 have hblk:∀j k,blk m1 j=some k->blk m' (rho r n0 s.n j)=some k:=λj k h=>by
  unfold blk at h⊢
  cases hj:m1 j with
  |none=>rw[hj] at h;cases h
  |some x=>rw[hj] at h;rw[hρ j x hj];exact h
 have hblko:∀b k,blk m b=some k->blk m' b=some k:=λb k h=>by
  unfold blk at h⊢
  cases hj:m b with
  |none=>rw[hj] at h;cases h
  |some x=>rw[hj] at h;rw[hout b x hj];exact h
 have hrow:∀b o,(zso s r z n0 rows2).h.get b=some o->(∃j o1,(zan rows1).h.get j=some o1/\RnO (rho r n0 s.n) o1 o/\b=rho r n0 s.n j)∨(s.h.get b=some o/\b∉z/\b∉r):=λb o hb=>by
  rcases zen hb with⟨j,h1,h2⟩|h1
  ·obtain⟨o1,h3,h4⟩:=zfM hrows2 h1;exact .inl ⟨j,o1,by rw[zaL];exact h3,h4,by rw[h2,ylX]⟩
  ·obtain⟨h2,h3⟩:=zaG h1;obtain⟨h4,h5⟩:=zaG h2;exact .inr ⟨h4,h5,h3⟩
 have hsep:∀j o1 b o,(zan rows1).h.get j=some o1->s.h.get b=some o->b∉r->blk m1 j≠blk m b:=λj o1 b o hj hb hr=>by
  rcases g2.new j o1 hj with⟨b0,o0,h0,e0⟩|⟨k,ek,hk⟩
  ·rw[zaL] at h0;obtain⟨b1,o2,h1,h2,_⟩:=hget0 b0 o0 h0
   have e1:blk (znN m s.h.get z r w) b0=blk m b1:=by unfold blk;rw[zeV h1]
   rw[e0,e1];exact hok.apart b1 b o2 o h2 hb λe=>hr (e▸yHX h1)
  ·obtain⟨k',h1,h2⟩:=y5X (hok.has b o hb);rw[ek,h1];intro e;cases e;omega
 have hok':Ok m' (zso s r z n0 rows2).h.get w':=by
  refine⟨λb o hb=> ?_,λb b' o o' hb hb' hne=> ?_,λk i v hv=> ?_,λk x hk=> ?_⟩
  ·rcases hrow b o hb with⟨j,o1,h1,h2,rfl⟩|⟨h1,h2,h3⟩
   ·have hR:=g2.ok.has j o1 h1;unfold RnO at h2;split at h2
    ·split at h2
     ·obtain⟨rfl,rfl,h2⟩:=h2;obtain⟨k,o,cap,cur,fr,pre,vs,post,q1,q2,q3,q4,q5,q6,q7⟩:=hR;refine⟨k,o,cap,cur,fr,pre,vs,post,hρ _ _ q1,q2,q3,q4,q5,?_,q7⟩
      rcases h2 with h2|⟨rfl,h2⟩
      ·exact zib hρ (λ_ _ _ h=>h) _ h2 q6
      ·exact zbX h2 q6 λ_ _ _ h=>h
     ·exact h2.elim
    ·split at h2
     ·obtain⟨rfl,rfl⟩:=h2;obtain⟨k,q1,q2⟩:=hR;exact⟨k,hρ _ _ q1,q2⟩
     ·exact h2.elim
   ·have hRo:=hok.has b o h1;refine yMZ hRo ⟨hout,g.zle⟩ λk hk=> ?_;obtain⟨k',hk',hlt⟩:=y5X hRo;rw[hk] at hk';cases hk';refine g2.fr.block k hlt λb0 o0 h0 e0=> ?_;rw[zaL] at h0;obtain⟨b1,o2,h4,h5,_⟩:=hget0 b0 o0 h0
    have e1:blk (znN m s.h.get z r w) b0=blk m b1:=by unfold blk;rw[zeV h4]
    rw[e1] at e0;exact hok.apart b1 b o2 o h5 h1 (λe=>h3 (e▸yHX h4)) (e0.trans hk.symm)
  ·rcases hrow b o hb with⟨j,o1,h1,h2,rfl⟩|⟨h1,h2,h3⟩
   ·obtain⟨k,hk,_⟩:=y5X (g2.ok.has j o1 h1);rw[hblk _ _ hk]
    rcases hrow b' o' hb' with⟨j',o1',h1',h2',rfl⟩|⟨h1',h2',h3'⟩
    ·obtain⟨k',hk',_⟩:=y5X (g2.ok.has j' o1' h1');rw[hblk _ _ hk',←hk,←hk'];exact g2.ok.apart j j' o1 o1' h1 h1' λe=>hne (by rw[e])
    ·obtain⟨k',hk',_⟩:=y5X (hok.has b' o' h1');rw[hblko _ _ hk',←hk,←hk'];exact hsep j o1 b' o' h1 h1' h3'
   ·obtain⟨k,hk,_⟩:=y5X (hok.has b o h1);rw[hblko _ _ hk]
    rcases hrow b' o' hb' with⟨j',o1',h1',h2',rfl⟩|⟨h1',h2',h3'⟩
    ·obtain⟨k',hk',_⟩:=y5X (g2.ok.has j' o1' h1');rw[hblk _ _ hk',←hk,←hk'];exact λe=>hsep j' o1' b o h1' h1 h3 e.symm
    ·obtain⟨k',hk',_⟩:=y5X (hok.has b' o' h1');rw[hblko _ _ hk',←hk,←hk'];exact hok.apart b b' o o' h1 h1' hne
  ·have hv:m1.z k i=some v:=hv;refine⟨(g2.ok.fz k i v hv).1,λb o hb=> ?_⟩
   rcases hrow b o hb with⟨j,o1,h1,h2,rfl⟩|⟨h1,h2,h3⟩
   ·obtain⟨k',hk',_⟩:=y5X (g2.ok.has j o1 h1);rw[hblk _ _ hk',←hk'];exact(g2.ok.fz k i v hv).2 j o1 h1
   ·obtain⟨k',hk',hlt⟩:=y5X (hok.has b o h1);rw[hblko _ _ hk'];intro e;cases e
    rcases g2.znew k i v hv with h4|⟨b0,o0,h0,e0⟩|h4
    ·rcases zat h4 with h5|⟨⟨b1,o1,h5,h6,h7⟩,_⟩
     ·exact(hok.fz k i v h5).2 b o h1 hk'
     ·exact hok.apart b1 b o1 o h6 h1 (λe=>h2 (e▸h5)) (h7.trans hk'.symm)
    ·rw[zaL] at h0;obtain⟨b1,o2,h5,h6,_⟩:=hget0 b0 o0 h0
     have e1:blk (znN m s.h.get z r w) b0=blk m b1:=by unfold blk;rw[zeV h5]
     rw[e1] at e0;exact hok.apart b1 b o2 o h6 h1 (λe=>h3 (e▸yHX h5)) (e0.trans hk'.symm)
    ·omega
  ·refine⟨(g2.ok.tb k x hk).1,λb o hb=> ?_⟩
   rcases hrow b o hb with⟨j,o1,h1,h2,rfl⟩|⟨h1,h2,h3⟩
   ·obtain⟨k',hk',_⟩:=y5X (g2.ok.has j o1 h1);rw[hblk _ _ hk',←hk'];exact(g2.ok.tb k x hk).2 j o1 h1
   ·obtain⟨k',hk',_⟩:=y5X (hok.has b o h1);rw[hblko _ _ hk',←hk'];exact(hok.tb k x hk).2 b o h1
 refine⟨y,m',rfl,⟨ytZ _ _,λb hb=> ?_,hok',g.fr,λb o hb=> ?_,g.zle,g.znew⟩,zsi hρ (λ_ _ _ h=>h) v1 hv hv1⟩
 ·show(if s.n<=b/\b<s.n+(rows2.length-n0) then _ else _)=_;have hb:b<s.n∨s.n+(rows2.length-n0)<=b:=hb;rw[yfX zo]
 ·rcases hrow b o hb with⟨j,o1,h1,h2,rfl⟩|⟨h1,h2,h3⟩
  ·obtain⟨k,hk,_⟩:=y5X (g2.ok.has j o1 h1);rw[hblk _ _ hk,←hk]
   rcases g.new j o1 h1 with⟨b0,o0,h0,e0⟩|⟨k',e,hk'⟩
   ·exact .inl ⟨b0,o0,h0,e0⟩
   ·exact .inr ⟨k',e,hk'⟩
  ·obtain⟨k,hk,_⟩:=y5X (hok.has b o h1);exact .inl ⟨b,o,h1,by rw[hblko _ _ hk,hk]⟩
theorem KCall.lift {P:Program} {n0:Nat} {f:FuncId} {args0 args:List AV} {rows0 rows1:List AO} {v1:AV} {s:St} {K:KC} (r z:List Nat) (v2:AV) (rows2:List AO) (hc:HC P n0 f args0 rows0 v1 rows1) (hap:(match zck z r with|true=>Nat.ble n0 r.length|false=>false)=true) (hrows:zgA s.h z r rows0 r) (hargs:named.nameds r.length args0=true/\Wvl s.h z (rn r) args0 args)
  (hv:Rn (rho r n0 s.n) v1 v2/\rows2.length=rows1.length/\zkz (rho r n0 s.n) rows1 rows2) (hk:(zso s r z n0 rows2).nfK λs=>K v2 s):KCall P f args s K:=by
 split at hap
 ·rename_i ha;exact⟨v2,_,CallOk.lift r z v2 rows2 hc ha (ynX hap) hrows hargs.1 hargs.2 hv.1 hv.2.1 hv.2.2,ytZ _ _,St.nfK_ok hk⟩
 ·cases hap
theorem KCall.lf {P:Program} {n0:Nat} {f:FuncId} {args0 args:List AV} {rows0 rows1:List AO} {v1:AV} {s:St} {K:KC} (r z:List Nat) (v2:AV) (rows2:List AO) (hc:HC P n0 f args0 rows0 v1 rows1) (hk:(zso s r z n0 rows2).nfK λs=>K v2 s)
  (hrows:zgA s.h z r rows0 r:=by((repeat' first|exact zT|refine zA ?_ ?_)<;>(conv=>whnf)<;>(repeat' first|exact zT|exact rfl|refine zA ?_ ?_)<;>(first|rfl|(intro _ _;rfl)|omega|(first|exact Or.inr ⟨rfl,rfl⟩|exact Or.inr ⟨rfl,yyY (λ_=>rfl) _⟩|(refine Or.inl ⟨rfl,?_⟩;(conv=>whnf);(repeat' first|exact zT|exact rfl|refine zA ?_ ?_)<;>(try(conv=>whnf))<;>(repeat' first|exact zT|exact rfl|refine zA ?_ ?_)<;>(first|rfl|(intro _ _;rfl)|omega)))))) (hargs:named.nameds r.length args0=true/\Wvl s.h z (rn r) args0 args:=by((repeat' first|exact zT|exact rfl|refine zA ?_ ?_)<;>(try(conv=>whnf))<;>(repeat' first|exact zT|exact rfl|exact Ex.zwg rfl|(intro _ _;rfl)|refine zA ?_ ?_))) (hv:Rn (rho r n0 s.n) v1 v2/\rows2.length=rows1.length/\zkz (rho r n0 s.n) rows1 rows2:=by((repeat' first|exact zT|exact rfl|refine zA ?_ ?_)<;>(try(conv=>whnf))<;>(repeat' first|exact zT|exact rfl|refine zA ?_ ?_)<;>(first|exact rfl|exact Or.inr ⟨rfl,rfl⟩|exact Or.inr ⟨rfl,yyY (λ_=>rfl) _⟩|(refine Or.inl ?_;(repeat' first|exact zT|exact rfl|refine zA ?_ ?_)<;>(try(conv=>whnf))<;>(repeat' first|exact zT|exact rfl|refine zA ?_ ?_)))))
  (hap:(match zck z r with|true=>Nat.ble n0 r.length|false=>false)=true:=by rfl):KCall P f args s K:=KCall.lift r z v2 rows2 hc hap hrows hargs hv hk
end Go.Ex
abbrev yaX:=@Go.Ex.KCall.pure
abbrev ydX:=@Go.Ex.zwg
abbrev ytX:=@Go.Ex.PureC.of
abbrev yxX:=@Go.Ex.DCall.pure
abbrev yFX:=@Go.Ex.WLoop.inv
abbrev yPX:=@Go.Ex.KIf.dec
abbrev yaY:=@Go.Ex.Nat.forceK_ok
abbrev yDY:=@Go.Ex.St.nfK_ok
abbrev yKY:=@Go.Ex.EqK.of
abbrev yLY:=@Go.Ex.Weak.of
abbrev yaZ:=@Go.Ex.AV.forceK_ok
abbrev yjZ:=@Go.Ex.Wv.list
abbrev ynZ:=@Go.Ex.zmJ
abbrev yzZ:=@Go.Ex.Wz.ownS
abbrev yRZ:=@Go.Ex.Tm.putK_ok
