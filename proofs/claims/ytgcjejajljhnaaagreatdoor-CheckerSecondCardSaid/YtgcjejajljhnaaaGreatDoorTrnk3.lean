/- Own text, part Trnk 3: walks of the package acl and of its reference, and the plain laws that they lean on; no statement of the seat is here. -/
import Derived.Test.YtgcjejajljhnaaaGreatDoorTrnk2
import Derived.Lib.Hide
import Derived.Test.YtgcjejajljhnaaaGreatDoorChecked
set_option linter.all false
namespace Go.Ex
open Go
abbrev KC :=AV→St→Prop
structure KIf (b:Bool) (p q:Prop):Prop where
 intro::
 h1:b=true→p
 h2:b=false→q
theorem KIf.mk {b:Bool} {p q:Prop} (h1:b=true→p) (h2:b=false→q):KIf b p q:=⟨h1,h2⟩
theorem KIf.t {b:Bool} {p q:Prop} (hb:b=true) (h:p):KIf b p q:=⟨fun _=>h,fun e=>by rw[hb] at e;cases e⟩
theorem KIf.f {b:Bool} {p q:Prop} (hb:b=false) (h:q):KIf b p q:=⟨fun e=>(by rw[hb] at e;cases e),fun _=>h⟩
theorem KIf.ok {b:Bool} {p q:Prop} (h:KIf b p q):(b=true→p)∧(b=false→q):=⟨h.h1,h.h2⟩
theorem KIf.tt {p q:Prop} (h:KIf true p q):p:=h.ok.1 rfl
theorem KIf.ff {p q:Prop} (h:KIf false p q):q:=h.ok.2 rfl
theorem KIf.dec {P:Prop} [Decidable P] {p q:Prop} (h1:P→p) (h2:¬P→q):KIf (decide P) p q:=KIf.mk (fun h=>h1 (of_decide_eq_true h)) fun h=>h2 (of_decide_eq_false h)
theorem KIf.dt {P:Prop} [Decidable P] {p q:Prop} (hb:P) (h:p):KIf (decide P) p q:=KIf.t (decide_eq_true hb) h
theorem KIf.df {P:Prop} [Decidable P] {p q:Prop} (hb:¬P) (h:q):KIf (decide P) p q:=KIf.f (decide_eq_false hb) h
structure NCase (n:Nat) (p q:Prop):Prop where
 intro::
 h1:n=0→p
 h2:n≠0→q
theorem NCase.zz {p q:Prop} (h:NCase 0 p q):p:=h.h1 rfl
theorem NCase.ss {n:Nat} {p q:Prop} (h:NCase (n+1) p q):q:=h.h2 (by simp)
theorem NCase.s {n:Nat} {p q:Prop} (hn:n≠0) (h:q):NCase n p q:=⟨fun e=>absurd e hn,fun _=>h⟩
structure Need (p q:Prop):Prop where
 a:p
 b:q
def Small (n:Int):Prop:= -9223372036854775808≤n∧n≤9223372036854775807
def T.putEK {α:Type}:Nat→Nat→Option α→(T α→Prop)→Prop
 |0,_,_,K=>K .e
 |d+1,k,x,K=>match k with
  |0=>K (.n .e x .e)
  |k+1=>match Nat.beq (Nat.mod k 2) 0 with
   |true=>T.putEK d (Nat.div k 2) x fun l=>K (.n l none .e)
   |false=>T.putEK d (Nat.div k 2) x fun r=>K (.n .e none r)
theorem T.putEK_ok {α:Type}:∀(d:Nat) (k:Nat) (x:Option α) (K:T α→Prop),T.putEK d k x K→K (T.putE d k x)
 |0,k,x,K,h=>h
 |d+1,0,x,K,h=>h
 |d+1,k+1,x,K,h=>by
  unfold T.putEK at h;simp only at h;show K (match Nat.beq (Nat.mod k 2) 0 with|true=> .n (T.putE d (Nat.div k 2) x) none .e|false=> .n .e none (T.putE d (Nat.div k 2) x));split at h
  ·exact T.putEK_ok d _ x _ h
  ·exact T.putEK_ok d _ x _ h
def T.putK {α:Type}:T α→Nat→Option α→(T α→Prop)→Prop
 | .e,k,x,K=>T.putEK (Nat.succ k) k x K
 | .n l v r,k,x,K=>match k with
  |0=>K (.n l x r)
  |k+1=>match Nat.beq (Nat.mod k 2) 0 with
   |true=>T.putK l (Nat.div k 2) x fun l=>K (.n l v r)
   |false=>T.putK r (Nat.div k 2) x fun r=>K (.n l v r)
 | .f a b g t,k,x,K=>match inR a b k with
  |true=>K (.f a b (updF g (Nat.sub k a) x) t)
  |false=>T.putK t k x fun t=>K (.f a b g t)
theorem T.putK_ok {α:Type}:∀(t:T α) (k:Nat) (x:Option α) (K:T α→Prop),T.putK t k x K→K (T.put t k x)
 | .e,k,x,K,h=>T.putEK_ok _ _ _ K h
 | .n l v r,0,x,K,h=>h
 | .n l v r,k+1,x,K,h=>by
  unfold T.putK at h;simp only at h;show K (match Nat.beq (Nat.mod k 2) 0 with|true=> .n (T.put l (Nat.div k 2) x) v r|false=> .n l v (T.put r (Nat.div k 2) x));split at h
  ·exact T.putK_ok l _ x _ h
  ·exact T.putK_ok r _ x _ h
 | .f a b g t,k,x,K,h=>by
  unfold T.putK at h;show K (match inR a b k with|true=> .f a b (updF g (Nat.sub k a) x) t|false=> .f a b g (T.put t k x));split at h
  ·exact h
  ·exact T.putK_ok t k x (fun t=>K (.f a b g t)) h
def Tm.putK (t:Tm) (d:Option Tmp) (v:AV) (K:Tm→Prop):Prop:=
 match d with
 |none=>K t
 |some d=>match t with
  |⟨t,n⟩=>match Nat.blt d n with
   |true=>T.putK t d (some v) fun t'=>K ⟨t',n⟩
   |false=>False
theorem Tm.putK_ok {t:Tm} {d:Option Tmp} {v:AV} {K:Tm→Prop} (h:t.putK d v K):∃t',t.put d v= .ok t'∧K t':=by
 obtain⟨t,n⟩:=t
 cases d with
 |none=>exact⟨_,rfl,h⟩
 |some d=>
  unfold Tm.putK at h;unfold Tm.put;simp only at h⊢;split at h
  ·rename_i hb;simp only[hb];exact⟨_,rfl,T.putK_ok _ _ _ (fun t'=>K ⟨t',n⟩) h⟩
  ·exact h.elim
def lits :List Nat:=[0,1,2,3,4,5,6,7,8,9,10,11,12,13,14,15,16,17,18,19,20,21,22,23,24,25,26,27,28,29,30,31,32,33,34,35,36,37,38,39,40,41,42,43,44,45,46,47,48,49,50,51,52,53,54,55,56,57,58,59,60,61,62,63,64,65,66,67,68,69,70,71,72,73,74,75,76,77,78,79,80,81,82,83,84,85,86,87,88,89,90,91,92,93,94,95,96,97,98,99,100,101,102,103,104,105,106,107,108,109,110,111,112,113,114,115,116,117,118,119,120,121,122,123,124,125,126,127,128,129,130,131,132,133,134,135,136,137,138,139,140,141,142,143,144,145,146,147,148,149,150,151,152,153,154,155,156,157,158,159,160,161,162,163,164,165,166,167,168,169,170,171,172,173,174,175,176,177,178,179,180,181,182,183,184,185,186,187,188,189,190,191,192,193,194,195,196,197,198,199,200,201,202,203,204,205,206,207,208,209,210,211,212,213,214,215,216,217,218,219,220,221,222,223,224,225,226,227,228,229,230,231,232,233,234,235,236,237,238,239,240,241,242,243,244,245,246,247,248,249,250,251,252,253,254,255,256,257,258,259,260,261,262,263,264,265,266,267,268,269,270,271,272,273,274,275,276,277,278,279,280,281,282,283,284,285,286,287,288,289,290,291,292,293,294,295,296,297,298,299,300,301,302,303,304,305,306,307,308,309,310,311,312,313,314,315,316,317,318,319,320,321,322,323,324,325,326,327,328,329,330,331,332,333,334,335,336,337,338,339,340,341,342,343,344,345,346,347,348,349,350,351,352,353,354,355,356,357,358,359,360,361,362,363,364,365,366,367,368,369,370,371,372,373,374,375,376,377,378,379,380,381,382,383,384,385,386,387,388,389,390,391,392,393,394,395,396,397,398,399,400,401,402,403,404,405,406,407,408,409,410,411,412,413,414,415,416,417,418,419,420,421,422,423,424,425,426,427,428,429,430,431,432,433,434,435,436,437,438,439,440,441,442,443,444,445,446,447,448,449]
theorem zmD :∀n b,nth lits n=some b→b=n:=by
 have h:(List.range 450).all (fun n=>nth lits n==some n)=true:=by decide+kernel
 intro n b hb;by_cases hn:n<450
 ·have:=List.all_eq_true.1 h n (by simpa using hn);rw[beq_iff_eq] at this;rw[this] at hb;cases hb;rfl
 ·rw[za3,List.getElem?_eq_none (by have:lits.length=450:=(by decide+kernel);omega)] at hb;cases hb
def Nat.forceK (n:Nat) (K:Nat→Prop):Prop:=match nth lits n with|some b=>K b|none=>K n
theorem Nat.forceK_ok {n:Nat} {K:Nat→Prop} (h:Nat.forceK n K):K n:=by
 unfold Nat.forceK at h;split at h
 ·rename_i b hb;rw[←zmD n b hb];exact h
 ·exact h
def AO.forceK (o:AO) (K:AO→Prop):Prop:=match o with| .row c e s=>Nat.forceK e fun e=>Nat.forceK s fun s=>K (.row c e s)| .iter s p=>K (.iter s p)
theorem AO.forceK_ok {o:AO} {K:AO→Prop} (h:o.forceK K):K o:=by
 cases o with
 |row c e s=>exact Nat.forceK_ok (K:=fun s=>K (.row c e s)) (Nat.forceK_ok (K:=fun e=>Nat.forceK s fun s=>K (.row c e s)) h)
 |iter s p=>exact h
def T.nfK :T AO→(T AO→Prop)→Prop
 | .e,K=>K .e
 | .n l v r,K=>T.nfK l fun l=>match v with
  |none=>T.nfK r fun r=>K (.n l none r)
  |some o=>o.forceK fun o=>T.nfK r fun r=>K (.n l (some o) r)
 | .f a b g t,K=>T.nfK t fun t=>K (.f a b g t)
theorem T.nfK_ok :∀(t:T AO) (K:T AO→Prop),t.nfK K→K t
 | .e,K,h=>h
 | .n l v r,K,h=>by
  have h1:=T.nfK_ok l _ h
  cases v with
  |none=>exact T.nfK_ok r _ h1
  |some o=>exact T.nfK_ok r _ (AO.forceK_ok h1)
 | .f a b g t,K,h=>T.nfK_ok t (fun t=>K (.f a b g t)) h
def St.nfK (s:St) (K:St→Prop):Prop:=match s with|⟨h,n⟩=>Nat.forceK n fun n=>T.nfK h fun h=>K ⟨h,n⟩
theorem St.nfK_ok {s:St} {K:St→Prop} (h:s.nfK K):K s:=T.nfK_ok s.h _ (Nat.forceK_ok (K:=fun n=>T.nfK s.h fun h=>K ⟨h,n⟩) h)
def Value.forceK (v:Value) (K:Value→Prop):Prop:=
 match v with
 | .int k n=>K (.int k n)
 | .bool b=>K (.bool b)
 | .string b=>match b with|⟨⟨l⟩⟩=>K (.string ⟨⟨l⟩⟩)
 | .slice a n c=>K (.slice a n c)
 | .pointer a=>K (.pointer a)
 | .agg l=>K (.agg l)
 | .tuple l=>K (.tuple l)
 |v=>K v
theorem Value.forceK_ok {v:Value} {K:Value→Prop} (h:Value.forceK v K):K v:=by
 cases v<;>exact h
def AV.forceK (v:AV) (K:AV→Prop):Prop:=
 match v with
 | .sc x=>Value.forceK x fun x=>K (.sc x)
 | .agg l=>K (.agg l)
 | .tup l=>K (.tup l)
 | .ptr b o=>K (.ptr b o)
 | .lst sz n f=>K (.lst sz n f)
 | .cp cs o=>K (.cp cs o)
 | .sl b o l c=>K (.sl b o l c)
 | .so b o l c=>K (.so b o l c)
 |v=>K v
theorem AV.forceK_ok {v:AV} {K:AV→Prop} (h:v.forceK K):K v:=by
 cases v with
 |sc x=>exact Value.forceK_ok (K:=fun x=>K (.sc x)) h
 |_=>exact h
def AV.forceB (v:AV) (K:AV→Prop):Prop:=
 match v with
 | .ptr b o=>Nat.forceK b fun b=>K (.ptr b o)
 | .sl b o l c=>Nat.forceK b fun b=>K (.sl b o l c)
 | .so b o l c=>Nat.forceK b fun b=>K (.so b o l c)
 |v=>v.forceK K
theorem AV.forceB_ok {v:AV} {K:AV→Prop} (h:v.forceB K):K v:=by
 cases v with
 |ptr b o=>exact Nat.forceK_ok (K:=fun b=>K (.ptr b o)) h
 |sl b o l c=>exact Nat.forceK_ok (K:=fun b=>K (.sl b o l c)) h
 |so b o l c=>exact Nat.forceK_ok (K:=fun b=>K (.so b o l c)) h
 |_=>exact AV.forceK_ok h
def zjF (s:St) (o:AO) (K:Nat→St→Prop):Prop:=match s with|⟨h,n⟩=>(⟨h.put n (some o),Nat.succ n⟩:St).nfK fun s'=>K n s'
theorem zdw {s:St} {o:AO} {K:Nat→St→Prop} (h:zjF s o K):K s.n (s.new o):=by
 obtain⟨h0,n0⟩:=s;exact St.nfK_ok (s:=⟨h0.put n0 (some o),Nat.succ n0⟩) (K:=fun s'=>K n0 s') h
def zmO (s:St) (b:Nat) (o:AO) (K:Nat→St→Prop):Prop:=match s with|⟨h,n⟩=>(⟨(h.put b none).put n (some o),Nat.succ n⟩:St).nfK fun s'=>K n s'
theorem zjE {s:St} {b:Nat} {o:AO} {K:Nat→St→Prop} (h:zmO s b o K):K s.n ⟨(s.h.put b none).put s.n (some o),Nat.succ s.n⟩:=by
 obtain⟨h0,n0⟩:=s;exact St.nfK_ok (s:=⟨(h0.put b none).put n0 (some o),Nat.succ n0⟩) (K:=fun s'=>K n0 s') h
def NxK (P:Program) (s:St) (K:KC):Nx→Prop
 | .val v s'=>K v s'
 | .enter f args=>∃v s',CallOk P f args s v s'∧s.n≤s'.n∧K v s'
def OpDoes (P:Program) (t:Tm) (s:St) (o:Oper) (K:KC):Prop:=∃nx,zaZ P t s o= .ok nx∧NxK P s K nx
structure KCall (P:Program) (f:FuncId) (args:List AV) (s:St) (K:KC):Prop where
 h:∃v s',CallOk P f args s v s'∧s.n≤s'.n∧K v s'
def RK {α:Type} (r:R α) (K:α→Prop):Prop:=match r with| .ok a=>K a| .no _=>False
theorem zbm {α:Type} {r:R α} {K:α→Prop} (h:RK r K):∃a,r= .ok a∧K a:=by
 cases r with
 |ok a=>exact⟨a,rfl,h⟩
 |no _=>exact h.elim
def genK (P:Program) (t:Tm) (s:St) (o:Oper) (K:KC):Prop:=
 match zaZ P t s o with
 | .ok (.val v s')=>v.forceK fun v=>K v s'
 | .ok (.enter f args)=>KCall P f args s K
 | .no _=>False
theorem zdv {P:Program} {t:Tm} {s:St} {o:Oper} {K:KC} (h:genK P t s o K):OpDoes P t s o K:=by
 unfold genK at h;split at h
 ·rename_i hop;exact⟨_,hop,AV.forceK_ok h⟩
 ·rename_i hop;exact⟨_,hop,h.h⟩
 ·exact h.elim
def genS (P:Program) (t:Tm) (s:St) (o:Oper) (K:KC):Prop:=genK P t s o fun v s'=>s'.nfK fun s'=>K v s'
def genB (P:Program) (t:Tm) (s:St) (o:Oper) (K:KC):Prop:=
 match zaZ P t s o with
 | .ok (.val v s')=>v.forceB fun v=>s'.nfK fun s'=>K v s'
 | .ok (.enter f args)=>KCall P f args s K
 | .no _=>False
theorem genB_ok {P:Program} {t:Tm} {s:St} {o:Oper} {K:KC} (h:genB P t s o K):OpDoes P t s o K:=by
 unfold genB at h;split at h
 ·rename_i v s' hop;exact⟨_,hop,St.nfK_ok (K:=fun s'=>K v s') (AV.forceB_ok (K:=fun v=>s'.nfK fun s'=>K v s') h)⟩
 ·rename_i hop;exact⟨_,hop,h.h⟩
 ·exact h.elim
theorem OpDoes.mono {P:Program} {t:Tm} {s:St} {o:Oper} {K K':KC} (h:OpDoes P t s o K) (hk:∀v s',K v s'→K' v s'):OpDoes P t s o K':=by
 obtain⟨nx,h1,h2⟩:=h;refine⟨nx,h1,?_⟩
 cases nx with
 |val v s'=>exact hk _ _ h2
 |enter f args=>obtain⟨v,s',h3,h4,h5⟩:=h2;exact⟨v,s',h3,h4,hk _ _ h5⟩
theorem zc1 {P:Program} {t:Tm} {s:St} {o:Oper} {K:KC} (h:genS P t s o K):OpDoes P t s o K:=(zdv h).mono fun _ _ h=>St.nfK_ok h
def zlS (k:IntKind) (n:Int):Int:=k.wrap n
def ze1 (op:BinOp) (k:IntKind) (a b:Int):Int:=
 k.wrap ((match op with
  | .and=>BitVec.ofInt k.bits a&&&BitVec.ofInt k.bits b
  | .or=>BitVec.ofInt k.bits a|||BitVec.ofInt k.bits b
  | .xor=>BitVec.ofInt k.bits a^^^BitVec.ofInt k.bits b
  |_=>BitVec.ofInt k.bits a&&& ~~~BitVec.ofInt k.bits b).toNat:Nat)
def shlZ (k:IntKind) (a b:Int):Int:=k.wrap (a*2^min b.toNat k.bits)
def shrZ (k:IntKind) (a b:Int):Int:=a.fdiv (2^min b.toNat k.bits)
def zkl (op:BinOp) (k:IntKind) (a b:Int) (s:St) (K:KC):Prop:=
 match op with
 | .add=>match k with| .i64=>Need (Small (a+b)) (K (.sc (.int .i64 (a+b))) s)|k=>K (.sc (.int k (zlS k (a+b)))) s
 | .sub=>match k with| .i64=>Need (Small (a-b)) (K (.sc (.int .i64 (a-b))) s)|k=>K (.sc (.int k (zlS k (a-b)))) s
 | .mul=>match k with| .i64=>Need (Small (a*b)) (K (.sc (.int .i64 (a*b))) s)|k=>K (.sc (.int k (zlS k (a*b)))) s
 | .quo=>match k with| .i64=>Need (b≠0∧Small (a.tdiv b)) (K (.sc (.int .i64 (a.tdiv b))) s)|k=>Need (b≠0) (K (.sc (.int k (zlS k (a.tdiv b)))) s)
 | .rem=>Need (b≠0) (K (.sc (.int k (a.tmod b))) s)
 | .and=>K (.sc (.int k (ze1 .and k a b))) s
 | .or=>K (.sc (.int k (ze1 .or k a b))) s
 | .xor=>K (.sc (.int k (ze1 .xor k a b))) s
 | .andNot=>K (.sc (.int k (ze1 .andNot k a b))) s
 | .shl=>Need (0≤b) (K (.sc (.int k (shlZ k a b))) s)
 | .shr=>Need (0≤b) (K (.sc (.int k (shrZ k a b))) s)
 | .eql=>K (.sc (.bool (decide (a=b)))) s
 | .neq=>K (.sc (.bool (!decide (a=b)))) s
 | .lss=>K (.sc (.bool (decide (a<b)))) s
 | .leq=>K (.sc (.bool (decide (a≤b)))) s
 | .gtr=>K (.sc (.bool (decide (b<a)))) s
 | .geq=>K (.sc (.bool (decide (b≤a)))) s
def zgD (P:Program) (t:Tm) (s:St) (o:Oper) (K:KC):Prop:=
 match zaM P t s o with
 | .ok (.val v s')=>v.forceK fun v=>K v s'
 |_=>False
theorem zgC {P:Program} {t:Tm} {s:St} {o:Oper} {K:KC} (h:zgD P t s o K):∃nx,zaM P t s o= .ok nx∧NxK P s K nx:=by
 unfold zgD at h;split at h
 ·rename_i hop;exact⟨_,hop,AV.forceK_ok h⟩
 ·exact h.elim
structure EqK (P:Program) (T:TypeId) (x y:List AV) (K:Bool→Prop):Prop where
 intro::
 h:RK (eqO P T (.agg x) (.agg y)) K
theorem EqK.of {P:Program} {T:TypeId} {x y:List AV} {K:Bool→Prop} {b:Bool} (h:eqO P T (.agg x) (.agg y)= .ok b) (hk:K b):EqK P T x y K:=⟨by rw[h];exact hk⟩
def eqRK (P:Program) (T:TypeId) (x y:AV) (K:Bool→Prop):Prop:=
 match x with
 | .agg l=>match y with
  | .agg l'=>EqK P T l l' K
  |_=>RK (eqO P T x y) K
 |_=>RK (eqO P T x y) K
theorem zmS {P:Program} {T:TypeId} {x y:AV} {K:Bool→Prop} (h:eqRK P T x y K):RK (eqO P T x y) K:=by
 unfold eqRK at h;split at h
 ·split at h
  ·exact h.h
  ·exact h
 ·exact h
def eqK (P:Program) (T:TypeId) (op:BinOp) (x y:AV) (s:St) (K:KC) (other:Prop):Prop:=
 match op with
 | .eql=>eqRK P T x y fun b=>K (.sc (.bool b)) s
 | .neq=>eqRK P T x y fun b=>K (.sc (.bool (!b))) s
 |_=>other
def binK (P:Program) (t:Tm) (s:St) (o:Oper) (op:BinOp) (T:TypeId) (x y:AV) (K:KC):Prop:=
 match x with
 | .sc (.int k a)=>match y with
  | .sc (.int k' b)=>(match op with
   | .shl=>Need (0≤b) (K (.sc (.int k (shlZ k a b))) s)
   | .shr=>Need (0≤b) (K (.sc (.int k (shrZ k a b))) s)
   |_=>match sameKind k k' with|true=>zkl op k a b s K|false=>zgD P t s o K)
  |_=>zgD P t s o K
 | .sc (.string ⟨⟨a⟩⟩)=>match y with
  | .sc (.string ⟨⟨b⟩⟩)=>(match op with
   | .add=>Need (a.length+b.length≤9223372036854775807) (K (.sc (.string ⟨⟨a++b⟩⟩)) s)
   |_=>eqK P T op x y s K (zgD P t s o K))
  |_=>False
 |_=>eqK P T op x y s K (zgD P t s o K)
def unK (P:Program) (t:Tm) (s:St) (o:Oper) (op:UnOp) (x:AV) (K:KC):Prop:=
 match op with
 | .not=>match x with| .sc (.bool b)=>K (.sc (.bool (!b))) s|_=>genK P t s o K
 |_=>genK P t s o K
def zok (P:Program) (t:Tm) (s:St) (o:Oper) (c a b:AV) (K:KC):Prop:=
 match c with| .sc (.bool k)=>KIf k (a.forceK fun a=>K a s) (b.forceK fun b=>K b s)|_=>False
def gd {α:Type} (o:α) (l:List α) (i:Nat):α:=l[i]?.getD o
def zfj (v:AV) (K:Int→Prop):Prop:=match v with| .sc (.int _ n)=>K n|_=>False
def zhL (P:Program) (t:TypeId):R Nat:=bd (ty P t) fun d=>match d.d with| .slice e=>bd (ty P e) fun j=> .ok j.size|_=> .no "slice"
def idxK (P:Program) (t:Tm) (s:St) (o:Oper) (T:TypeId) (x i:AV) (K:KC):Prop:=
 match x with
 | .lst sz n f=>zfj i fun j=>Need (0≤j∧j<n) (RK (zhL P T) fun z=>match Nat.beq sz z with|true=>K (.cp (f j.toNat) 0) s|false=>False)
 | .sl b off n _=>zfj i fun j=>Need (0≤j∧j<n) (RK (zhL P T) fun z=>Nat.forceK z fun z=>K (.ptr b (off+j.toNat*z)) s)
 | .so b off n _=>zfj i fun j=>Need (0≤j∧j<n) (RK (zhL P T) fun z=>Nat.forceK z fun z=>K (.ptr b (off+j.toNat*z)) s)
 |_=>genK P t s o K
def isStr (P:Program) (T:TypeId):R Unit:=bd (ty P T) fun d=>match d.d with| .string=> .ok ()|_=> .no "string"
def chrK (P:Program) (t:Tm) (s:St) (o:Oper) (T:TypeId) (x i:AV) (K:KC):Prop:=
 match x with
 | .sc (.string ⟨⟨l⟩⟩)=>zfj i fun j=>Need (0≤j∧j<l.length) (RK (isStr P T) fun _=>K (.sc (.int .u8 ((gd 0 l j.toNat).toNat:Int))) s)
 |_=>genK P t s o K
def lenK (P:Program) (t:Tm) (s:St) (o:Oper) (ts:List TypeId) (args:List AV) (K:KC):Prop:=
 match args with
 |[.sc (.string ⟨⟨l⟩⟩)]=>match ts with
  |[T]=>RK (isStr P T) fun _=>K (.sc (.int .i64 (l.length:Int))) s
  |_=>False
 |_=>genK P t s o K
def zha (n:Nat) (lo hi:Option AV) (K:Nat→Nat→Prop):Prop:=
 match hi with
 |none=>match lo with
  |none=>K 0 n
  |some l=>zfj l fun l=>Need (0≤l∧l≤n) (K l.toNat n)
 |some h=>zfj h fun h=>Need (0≤h∧h≤n) (match lo with
  |none=>K 0 h.toNat
  |some l=>zfj l fun l=>Need (0≤l∧l≤h) (K l.toNat h.toNat))
def elemTy (P:Program) (T:TypeId):R (TypeId×Nat):=bd (ty P T) fun i=>match i.d with| .slice e=>bd (ty P e) fun j=> .ok (e,j.size)|_=> .no ""
def cutK (s:St) (e:TypeId) (z b off len start l h:Nat) (K:KC):Prop:=
 match l with
 |0=>K (.so b off h start) s
 |l+1=>KIf (Nat.blt (Nat.succ l) len) (K (.so b (off+(Nat.succ l)*z) (h-(Nat.succ l)) (start+(Nat.succ l))) s) (RK (rowAt s b) fun o=>Need (off=start*z∧o.1.length=off+len*z∧o.2.2=z∧o.2.1=e)
   (zmO s b (.row [] e z) fun n s'=>K (.so n 0 0 0) s'))
def zmd (P:Program) (t:Tm) (s:St) (o:Oper) (T:TypeId) (x:AV) (lo hi mx:Option AV) (K:KC):Prop:=
 match x with
 | .sc (.string ⟨⟨L⟩⟩)=>match mx with
  |none=>RK (isStr P T) fun _=>zha L.length lo hi fun l h=>K (.sc (.string ⟨⟨(L.drop l).take (h-l)⟩⟩)) s
  |some _=>False
 | .sc (.slice (some a) _ c)=>match lo with
  |none=>match hi with
   |some h=>match mx with
    |some m=>zfj h fun h=>zfj m fun m=>Need (0≤h∧h≤m∧m≤c) (RK (zhL P T) fun _=>K (.sc (.slice (some a) h.toNat m.toNat)) s)
    |none=>False
   |none=>False
  |some _=>False
 | .lst sz n f=>match mx with
  |none=>RK (zhL P T) fun z=>match Nat.beq sz z with|true=>zha n lo hi fun l h=>K (.lst sz (h-l) fun i=>f (l+i)) s|false=>False
  |some _=>genS P t s o K
 | .so b off len start=>match mx with
  |none=>RK (elemTy P T) fun q=>match q with|(e,z)=>Nat.forceK z fun z=>zha len lo hi fun l h=>Nat.forceK l fun l=>cutK s e z b off len start l h K
  |some _=>genS P t s o K
 |_=>genS P t s o K
def zoc (P:Program) (tx ty':TypeId) (y:AV):R (TypeId×Ty):=
 bd (ty P tx) fun i=>bd (ziK i.d) fun e=>bd (ty P e) fun i=>iff' (Nat.blt 0 i.size) (
 bd (ofO i.zero) fun z=>iff' (Nat.beq z.cells.size i.size&&zl6 i.size y) (
 bd (ty P ty') fun j=>iff' (seqD j.d) (.ok (e,i))))
def zgl (s:St) (size:Nat) (y:AV) (K:Nat→List AV→Prop):Prop:=
 match y with
 | .lst sz n f=>match Nat.beq sz size with|true=>Need (∀i,i<n→zbs (f i)=true) (K n ((List.range n).flatMap f))|false=>False
 | .sc (.string ⟨⟨l⟩⟩)=>K l.length (l.map zbk)
 | .sc (.slice none 0 0)=>K 0 []
 |y=>RK (source s size y) fun r=>match r with|(n,cs)=>Need (zbs cs=true) (K n cs)
def zoN (s:St) (e:TypeId) (size bytes need:Nat) (cs:List AV) (K:KC):Prop:=Need (need*bytes≤2^47∧need≤2^60) (zjF s (.row cs e size) fun n s'=>K (.so n 0 need 0) s')
def appK (s:St) (e:TypeId) (sz bytes:Nat) (x:AV) (n:Nat) (cs:List AV) (K:KC):Prop:=
 match x with
 | .sc (.slice none 0 0)=>NCase n (K x s) (zoN s e sz bytes n cs K)
 | .lst 0 0 _=>NCase n (K x s) (zoN s e sz bytes n cs K)
 | .sl b off len cap=>Need ((len+n)*bytes≤2^47∧len+n≤2^60) (KIf (Nat.ble (len+n) cap)
   (RK (zcd s b (off+len*sz) cs) fun s'=>s'.nfK fun s'=>K (.sl b off (len+n) cap) s')
   (RK (zeQ s b off (len*sz)) fun old=>zjF s (.row (old++cs) e sz) fun k s'=>K (.so k 0 (len+n) 0) s'))
 | .so b off len start=>NCase n (K x s) (Need ((len+n)*bytes≤2^47∧len+n≤2^60) (
   Need (off=start*sz) (RK (rowAt s b) fun o=>match Nat.beq o.2.2 sz with
    |true=>match Nat.beq o.2.1 e with
     |true=>Need (o.1.length=off+len*sz) (zmO s b (.row (o.1.drop off++cs) e sz) fun k s'=>K (.so k 0 (len+n) 0) s')
     |false=>False
    |false=>False)))
 |_=>False
def zkE (P:Program) (s:St) (ts:List TypeId) (args:List AV) (K:KC):Prop:=
 match ts with
 |[tx,ty']=>match args with
  |[x,y]=>RK (zoc P tx ty' y) fun q=>match q with|(e,i)=>Nat.forceK i.size fun sz=>Nat.forceK i.bytes fun bytes=>zgl s sz y fun n cs=>appK s e sz bytes x n cs K
  |_=>False
 |_=>False
def zon (P:Program) (s:St) (T:TypeId) (l c:AV) (K:KC):Prop:=
 RK (ty P T) fun i=>RK (ziK i.d) fun e=>RK (ty P e) fun j=>RK (ofO j.zero) fun z=>match Nat.beq z.cells.size j.size with
 |true=>zfj l fun l=>zfj c fun c=>Nat.forceK j.bytes fun bytes=>Need (0≤l∧l≤c∧c.toNat*bytes≤2^47∧c≤2^60) (zjF s (.row (zeros c.toNat z) e 0) fun k s'=>K (.sl k 0 l.toNat c.toNat) s')
 |false=>False
section
variable {P : Program} {t : Tm} {s : St} {o : Oper} {K : KC}
theorem zbG {v:AV} {K:Int→Prop} (h:zfj v K):∃k n,v= .sc (.int k n)∧K n:=by
 unfold zfj at h;split at h
 ·exact⟨_,_,rfl,h⟩
 ·exact h.elim
theorem zbt {k:IntKind} {n:Int} (h:0≤n):zjj (.sc (.int k n))= .ok n.toNat:=by
 cases n with
 |ofNat n=>rfl
 |negSucc n=>omega
theorem zdy {T:TypeId} {z:Nat} (h:zhL P T= .ok z):∃d e j,ty P T= .ok d∧d.d= .slice e∧ty P e= .ok j∧j.size=z:=by
 obtain⟨d,hd,h⟩:=zag h;split at h
 ·rename_i e he;obtain⟨j,hj,h⟩:=zag h;cases h;exact⟨d,e,j,hd,he,hj,rfl⟩
 ·cases h
theorem ziu {T:TypeId} {u:Unit} (h:isStr P T= .ok u):∃d,ty P T= .ok d∧d.d= .string:=by
 obtain⟨d,hd,h⟩:=zag h;split at h
 ·rename_i he;exact⟨d,hd,he⟩
 ·cases h
theorem zd4 {a b:Nat} (h:a<b):Nat.blt a b=true:=Nat.ble_eq_true_of_le h
theorem zcP {a b:Nat} (h:a≤b):Nat.ble a b=true:=Nat.ble_eq_true_of_le h
theorem OpDoes.val {v:AV} {s':St} (h:zaZ P t s o= .ok (.val v s')) (hk:K v s'):OpDoes P t s o K:=⟨_,h,hk⟩
theorem idxK_ok {T:TypeId} {x i:Operand} (ho:o.op= .indexAddr T x i) (h:idxK P t s o T (ev t x) (ev t i) K):OpDoes P t s o K:=by
 have e0:zaZ P t s o=zcb P s T (ev t x) (ev t i):=by unfold zaZ comp;rw[ho]
 unfold idxK at h;split at h
 ·rename_i sz n f hx;obtain⟨k,j,hi,hj,h⟩:=zbG h;obtain⟨z,hz,h⟩:=zbm h;obtain⟨d,e,j',hd,he,hj',rfl⟩:=zdy hz;split at h
  ·rename_i hb;refine .val (s':=s) ?_ h;rw[e0,hx,hi];unfold zcb;rw[zbt hj.1,hd];simp only[bd,zjw,he,hj',iff',zd4 (show j.toNat<n by omega),hb]
  ·exact h.elim
 ·rename_i b off n c hx;obtain⟨k,j,hi,hj,h⟩:=zbG h;obtain⟨z,hz,h⟩:=zbm h;have h:=Nat.forceK_ok h;obtain⟨d,e,j',hd,he,hj',rfl⟩:=zdy hz;refine .val (s':=s) ?_ h;rw[e0,hx,hi];unfold zcb;rw[zbt hj.1,hd];simp only[bd,zjw,he,hj',iff',zd4 (show j.toNat<n by omega)]
 ·rename_i b off n c hx;obtain⟨k,j,hi,hj,h⟩:=zbG h;obtain⟨z,hz,h⟩:=zbm h;have h:=Nat.forceK_ok h;obtain⟨d,e,j',hd,he,hj',rfl⟩:=zdy hz;refine .val (s':=s) ?_ h;rw[e0,hx,hi];unfold zcb;rw[zbt hj.1,hd];simp only[bd,zjw,he,hj',iff',zd4 (show j.toNat<n by omega)]
 ·exact zdv h
theorem chrK_ok {T:TypeId} {x i:Operand} (ho:o.op= .index T x i) (h:chrK P t s o T (ev t x) (ev t i) K):OpDoes P t s o K:=by
 have e0:zaZ P t s o=zlo P s T (ev t x) (ev t i):=by unfold zaZ comp;rw[ho]
 unfold chrK at h;split at h
 ·rename_i l hx;obtain⟨k,j,hi,hj,h⟩:=zbG h;obtain⟨u,hu,h⟩:=zbm h;obtain⟨d,hd,he⟩:=ziu hu;refine .val (s':=s) ?_ h;rw[e0,hx,hi];unfold zlo;rw[zbt hj.1]
  have hlt:j.toNat<l.length:=by omega
  simp only[bd,hd,he,zox,za3,List.getElem?_eq_getElem hlt,ofO,ret,zbk,gd,Option.getD_some]
 ·exact zdv h
theorem lenK_ok {c:Call} (ho:o.op= .call c) (hc:c.callee= .builtin .len) (h:lenK P t s o c.argTypes.toList (evs t c.args.toList) K):OpDoes P t s o K:=by
 unfold lenK at h;split at h
 ·rename_i l hx;split at h
  ·rename_i T hT;obtain⟨u,hu,h⟩:=zbm h;obtain⟨d,hd,he⟩:=ziu hu;refine .val (s':=s) ?_ h;unfold zaZ comp;rw[ho];simp only[zhk,hc,zdT,hT,hx,lenB,bd,hd,he];rfl
  ·exact h.elim
 ·exact zdv h
theorem zfC {n:Nat} {lo hi:Option AV} {K:Nat→Nat→Prop} (h:zha n lo hi K) (c:Nat) (hc:n≤c):∃l h',bounds n c lo hi none= .ok (l,h',c)∧l≤h'∧h'≤n∧K l h':=by
 unfold zha at h
 cases hi with
 |none=>
  cases lo with
  |none=>exact⟨0,n,rfl,Nat.zero_le _,Nat.le_refl _,h⟩
  |some l=>
   obtain⟨k,j,rfl,hj,h⟩:=zbG h;refine⟨j.toNat,n,?_,by omega,Nat.le_refl _,h⟩;simp only[bounds,iff',bd,bound,zbt hj.1,zcP (show j.toNat≤n by omega)]
 |some hi=>
  obtain⟨k,j,rfl,hj,h⟩:=zbG h
  cases lo with
  |none=>
   refine⟨0,j.toNat,?_,Nat.zero_le _,by omega,h⟩;simp only[bounds,iff',bd,bound,zbt hj.1,zcP (show j.toNat≤c by omega)]
  |some l=>
   obtain⟨k',l',rfl,hl,h⟩:=zbG h;refine⟨l'.toNat,j.toNat,?_,by omega,by omega,h⟩;simp only[bounds,iff',bd,bound,zbt hj.1,zbt hl.1,zcP (show j.toNat≤c by omega),zcP (show l'.toNat≤j.toNat by omega)]
theorem sliceK_ok {T:TypeId} {x:Operand} {lo hi mx:Option Operand} (ho:o.op= .slice T x lo hi mx) (h:zmd P t s o T (ev t x) (evo t lo) (evo t hi) (evo t mx) K):OpDoes P t s o K:=by
 have e0:zaZ P t s o=retS (zd0 P s T (ev t x) (evo t lo) (evo t hi) (evo t mx)):=by unfold zaZ comp;rw[ho]
 unfold zmd at h;split at h
 ·rename_i L hx;split at h
  ·rename_i hm;obtain⟨u,hu,h⟩:=zbm h;obtain⟨d,hd,he⟩:=ziu hu;obtain⟨l,h',hb,h1,h2,h⟩:=zfC h L.length (Nat.le_refl _);refine .val (s':=s) ?_ h;have hb':bounds (ByteArray.mk ⟨L⟩).size (ByteArray.mk ⟨L⟩).size (evo t lo) (evo t hi) none= .ok (l,h',L.length):=hb;rw[e0,hx,hm];simp only[zd0,bd,hd,he,zkJ,hb',retS]
  ·exact h.elim
 ·rename_i a n c hx;split at h
  ·rename_i hlo;split at h
   ·rename_i vh hhi;split at h
    ·rename_i vm hmx;obtain⟨k1,j1,e1,h⟩:=zbG h;obtain⟨k2,j2,e2,⟨p1,p2,p3⟩,h⟩:=zbG h;obtain⟨z,hz,h⟩:=zbm h;obtain⟨d,e,j',hd,he,hj',_⟩:=zdy hz;refine .val (s':=s) ?_ h;subst e1 e2
     have hb:bounds n c none (some (.sc (.int k1 j1))) (some (.sc (.int k2 j2)))= .ok (0,j1.toNat,j2.toNat):=by
      simp only[bounds,iff',bd,bound,zbt (show 0≤j1 from p1),zbt (show 0≤j2 by omega),zcP (show j2.toNat≤c by omega),zcP (show j1.toNat≤j2.toNat by omega),zcP (show 0≤j1.toNat by omega)]
     rw[e0,hx,hlo,hhi,hmx];simp only[zd0,bd,hd,he,hj',zfK,hb,retS]
    ·exact h.elim
   ·exact h.elim
  ·exact h.elim
 ·rename_i sz n f hx;split at h
  ·rename_i hm;obtain⟨z,hz,h⟩:=zbm h;obtain⟨d,e,j',hd,he,hj',rfl⟩:=zdy hz;split at h
   ·rename_i hbq;obtain⟨l,h',hb,h1,h2,h⟩:=zfC h n (Nat.le_refl _);refine .val (s':=s) ?_ h;rw[e0,hx,hm];simp only[zd0,bd,hd,he,hj',zfK,hb,retS,iff',hbq,Option.isNone_none,Bool.and_self]
   ·exact h.elim
  ·exact zc1 h
 ·rename_i b off len start hx;split at h
  ·rename_i hm;obtain⟨⟨e,z⟩,hq,h⟩:=zbm h;obtain⟨i,hi,hq⟩:=zag hq;split at hq
   ·rename_i e' hd;obtain⟨j,hj,hq⟩:=zag hq;cases hq;have h:=Nat.forceK_ok h;obtain⟨l,h',hb,h1,h2,h⟩:=zfC h len (Nat.le_refl _);have h:=Nat.forceK_ok h
    cases l with
    |zero=>
     refine .val (s':=s) ?_ h;rw[e0,hx,hm];simp only[zd0,bd,hi,hd,hj,zfK,hb,retS,zfw]
    |succ l'=>
     obtain⟨h3,h4⟩:=KIf.ok h
     cases hlt:Nat.blt (l'+1) len with
     |true=>
      refine .val (s':=s) ?_ (h3 hlt);rw[e0,hx,hm];simp only[zd0,bd,hi,hd,hj,zfK,hb,retS,zfw,hlt]
     |false=>
      obtain⟨⟨oc,oe,oq⟩,ho2,h⟩:=zbm (h4 hlt);obtain⟨⟨p1,p2,p3,p4⟩,h⟩:=h;refine .val ?_ (zjE (K:=fun n s'=>K (.so n 0 0 0) s') h);rw[e0,hx,hm];simp only at p1 p2 p3 p4;subst p4
      have q1:Nat.beq off (start*j.size)=true:=by rw[p1];exact Nat.beq_refl _
      have q2:Nat.beq oc.length (off+len*j.size)=true:=by rw[p2];exact Nat.beq_refl _
      have q3:Nat.beq oq j.size=true:=by rw[p3];exact Nat.beq_refl _
      have q4:Nat.beq oe oe=true:=Nat.beq_refl _;simp only[zd0,bd,hi,hd,hj,zfK,hb,retS,zfw,hlt,ho2,iff',q1,q2,q3,q4,Bool.and_self]
   ·cases hq
  ·exact zc1 h
 ·exact zc1 h
theorem appSet_ok {tx ty':TypeId} {x y:AV} {q:TypeId×Ty} (h:zoc P tx ty' y= .ok q) {r:Nat×List AV} (hs:source s q.2.size y= .ok r) (ha:zbs r.2=true) {w:AV×St} (hw:zcC s q.1 q.2 x r= .ok w):ziT P s tx ty' x y= .ok w:=by
 obtain⟨i,hi,h⟩:=zag h;obtain⟨e,he,h⟩:=zag h;obtain⟨j,hj,h⟩:=zag h;obtain⟨h1,h⟩:=zap h;obtain⟨z,hz,h⟩:=zag h;obtain⟨h2,h⟩:=zap h;obtain⟨u,hu,h⟩:=zag h;obtain⟨h3,h⟩:=zap h;cases h;simp only at hs hw;unfold ziT;simp only[hi,he,hj,bd,h1,iff',hz,h2,hu,h3,hs,ha,hw]
theorem allOne_flat {f:Nat→List AV} {n:Nat} (h:∀i,i<n→zbs (f i)=true):zbs ((List.range n).flatMap f)=true:=by
 have app:∀{a b:List AV},zbs a=true→zbs b=true→zbs (a++b)=true:=by
  intro a b ha hb
  induction a with
  |nil=>exact hb
  |cons x l ih=>
   unfold zbs at ha;show zbs (x::(l++b))=true;unfold zbs;split at ha
   ·exact ih ha
   ·cases ha
 induction n with
 |zero=>rfl
 |succ n ih=>
  rw[List.range_succ,List.flatMap_append];exact app (ih fun i hi=>h i (by omega)) (by simpa using h n (by omega))
theorem allOne_bytes (l:List UInt8):zbs (l.map zbk)=true:=by
 induction l with
 |nil=>rfl
 |cons x l ih=>exact ih
theorem sourceK_ok {size:Nat} {y:AV} {K:Nat→List AV→Prop} (h:zgl s size y K):∃r,source s size y= .ok r∧zbs r.2=true∧K r.1 r.2:=by
 unfold zgl at h;split at h
 ·rename_i sz n f;split at h
  ·rename_i hb;obtain⟨h1,h2⟩:=h;exact⟨(n,(List.range n).flatMap f),by simp[source,hb,iff'],allOne_flat h1,h2⟩
  ·exact h.elim
 ·rename_i l;exact⟨(l.length,l.map zbk),rfl,allOne_bytes l,h⟩
 ·exact⟨(0,[]),rfl,rfl,h⟩
 ·obtain⟨⟨n,cs⟩,hr,h1,h2⟩:=zbm h;exact⟨(n,cs),hr,h1,h2⟩
theorem appK_ok {e:TypeId} {i:Ty} {x:AV} {r:Nat×List AV} (h:appK s e i.size i.bytes x r.1 r.2 K):∃w,zcC s e i x r= .ok w∧K w.1 w.2:=by
 obtain⟨n,cs⟩:=r;unfold appK at h;split at h
 ·cases n with
  |zero=>exact⟨(_,s),rfl,h.zz⟩
  |succ n=>
   obtain⟨⟨h1,h2⟩,h⟩:=h.ss;refine⟨(_,_),?_,zdw (K:=fun k s'=>K (.so k 0 (n+1) 0) s') h⟩;simp only[zcC,iff',decide_eq_true h1,decide_eq_true h2,Bool.and_self,grow];rfl
 ·cases n with
  |zero=>exact⟨(_,s),rfl,h.zz⟩
  |succ n=>
   obtain⟨⟨h1,h2⟩,h⟩:=h.ss;refine⟨(_,_),?_,zdw (K:=fun k s'=>K (.so k 0 (n+1) 0) s') h⟩;simp only[zcC,iff',decide_eq_true h1,decide_eq_true h2,Bool.and_self,grow];rfl
 ·rename_i b off len cap;obtain⟨⟨h1,h2⟩,h⟩:=h
  cases hb:Nat.ble (len+n) cap with
  |true=>
   rw[hb] at h;obtain⟨s',hs,h⟩:=zbm h.tt;refine⟨(_,_),?_,St.nfK_ok (K:=fun s'=>K _ s') h⟩;simp only[zcC,iff',decide_eq_true h1,decide_eq_true h2,Bool.and_self,hb,hs,bd]
  |false=>
   rw[hb] at h;obtain⟨old,hs,h⟩:=zbm h.ff;refine⟨(_,_),?_,zdw (K:=fun k s'=>K (.so k 0 (len+n) 0) s') h⟩;simp only[zcC,iff',decide_eq_true h1,decide_eq_true h2,Bool.and_self,hb,hs,bd,grow];rfl
 ·rename_i b off len start
  cases n with
  |zero=>exact⟨(_,s),rfl,h.zz⟩
  |succ n=>
   obtain⟨⟨h1,h2⟩,hoff,h⟩:=h.ss
   have hb:Nat.beq off (start*i.size)=true:=by rw[hoff];exact Nat.beq_refl _
   ·obtain⟨o,ho,h⟩:=zbm h;split at h
    ·rename_i hb2;split at h
     ·rename_i hb3;obtain⟨h3,h⟩:=h;refine⟨(_,_),?_,zjE (K:=fun k s'=>K (.so k 0 (len+(n+1)) 0) s') h⟩;simp only[zcC,iff',hb,decide_eq_true h1,decide_eq_true h2,Bool.and_self,ho,bd,hb2,hb3,h3,Nat.beq_refl]
     ·exact h.elim
    ·exact h.elim
 ·exact h.elim
theorem appendK_ok {c:Call} (ho:o.op= .call c) (hc:c.callee= .builtin .append) (h:zkE P s c.argTypes.toList (evs t c.args.toList) K):OpDoes P t s o K:=by
 unfold zkE at h;split at h
 ·rename_i tx ty' hT;split at h
  ·rename_i x y hx;obtain⟨⟨e,i⟩,hq,h⟩:=zbm h;have h:=Nat.forceK_ok (K:=fun sz=>Nat.forceK i.bytes fun bytes=>zgl s sz y fun n cs=>appK s e sz bytes x n cs K) h;have h:=Nat.forceK_ok (K:=fun bytes=>zgl s i.size y fun n cs=>appK s e i.size bytes x n cs K) h;obtain⟨r,hr,ha,h⟩:=sourceK_ok h;obtain⟨w,hw,h⟩:=appK_ok h;refine .val ?_ h;unfold zaZ comp;rw[ho];simp only[zhk,hc,zdT,hT,hx,appSet_ok hq hr ha hw,retS,bd]
  ·exact h.elim
 ·exact h.elim
theorem makeK_ok {T:TypeId} {l c:Operand} (ho:o.op= .makeSlice T l c) (h:zon P s T (ev t l) (ev t c) K):OpDoes P t s o K:=by
 have e0:zaZ P t s o=zdM P s T (ev t l) (ev t c):=by unfold zaZ comp;rw[ho]
 unfold zon at h;obtain⟨i,hi,h⟩:=zbm h;obtain⟨e,he,h⟩:=zbm h;obtain⟨j,hj,h⟩:=zbm h;obtain⟨z,hz,h⟩:=zbm h;split at h
 ·rename_i hb;obtain⟨k,l',hl,h⟩:=zbG h;obtain⟨k',c',hc,h⟩:=zbG h;obtain⟨⟨h1,h2,h3,h4⟩,h⟩:=Nat.forceK_ok h;refine .val ?_ (zdw (K:=fun k s'=>K (.sl k 0 l'.toNat c'.toNat) s') h);rw[e0,hl,hc];unfold zdM;simp only[hi,bd,he,hj,zbt h1,zbt (Int.le_trans h1 h2),iff',zcP (show l'.toNat≤c'.toNat by omega),zcP h3,zcP (show c'.toNat≤2^60 by omega),Bool.and_self,hz,hb]
 ·exact h.elim
end
end Go.Ex
namespace Go.Ex
open Go
def heapOp :Op→Bool
 | .alloc _| .box _ _| .buildSlice _ _ _| .store _ _ _| .convert _ _ _| .range _ _| .next _ _=>true
 |_=>false
def s2b (P:Program) (src dst:TypeId):R TypeId:=bd (ty P src) fun i=>bd (ty P dst) fun j=>match i.d with| .string=>(match j.d with| .slice e=>iff' (zcZ P e) (.ok e)|_=> .no "")|_=> .no ""
def i2i (P:Program) (src dst:TypeId):R IntKind:=bd (ty P src) fun i=>bd (ty P dst) fun j=>match i.d with| .int _=>(match j.d with| .int k=> .ok k|_=> .no "")|_=> .no ""
def b2s (P:Program) (src dst:TypeId):R Unit:=bd (ty P src) fun i=>bd (ty P dst) fun j=>match i.d with| .slice e=>(match j.d with| .string=>iff' (zcZ P e) (.ok ())|_=> .no "")|_=> .no ""
def strK (P:Program) (t:Tm) (s:St) (o:Oper) (src dst:TypeId) (b off len:Nat) (K:KC):Prop:=
 match b2s P src dst with
 | .ok _=>RK (zeQ s b off len) fun cs=>RK (bytesOf cs) fun bs=>K (.sc (.string ⟨⟨bs⟩⟩)) s
 | .no _=>genS P t s o K
def zov (P:Program) (t:Tm) (s:St) (o:Oper) (src dst:TypeId) (x:AV) (K:KC):Prop:=
 match x with
 | .sc (.string ⟨⟨l⟩⟩)=>match s2b P src dst with
  | .ok e=>Need (l.length≤2^47) (zjF s (.row (l.map zbk) e 1) fun k s'=>K (.so k 0 l.length 0) s')
  | .no _=>genS P t s o K
 | .sc (.int _ n)=>match i2i P src dst with
  | .ok k=>match k with| .i64=>Need (Small n) (K (.sc (.int .i64 n)) s)|k=>K (.sc (.int k (zlS k n))) s
  | .no _=>genS P t s o K
 | .sl b off len _=>strK P t s o src dst b off len K
 | .so b off len _=>strK P t s o src dst b off len K
 |_=>genS P t s o K
def zop (P:Program) (t:Tm) (s:St) (o:Oper) (T:TypeId) (x:AV) (K:KC):Prop:=
 match x with
 | .ptr b off=>RK (zct P s T b off) fun v=>v.forceK fun v=>K v s
 |_=>genK P t s o K
def boxK (s:St) (e:TypeId) (x:AV) (K:KC):Prop:=x.forceK fun x=>match boxA s e x with| .ok (.val v s')=>v.forceB fun v=>s'.nfK fun s'=>K v s'|_=>False
def zdZ (r:R Nx) (K:KC):Prop:=match r with| .ok (.val v s')=>s'.nfK fun s'=>K v s'|_=>False
def znI (P:Program) (t:Tm) (s:St) (o:Oper) (T:TypeId) (a x:AV) (K:KC):Prop:=x.forceK fun x=>zdZ (zcD P s T a x) K
def zm5 (P:Program) (s:St) (ts:List TypeId) (args:List AV) (K:KC):Prop:=
 match ts with
 |[t]=>match args with
  |[x]=>RK (zm4 P t) fun z=>RK (zjP s x z) fun s'=>s'.nfK fun s'=>K (.tup []) s'
  |_=>False
 |_=>False
def opK (P:Program) (t:Tm) (s:St) (o:Oper) (K:KC):Prop:=
 match o.op with
 | .binOp op T x y _=>binK P t s o op T (ev t x) (ev t y) K
 | .unOp op _ x=>unK P t s o op (ev t x) K
 | .pick c a b=>zok P t s o (ev t c) (ev t a) (ev t b) K
 | .indexAddr T x i=>idxK P t s o T (ev t x) (ev t i) K
 | .index T x i=>chrK P t s o T (ev t x) (ev t i) K
 | .slice T x lo hi mx=>zmd P t s o T (ev t x) (evo t lo) (evo t hi) (evo t mx) K
 | .makeSlice T l c=>zon P s T (ev t l) (ev t c) K
 | .box e x=>boxK s e (ev t x) K
 | .store T a x=>znI P t s o T (ev t a) (ev t x) K
 | .convert src dst x=>zov P t s o src dst (ev t x) K
 | .load T x=>zop P t s o T (ev t x) K
 | .call c=>match c.callee with
  | .builtin b=>match b with
   | .append=>zkE P s c.argTypes.toList (evs t c.args.toList) K
   | .len=>lenK P t s o c.argTypes.toList (evs t c.args.toList) K
   | .clear=>zm5 P s c.argTypes.toList (evs t c.args.toList) K
   |_=>genS P t s o K
  |_=>genS P t s o K
 |op=>match heapOp op with|true=>genB P t s o K|false=>genK P t s o K
section
variable {P : Program} {t : Tm} {s : St} {o : Oper} {K : KC}
theorem clearK_ok {c:Call} (ho:o.op= .call c) (hc:c.callee= .builtin .clear) (h:zm5 P s c.argTypes.toList (evs t c.args.toList) K):OpDoes P t s o K:=by
 unfold zm5 at h;split at h
 ·rename_i ty hts;split at h
  ·rename_i x hx;obtain⟨z,hz,h⟩:=zbm h;obtain⟨s',hs,h⟩:=zbm h;refine .val (v:= .tup []) (s':=s') ?_ (St.nfK_ok (K:=fun s'=>K (.tup []) s') h);unfold zaZ comp;rw[ho];simp only[zhk,hc,zdT,hts,hx,zn8,hz,hs,bd]
  ·exact h.elim
 ·exact h.elim
theorem boxK_ok {e:TypeId} {x:Operand} (ho:o.op= .box e x) (h:boxK s e (ev t x) K):OpDoes P t s o K:=by
 have h:=AV.forceK_ok h;split at h
 ·rename_i v s' hb;refine .val (v:=v) (s':=s') ?_ (St.nfK_ok (K:=fun s'=>K v s') (AV.forceB_ok (K:=fun v=>s'.nfK fun s'=>K v s') h));unfold zaZ comp;rw[ho];exact hb
 ·exact h.elim
theorem storeK_ok {T:TypeId} {a x:Operand} (ho:o.op= .store T a x) (h:znI P t s o T (ev t a) (ev t x) K):OpDoes P t s o K:=by
 have h:=AV.forceK_ok h;unfold zdZ at h;split at h
 ·rename_i v s' hb;refine .val (v:=v) (s':=s') ?_ (St.nfK_ok (K:=fun s'=>K v s') h);unfold zaZ comp;rw[ho];exact hb
 ·exact h.elim
theorem s2b_ok {src dst e:TypeId} (h:s2b P src dst= .ok e):∃i j,ty P src= .ok i∧ty P dst= .ok j∧i.d= .string∧j.d= .slice e∧zcZ P e=true:=by
 obtain⟨i,hi,h⟩:=zag h;obtain⟨j,hj,h⟩:=zag h;split at h
 ·rename_i h1;split at h
  ·rename_i e' h2;obtain⟨h3,h⟩:=zap h;cases h;exact⟨i,j,hi,hj,h1,h2,h3⟩
  ·cases h
 ·cases h
theorem neg_eq (a b:Int):(a !=b)= !decide (a=b):=by
 by_cases h:a=b<;>simp[h]
theorem small_i {n:Int} (h:Small n):zkM n=true:=by
 obtain⟨h1,h2⟩:=h
 cases n with
 |ofNat n=>exact zcP (by have:(n:Int)≤9223372036854775807:=h2;omega)
 |negSucc n=>exact zcP (by omega)
theorem zb9 (b:Bool):zfZ s b= .ok (.val (.sc (.bool b)) s):=by cases b<;>rfl
theorem zk1 {v:Value} (hs:ziv o.op=false) (hv:∃l,AV.val.vals (evs t o.op.operands.toList)= .ok l) (h:pure? P (execOp (fun x=>valD (ev t x).val) o)= .ok (.value v)):zaM P t s o= .ok (.val (.sc v) s):=by
 obtain⟨l,hv⟩:=hv;unfold zaM;rw[hv,h,hs];rfl
theorem pure_bind {S:Sem Value}:∀{v:Value},pure? P S= .ok v→pure? P (do pure (.value (←S)):Sem Next)= .ok (.value v):=by
 intro v h
 induction S with
 |pure a=>cases h;rfl
 |program k ih=>exact ih P h
 |mark l k ih=>exact ih h
 |_=>cases h
theorem zgB {op:BinOp} {xt yt:TypeId} {x y:Operand} {X Y v:Value} (ho:o.op= .binOp op xt x y yt) (hx:ev t x= .sc X) (hy:ev t y= .sc Y) (h:pure? P (do eqGuard op xt x y X Y;binOp op xt X Y:Sem Value)= .ok v):zaM P t s o= .ok (.val (.sc v) s):=by
 refine zk1 (by rw[ho];rfl) ⟨[X,Y],?_⟩ ?_
 ·rw[ho];show AV.val.vals [ev t x,ev t y]=_;rw[hx,hy];rfl
 ·have e:execOp (fun x=>valD (ev t x).val) o=(do pure (.value (←(do eqGuard op xt x y X Y;binOp op xt X Y:Sem Value))):Sem Next):=by
   unfold execOp;simp only[ho,hx,hy];rfl
  rw[e];exact pure_bind h
theorem i2i_ok {src dst:TypeId} {k:IntKind} (h:i2i P src dst= .ok k):∃i j k0,ty P src= .ok i∧ty P dst= .ok j∧i.d= .int k0∧j.d= .int k:=by
 obtain⟨i,hi,h⟩:=zag h;obtain⟨j,hj,h⟩:=zag h;split at h
 ·rename_i k0 h1;split at h
  ·rename_i k' h2;cases h;exact⟨i,j,k0,hi,hj,h1,h2⟩
  ·cases h
 ·cases h
theorem b2s_ok {src dst:TypeId} {u:Unit} (h:b2s P src dst= .ok u):∃i j e,ty P src= .ok i∧ty P dst= .ok j∧i.d= .slice e∧j.d= .string∧zcZ P e=true:=by
 obtain⟨i,hi,h⟩:=zag h;obtain⟨j,hj,h⟩:=zag h;split at h
 ·rename_i e h1;split at h
  ·rename_i h2;obtain⟨h3,h⟩:=zap h;exact⟨i,j,e,hi,hj,h1,h2,h3⟩
  ·cases h
 ·cases h
theorem znG {T:TypeId} {i:Ty} (h:ty P T= .ok i):P.underlying T=some i.d:=by
 unfold ty at h;split at h
 ·rename_i d i' h1 h2;cases h;exact h1
 ·cases h
theorem loadK_ok {T:TypeId} {x:Operand} (ho:o.op= .load T x) (h:zop P t s o T (ev t x) K):OpDoes P t s o K:=by
 unfold zop at h;split at h
 ·rename_i b off hx;obtain⟨v,hv,h⟩:=zbm h;refine .val (v:=v) (s':=s) ?_ (AV.forceK_ok (K:=fun v=>K v s) h);unfold zaZ comp;rw[ho];simp only[zmC,hx,hv,ret,bd]
 ·exact zdv h
theorem zk0 {α:Type} {T:TypeId} {d:TypeDesc} (h:P.underlying T=some d) (k:TypeDesc→Sem α):pure? P (underlying T>>=k)=pure? P (k d):=by
 show pure? P (Sem.bind (underlying T) k)=_;unfold underlying;show pure? P ((match P.underlying T with|some d=>pure d|none=>_:Sem TypeDesc)>>=k)=_;rw[h];rfl
theorem plain_conv {src dst:TypeId} {x:Operand} {X v:Value} (ho:o.op= .convert src dst x) (hx:ev t x= .sc X) (h:pure? P (convert src dst X)= .ok v):zaM P t s o= .ok (.val (.sc v) s):=by
 refine zk1 (by rw[ho];rfl) ⟨[X],?_⟩ ?_
 ·rw[ho];show AV.val.vals [ev t x]=_;rw[hx];rfl
 ·have e:execOp (fun x=>valD (ev t x).val) o=(do pure (.value (←(convert src dst X:Sem Value))):Sem Next):=by
   unfold execOp;simp only[ho,hx];rfl
  rw[e];exact pure_bind h
theorem conv_int {src dst:TypeId} {k0 k k1:IntKind} {n:Int} (h1:P.underlying src=some (.int k0)) (h2:P.underlying dst=some (.int k)):pure? P (convert src dst (.int k1 n))= .ok (.int k (k.wrap n)):=by
 unfold convert;rw[zk0 h1,zk0 h2];rfl
theorem zl7 {src dst:TypeId} {x:Operand} {b off len:Nat} (ho:o.op= .convert src dst x) (hx:(∃c,ev t x= .sl b off len c)∨∃c,ev t x= .so b off len c) (h:strK P t s o src dst b off len K):OpDoes P t s o K:=by
 unfold strK at h;split at h
 ·rename_i u hu;obtain⟨i,j,e,hi,hj,h1,h2,h3⟩:=b2s_ok hu;obtain⟨cs,hc,h⟩:=zbm h;obtain⟨bs,hb,h⟩:=zbm h;refine .val (s':=s) ?_ h;unfold zaZ comp;rw[ho]
  rcases hx with⟨c,hx⟩|⟨c,hx⟩
  ·simp only[zkw,hx,hi,hj,bd,zkv,h1,h2,iff',h3,hc,hb]
  ·simp only[zkw,hx,hi,hj,bd,zkv,h1,h2,iff',h3,hc,hb]
 ·exact zc1 h
theorem convK_ok {src dst:TypeId} {x:Operand} (ho:o.op= .convert src dst x) (h:zov P t s o src dst (ev t x) K):OpDoes P t s o K:=by
 unfold zov at h;split at h
 ·rename_i l hx;split at h
  ·rename_i e he;obtain⟨i,j,hi,hj,h1,h2,h3⟩:=s2b_ok he;obtain⟨h4,h⟩:=h;refine .val ?_ (zdw (K:=fun k s'=>K (.so k 0 l.length 0) s') h);unfold zaZ comp;rw[ho];have h4':Nat.ble (ByteArray.mk ⟨l⟩).size (2^47)=true:=zcP h4;simp only[zkw,hx,hi,hj,bd,zkv,h1,h2,iff',h3,h4'];rfl
  ·exact zc1 h
 ·rename_i k1 n hx;split at h
  ·rename_i k hk;obtain⟨i,j,k0,hi,hj,h1,h2⟩:=i2i_ok hk
   have e0:zaZ P t s o= .ok (.val (.sc (.int k (k.wrap n))) s):=by
    unfold zaZ comp;rw[ho];simp only[zkw,hx,hi,hj,bd,zkv,h1,h2];have u1:=znG hi;have u2:=znG hj;rw[h1] at u1;rw[h2] at u2;exact plain_conv ho hx (conv_int u1 u2)
   split at h
   ·obtain⟨h3,h⟩:=h;refine .val (s':=s) ?_ h;rw[e0,show IntKind.wrap .i64 n=n from by rw[IntKind.wrap_i64];obtain⟨h4,h5⟩:=h3;omega]
   ·exact .val e0 h
  ·exact zc1 h
 ·rename_i b off len c hx;exact zl7 ho (.inl ⟨c,hx⟩) h
 ·rename_i b off len c hx;exact zl7 ho (.inr ⟨c,hx⟩) h
 ·exact zc1 h
theorem intBinK_ok {op:BinOp} {k:IntKind} {a b:Int} {other':R Nx} (h:zkl op k a b s K) (hp:∀v,pure? P (binOp op 0 (.int k a) (.int k b))= .ok v→other'= .ok (.val (.sc v) s)):∃nx,zfT op k a b s other'= .ok nx∧NxK P s K nx:=by
 have wr:∀{n:Int},k= .i64→Need (Small n) (K (.sc (.int .i64 n)) s)→∃nx,ziX k n s other'= .ok nx∧NxK P s K nx:=by
  intro n hk hn;obtain⟨h1,h2⟩:=hn;rw[hk];refine⟨.val (.sc (.int .i64 n)) s,?_,h2⟩;show(match zkM n with|true=>intK n fun n=> .ok (.val (.sc (.int .i64 n)) s)|false=>other')=_;rw[small_i h1];exact zmJ _ _
 have wo:∀{n:Int},k≠ .i64→ziX k n s other'=other':=by
  intro n hk
  cases k<;>first|rfl|exact absurd rfl hk
 have kk:¬(k≠k):=fun h=>h rfl
 have ar:∀(op':BinOp) (f:Int→Int→Int),op=op'→pure? P (binOp op 0 (.int k a) (.int k b))= .ok (.int k (k.wrap (f a b)))→(zfT op k a b s other'=ziX k (f a b) s other')→(∀k',k=k'→(match k' with| .i64=>Need (Small (f a b)) (K (.sc (.int .i64 (f a b))) s)|k'=>K (.sc (.int k' (zlS k' (f a b)))) s))→∃nx,zfT op k a b s other'= .ok nx∧NxK P s K nx:=by
  intro op' f e hpu hib hK;rw[hib];by_cases hk:k= .i64
  ·have:=hK .i64 hk;exact wr hk this
  ·rw[wo hk,hp _ hpu];refine⟨_,rfl,?_⟩;have:=hK k rfl
   cases k<;>first|exact this|exact absurd rfl hk
 have pl:∀(v:Int),pure? P (binOp op 0 (.int k a) (.int k b))= .ok (.int k v)→zfT op k a b s other'=other'→K (.sc (.int k v)) s→∃nx,zfT op k a b s other'= .ok nx∧NxK P s K nx:=by
  intro v hpu hib hK;rw[hib,hp _ hpu];exact⟨_,rfl,hK⟩
 cases op
 case add=>exact ar .add (·+·) rfl (by unfold binOp;simp only[if_neg kk];rfl) rfl (fun k' e=>by subst e;cases k<;>exact h)
 case sub=>exact ar .sub (·-·) rfl (by unfold binOp;simp only[if_neg kk];rfl) rfl (fun k' e=>by subst e;cases k<;>exact h)
 case mul=>exact ar .mul (·*·) rfl (by unfold binOp;simp only[if_neg kk];rfl) rfl (fun k' e=>by subst e;cases k<;>exact h)
 case quo=>
  have hb:b≠0:=by
   unfold zkl at h;simp only at h;split at h
   ·exact h.1.1
   ·exact h.1
  have hpu:pure? P (binOp .quo 0 (.int k a) (.int k b))= .ok (.int k (k.wrap (a.tdiv b))):=by
   unfold binOp Op.intDiv;simp only[if_neg kk,if_neg hb];rfl
  refine pl _ hpu rfl ?_;by_cases hk:k= .i64
  ·subst hk;obtain⟨⟨_,h1⟩,h2⟩:=h;rw[show IntKind.wrap .i64 (a.tdiv b)=a.tdiv b from by rw[IntKind.wrap_i64];obtain⟨h3,h4⟩:=h1;omega];exact h2
  ·cases k<;>first|exact h.2|exact absurd rfl hk
 case rem=>
  obtain⟨hb,h2⟩:=h;refine pl _ ?_ rfl h2;unfold binOp Op.intDiv;simp only[if_neg kk,if_neg hb];rfl
 case and=>exact pl _ (by unfold binOp;simp only[if_neg kk];rfl) rfl h
 case or=>exact pl _ (by unfold binOp;simp only[if_neg kk];rfl) rfl h
 case xor=>exact pl _ (by unfold binOp;simp only[if_neg kk];rfl) rfl h
 case andNot=>exact pl _ (by unfold binOp;simp only[if_neg kk];rfl) rfl h
 case shl=>
  obtain⟨hb,h2⟩:=h;refine pl _ ?_ rfl h2;unfold binOp Op.shift;simp only[if_neg (Int.not_lt.2 hb)];rfl
 case shr=>
  obtain⟨hb,h2⟩:=h;refine pl _ ?_ rfl h2;unfold binOp Op.shift;simp only[if_neg (Int.not_lt.2 hb)];rfl
 case eql=>exact⟨_,zb9 _,h⟩
 case neq=>exact⟨_,zb9 _,(by rw[neg_eq];exact h)⟩
 case lss=>exact⟨_,zb9 _,h⟩
 case leq=>exact⟨_,zb9 _,h⟩
 case gtr=>exact⟨_,zb9 _,h⟩
 case geq=>exact⟨_,zb9 _,h⟩
theorem strAdd_ok {xt yt:TypeId} {x y:Operand} {a b:List UInt8} (ho:o.op= .binOp .add xt x y yt) (hx:ev t x= .sc (.string ⟨⟨a⟩⟩)) (hy:ev t y= .sc (.string ⟨⟨b⟩⟩)) (h0:a.length+b.length≤9223372036854775807):zaM P t s o= .ok (.val (.sc (.string ⟨⟨a++b⟩⟩)) s):=by
 have hi:(((ByteArray.mk ⟨a⟩).size+(ByteArray.mk ⟨b⟩).size:Nat):Int)≤IntKind.i64.max:=by
  show((a.length+b.length:Nat):Int)≤9223372036854775807;omega
 have e:((ByteArray.mk ⟨a⟩)++(ByteArray.mk ⟨b⟩))=⟨⟨a++b⟩⟩:=by
  apply ByteArray.ext;simp
 rw[←e];refine zgB ho hx hy ?_;show pure? P (Op.stringOp .add _ _)=_;unfold Op.stringOp;simp only[if_neg (Int.not_lt.2 hi)];rfl
theorem zn4 {op:BinOp} {xt:TypeId} {x y:AV} (h:eqK P xt op x y s K (zgD P t s o K)):∃nx,eqB P op xt s x y (zaM P t s o)= .ok nx∧NxK P s K nx:=by
 unfold eqK at h;unfold eqB;split at h
 ·obtain⟨b,hb,h⟩:=zbm (zmS h);exact⟨.val (.sc (.bool b)) s,by simp only[hb,zb9],h⟩
 ·obtain⟨b,hb,h⟩:=zbm (zmS h);exact⟨.val (.sc (.bool (!b))) s,by simp only[hb,zb9],h⟩
 ·rename_i h1 h2;obtain⟨nx,h3,h4⟩:=zgC h;refine⟨nx,?_,h4⟩;split
  ·exact absurd rfl h1
  ·exact absurd rfl h2
  ·exact h3
theorem zfD {op:BinOp} {xt:TypeId} {x y:AV} (hn:∀k n,x≠ .sc (.int k n)):binA P t s o op xt x y=eqB P op xt s x y (zaM P t s o):=by
 unfold binA;split
 ·exact absurd rfl (hn _ _)
 ·rfl
theorem binK_ok {op:BinOp} {xt yt:TypeId} {x y:Operand} (ho:o.op= .binOp op xt x y yt) (h:binK P t s o op xt (ev t x) (ev t y) K):OpDoes P t s o K:=by
 have e0:zaZ P t s o=binA P t s o op xt (ev t x) (ev t y):=by unfold zaZ comp;rw[ho]
 unfold binK at h;unfold OpDoes;split at h
 ·rename_i k a hx;split at h
  ·rename_i k' b hy
   have shf:∀n:Int,pure? P (binOp op xt (.int k a) (.int k' b))= .ok (.int k n)→(op= .shl∨op= .shr)→K (.sc (.int k n)) s→∃nx,zaZ P t s o= .ok nx∧NxK P s K nx:=by
    intro n hp hop hK;have e1:zaM P t s o= .ok (.val (.sc (.int k n)) s):=zgB ho hx hy (by rcases hop with rfl|rfl<;>exact hp);refine⟨.val (.sc (.int k n)) s,?_,hK⟩;rw[e0,hx,hy];unfold binA;rw[←e1]
    rcases hop with rfl|rfl<;>(dsimp only;split<;>rfl)
   split at h
   ·obtain⟨hb,h⟩:=h;refine shf _ ?_ (.inl rfl) h;unfold binOp Op.shift;simp only[if_neg (Int.not_lt.2 hb)];rfl
   ·obtain⟨hb,h⟩:=h;refine shf _ ?_ (.inr rfl) h;unfold binOp Op.shift;simp only[if_neg (Int.not_lt.2 hb)];rfl
   ·split at h
    ·rename_i hk
     have hkk:k=k':=by
      unfold sameKind at hk
      cases k<;>cases k'<;>first|rfl|exact absurd hk (by decide)
     subst hkk;obtain⟨nx,h1,h2⟩:=intBinK_ok (other':=zaM P t s o) h (fun v hv=>zgB ho hx hy (by cases op<;>exact hv));refine⟨nx,?_,h2⟩;rw[e0,hx,hy];unfold binA;simp only[hk];exact h1
    ·rename_i hk;obtain⟨nx,h1,h2⟩:=zgC h;refine⟨nx,?_,h2⟩;rw[e0,hx,hy];unfold binA;simp only[hk];exact h1
  ·rename_i hne;obtain⟨nx,h1,h2⟩:=zgC h;refine⟨nx,?_,h2⟩;rw[e0,hx];unfold binA;revert hne;generalize ev t y=ay;intro hne;show(match ay with| .sc (.int k' b)=>(match sameKind k k' with|true=>zfT op k a b s (zaM P t s o)|false=>zaM P t s o)|_=>zaM P t s o)=_;split
   ·rename_i k2 b2;exact absurd rfl (hne k2 b2)
   ·exact h1
 ·rename_i a hx;split at h
  ·rename_i b hy;split at h
   ·obtain⟨h0,h⟩:=h;refine⟨.val (.sc (.string ⟨⟨a++b⟩⟩)) s,?_,h⟩;rw[e0,hx,hy,zfD (fun k n e=>by cases e)];exact strAdd_ok ho hx hy h0
   ·obtain⟨nx,h1,h2⟩:=zn4 h;refine⟨nx,?_,h2⟩;rw[e0,hx,hy,zfD (fun k n e=>by cases e)];rw[hx,hy] at h1;exact h1
  ·exact h.elim
 ·rename_i hni hns;obtain⟨nx,h1,h2⟩:=zn4 h;refine⟨nx,?_,h2⟩;rw[e0,zfD hni];exact h1
end
end Go.Ex
namespace Go.Ex
open Go
section
variable {P : Program} {t : Tm} {s : St} {o : Oper} {K : KC}
theorem unK_ok {op:UnOp} {xt:TypeId} {x:Operand} (ho:o.op= .unOp op xt x) (h:unK P t s o op (ev t x) K):OpDoes P t s o K:=by
 unfold unK at h;split at h
 ·split at h
  ·rename_i b hx;refine .val ?_ h;unfold zaZ comp;rw[ho];simp only[hx,unA,zb9]
  ·exact zdv h
 ·exact zdv h
theorem pickK_ok {c a b:Operand} (ho:o.op= .pick c a b) (h:zok P t s o (ev t c) (ev t a) (ev t b) K):OpDoes P t s o K:=by
 unfold zok at h;split at h
 ·rename_i k hc
  have e:zaZ P t s o=znq s (ev t c) (ev t a) (ev t b):=by
   unfold zaZ comp;rw[ho]
  rw[hc] at e;cases k
  ·exact⟨_,e,AV.forceK_ok (K:=fun b=>K b s) h.ff⟩
  ·exact⟨_,e,AV.forceK_ok (K:=fun b=>K b s) h.tt⟩
 ·exact h.elim
theorem zk3 (h:opK P t s o K):OpDoes P t s o K:=by
 unfold opK at h;split at h
 ·exact binK_ok ‹_› h
 ·exact unK_ok ‹_› h
 ·exact pickK_ok ‹_› h
 ·exact idxK_ok ‹_› h
 ·exact chrK_ok ‹_› h
 ·exact sliceK_ok ‹_› h
 ·exact makeK_ok ‹_› h
 ·exact boxK_ok ‹_› h
 ·exact storeK_ok ‹_› h
 ·exact convK_ok ‹_› h
 ·exact loadK_ok ‹_› h
 ·rename_i c ho;split at h
  ·rename_i b hb;split at h
   ·exact appendK_ok ho hb h
   ·exact lenK_ok ho hb h
   ·exact clearK_ok ho hb h
   ·exact zc1 h
  ·exact zc1 h
 ·split at h
  ·exact genB_ok h
  ·exact zdv h
end
def zlr (ops:List Oper) (t:Tm) (o:Oper) (K N:Prop):Prop:=
 match o.guard with
 |none=>K
 |some (j,want)=>match zny ops j with
  |none=>N
  |some d=>match t.get d with
   | .sc (.bool b)=>match want with|true=>KIf b K N|false=>KIf b N K
   | .any=>False
   |_=>N
noncomputable def opsK (P:Program) (ops:List Oper) (l:List Oper):Tm→St→(Tm→St→Prop)→Prop:=
 List.rec (motive:=fun _=>Tm→St→(Tm→St→Prop)→Prop) (fun t s K=>K t s)
  (fun o _ ih t s K=>zlr ops t o (opK P t s o fun v s'=>t.putK o.dst v fun t=>ih t s' K) (t.putK o.dst AV.undef fun t=>ih t s K)) l
theorem zjC {ops:List Oper} {t:Tm} {o:Oper} {K N:Prop} (h:zlr ops t o K N):(zb5 ops t o=some true∧K)∨(zb5 ops t o=some false∧N):=by
 unfold zlr at h;unfold zb5;split at h
 ·rename_i hg;rw[hg];exact .inl ⟨rfl,h⟩
 ·rename_i j want hg;rw[hg];simp only;split at h
  ·rename_i hd;rw[hd];exact .inr ⟨rfl,h⟩
  ·rename_i d hd;rw[hd];simp only;split at h
   ·rename_i b hb;simp only[hb]
    cases want<;>cases b<;>first|exact .inl ⟨rfl,KIf.tt h⟩|exact .inl ⟨rfl,KIf.ff h⟩|exact .inr ⟨rfl,KIf.tt h⟩|exact .inr ⟨rfl,KIf.ff h⟩
   ·exact h.elim
   ·rename_i h1 h2;split
    ·rename_i b hb;exact absurd hb (h1 b)
    ·rename_i hb;exact absurd hb h2
    ·exact .inr ⟨rfl,h⟩
def Above (m:Mp) (n:Nat):Prop:=∀b,n≤b→m b=none
structure Gk (n0:Nat) (F F':AH) (m m':Mp) (w w':World):Prop where
 ok:Ok m' F' w'
 fr:Fr m F w w'
 new:NewB m m' F F' w
 zle:Zle m.z m'.z
 znew:ZNew m m' F w
 low:∀b,b<n0→m' b=m b
section
variable {P : Program} {n0 : Nat} {m m' m'' : Mp} {F F' F'' : AH} {w w' w'' : World} {s s' s'' : St}
theorem Gk.refl (h:Ok m F w):Gk n0 F F m m w w:=⟨h,Fr.refl _ _ _,fun b o hb=> .inl ⟨b,o,hb,rfl⟩,fun _ _ _ h=>h,fun _ _ _ h=> .inl h,fun _ _=>rfl⟩
theorem Gk.trans (h:Gk n0 F F' m m' w w') (h':Gk n0 F' F'' m' m'' w' w''):Gk n0 F F'' m m'' w w'':=by
 refine⟨h'.ok,⟨h'.fr.os.trans h.fr.os,h'.fr.tape.trans h.fr.tape,h'.fr.output.trans h.fr.output,Nat.le_trans h.fr.size h'.fr.size,fun k hk hn=> ?_⟩,fun b o hb=> ?_,fun k i v hv=>h'.zle k i v (h.zle k i v hv),fun k i v hv=> ?_,fun b hb=>(h'.low b hb).trans (h.low b hb)⟩
 ·rw[h'.fr.block k (Nat.lt_of_lt_of_le hk h.fr.size) fun b o hb e=> ?_,h.fr.block k hk hn]
  rcases h.new b o hb with⟨b0,o0,h0,e0⟩|⟨k0,e0,hk0⟩
  ·exact hn b0 o0 h0 (e0.symm.trans e)
  ·rw[e0] at e;cases e;omega
 ·rcases h'.new b o hb with⟨b0,o0,h0,e0⟩|⟨k0,e0,hk0⟩
  ·rcases h.new b0 o0 h0 with⟨b1,o1,h1,e1⟩|⟨k1,e1,hk1⟩
   ·exact .inl ⟨b1,o1,h1,e0.trans e1⟩
   ·exact .inr ⟨k1,e0.trans e1,hk1⟩
  ·exact .inr ⟨k0,e0,Nat.le_trans h.fr.size hk0⟩
 ·rcases h'.znew k i v hv with h1|⟨b0,o0,h0,e0⟩|h1
  ·exact h.znew k i v h1
  ·rcases h.new b0 o0 h0 with⟨b1,o1,h1,e1⟩|⟨k1,e1,hk1⟩
   ·exact .inr (.inl ⟨b1,o1,h1,e1.symm.trans e0⟩)
   ·rw[e1] at e0;cases e0;exact .inr (.inr hk1)
  ·exact .inr (.inr (Nat.le_trans h.fr.size h1))
theorem Goes.gk (h:Goes F F' s.n s'.n m m' w w') (hn:n0≤s.n) (ha:Above m s.n):Gk n0 F F' m m' w w'∧Above m' s'.n:=by
 refine⟨⟨h.ok,h.fr,h.new,h.zle,h.znew,fun b hb=>h.ext b (.inl (by omega))⟩,fun b hb=> ?_⟩;have:=h.le;rw[h.ext b (.inr hb)];exact ha b (by omega)
theorem Above.fresh (h:Above m s.n) (n':Nat):Fresh m s.n n':=fun b hb _=>h b hb
end
def After (n0:Nat) (m:Mp) (w:World) (s:St) (K:Xt→Tm→St→Prop) (e:Exit) (a':Act) (w':World):Prop:=
 ∃x t' s' m',e=xtE x∧K x t' s'∧Fit m' t' a'∧a'.defers=[]∧Gk n0 s.h.get s'.h.get m m' w w'∧Above m' s'.n∧n0≤s'.n
def WK (P:Program) (n0:Nat) (c:Code) (t:Tm) (s:St) (K:Xt→Tm→St→Prop):Prop:=
 ∀m a w,Fit m t a→a.defers=[]→Ok m s.h.get w→Above m s.n→n0≤s.n→c.wp P (After n0 m w s K) a w
section
variable {P : Program} {n0 : Nat} {m m' : Mp} {w w' : World} {s s' : St} {t t' : Tm} {K K' : Xt → Tm → St → Prop}
theorem After.trans {e:Exit} {a':Act} {w2:World} (hg:Gk n0 s.h.get s'.h.get m m' w w') (h:After n0 m' w' s' K e a' w2):After n0 m w s K e a' w2:=by
 obtain⟨x,t2,s2,m2,h1,h2,h3,h4,h5,h6,h7⟩:=h;exact⟨x,t2,s2,m2,h1,h2,h3,h4,hg.trans h5,h6,h7⟩
def AfterN (n0:Nat) (m:Mp) (w:World) (s:St) (K:Tm→St→Prop) (a':Act) (w':World):Prop:=
 ∃t' s' m',K t' s'∧Fit m' t' a'∧a'.defers=[]∧Gk n0 s.h.get s'.h.get m m' w w'∧Above m' s'.n∧n0≤s'.n
theorem AfterN.trans {K:Tm→St→Prop} {a':Act} {w2:World} (hg:Gk n0 s.h.get s'.h.get m m' w w') (h:AfterN n0 m' w' s' K a' w2):AfterN n0 m w s K a' w2:=by
 obtain⟨t2,s2,m2,h2,h3,h4,h5,h6,h7⟩:=h;exact⟨t2,s2,m2,h2,h3,h4,hg.trans h5,h6,h7⟩
theorem zij {n0:Nat} (ops:Array Oper) (Q0:Exit→Act→World→Prop):∀(l:List Oper) (t:Tm) (s:St) (Q:Tm→St→Prop),opsK P ops.toList l t s Q→∀m a w,Fit m t a→a.defers=[]→Ok m s.h.get w→Above m s.n→n0≤s.n→(∀a' w',AfterN n0 m w s Q a' w'→Q0 .normal a' w')→wpList P ops Q0 l a w
 |[],t,s,Q,h,m,a,w,hf,hd,hok,ha,hn,hq=>hq _ _ ⟨t,s,m,h,hf,hd,Gk.refl hok,ha,hn⟩
 |o::l,t,s,Q,h,m,a,w,hf,hd,hok,ha,hn,hq=>by
  refine wpList_step fun K hK=> ?_
  rcases zjC h with⟨hg,h⟩|⟨hg,h⟩
  ·rw[zc0 hf hg,if_pos rfl];obtain⟨nx,hop,hnx⟩:=zk3 h;unfold Oper.wp
   cases nx with
   |val v s1=>
    obtain⟨x,w1,m1,hr,hgo,hv⟩:=zdL hop hf.ev hok (ha.fresh _);obtain⟨hgk,ha1⟩:=hgo.gk (n0:=n0) hn ha;obtain⟨t1,hp,h2⟩:=Tm.putK_ok (K:=fun t=>opsK P ops.toList l t s1 Q) hnx;have hk:=hK _ _ (zij ops Q0 l t1 s1 Q h2 m1 (a.put o.dst x) w1 ((hf.mono (hgo.mle (ha.fresh _))).put hp hv) (by rw[put_defers,hd]) hgk.ok ha1 (Nat.le_trans hn hgo.le) fun a' w' h=>hq _ _ (h.trans hgk))
    rcases hr with hr|⟨hr,rfl⟩
    ·rw[hr];exact hk
    ·rw[hr];exact hk
   |enter f args=>
    obtain⟨v,s1,hc,hle,h2⟩:=hnx;obtain⟨args',hr,hR⟩:=zdL hop hf.ev hok;rw[hr];refine Calls.mono (hc m w args' hR hok (ha.fresh _)) ?_;rintro e w1 ⟨y,m1,rfl,hgo,hv⟩;obtain⟨hgk,ha1⟩:=hgo.gk (n0:=n0) hn ha;obtain⟨t1,hp,h2⟩:=Tm.putK_ok h2;exact hK _ _ (zij ops Q0 l t1 s1 Q h2 m1 (a.put o.dst y) w1 ((hf.mono (hgo.mle (ha.fresh _))).put hp hv) (by rw[put_defers,hd]) hgk.ok ha1 (Nat.le_trans hn hgo.le) fun a' w' h=>hq _ _ (h.trans hgk))
  ·rw[zc0 hf hg,if_neg Bool.false_ne_true];obtain⟨t1,hp,h2⟩:=Tm.putK_ok h;exact hK _ _ (zij ops Q0 l t1 s Q h2 m (a.put o.dst undef) w (hf.put hp rfl) (by rw[put_defers,hd]) hok ha hn hq)
def nb (l:List Bool) (i:Nat):Bool:=match nth l i with|some b=>b|none=>false
def nthB (l:List (List Bool)) (i:Nat):List Bool:=match nth l i with|some b=>b|none=>[]
def orK :List Bool→List Bool→(List Bool→Prop)→Prop
 |[],b,K=>K b
 |x::a,b,K=>match b with
  |[]=>K (x::a)
  |y::b=>orK a b fun r=>match x with
   |true=>K (true::r)
   |false=>match y with|true=>K (true::r)|false=>K (false::r)
def setK :List Bool→Nat→(List Bool→Prop)→Prop
 |[],0,K=>K [true]
 |[],n+1,K=>setK [] n fun r=>K (false::r)
 |_::l,0,K=>K (true::l)
 |x::l,n+1,K=>setK l n fun r=>K (x::r)
def zhB :List Edge→List (List Bool)→List Bool→(List Bool→Prop)→Prop
 |[],_,r,K=>K r
 |e::l,acc,r,K=>match Region.binds .any e with
  |true=>match nth acc e.on with
   |some m=>orK r m fun r=>setK r e.on fun r=>zhB l acc r K
   |none=>setK r e.on fun r=>zhB l acc r K
  |false=>zhB l acc r K
def zog :List (List Bool)→List Bool→(List (List Bool)→Prop)→Prop
 |[],m,K=>K [m]
 |a::l,m,K=>zog l m fun r=>K (a::r)
def zmz :List Oper→List (List Bool)→(List (List Bool)→Prop)→Prop
 |[],acc,K=>K acc
 |o::l,acc,K=>zhB o.after.toList acc [] fun m=>zog acc m fun acc=>zmz l acc K
theorem zdq (i:Nat):nb [] i=false:=by unfold nb;rw[za3];rfl
theorem zkg (x:Bool) (l:List Bool):nb (x::l) 0=x:=rfl
theorem zgO (x:Bool) (l:List Bool) (i:Nat):nb (x::l) (i+1)=nb l i:=rfl
theorem znP :∀(a b:List Bool) {K:List Bool→Prop},orK a b K→∃r,K r∧∀i,nb r i=(nb a i||nb b i)
 |[],b,K,h=>⟨b,h,fun i=>by rw[zdq,Bool.false_or]⟩
 |x::a,[],K,h=>⟨x::a,h,fun i=>by rw[zdq,Bool.or_false]⟩
 |x::a,y::b,K,h=>by
  obtain⟨r,h1,h2⟩:=znP a b h;cases x
  ·cases y
   ·exact⟨false::r,h1,fun i=>by cases i;rfl;exact h2 _⟩
   ·exact⟨true::r,h1,fun i=>by cases i;rfl;exact h2 _⟩
  ·exact⟨true::r,h1,fun i=>by cases i;rfl;exact h2 _⟩
theorem zh5 :∀(a:List Bool) (n:Nat) {K:List Bool→Prop},setK a n K→∃r,K r∧∀i,nb r i=(nb a i||decide (n=i))
 |[],0,K,h=>⟨[true],h,fun i=>by cases i;rfl;rw[zgO,zdq,zdq];simp⟩
 |[],n+1,K,h=>by
  obtain⟨r,h1,h2⟩:=zh5 [] n h;refine⟨false::r,h1,fun i=> ?_⟩
  cases i with
  |zero=>simp[zdq,zkg]
  |succ i=>rw[zgO,h2,zdq,zdq];simp
 |x::l,0,K,h=>⟨true::l,h,fun i=>by cases i;simp[zkg];simp[zgO]⟩
 |x::l,n+1,K,h=>by
  obtain⟨r,h1,h2⟩:=zh5 l n h;refine⟨x::r,h1,fun i=> ?_⟩
  cases i with
  |zero=>simp[zkg]
  |succ i=>rw[zgO,h2,zgO];simp
theorem zoa (a b i:Nat):bit (Nat.lor a b) i=(bit a i||bit b i):=by
 rw[zc9,zc9,zc9];exact Nat.testBit_or ..
def RepM (acc:List (List Bool)) (ms:List Nat):Prop:=acc.length=ms.length∧∀j i,nb (nthB acc j) i=bit (nthD ms j) i
theorem zeN {acc:List (List Bool)} {ms:List Nat} (hr:RepM acc ms):∀(l:List Edge) (r:List Bool) {K:List Bool→Prop},zhB l acc r K→∃r',K r'∧∀i,nb r' i=(nb r i||bit (zcH l ms) i)
 |[],r,K,h=>⟨r,h,fun i=>by rw[show bit (zcH [] ms) i=false by rw[zc9];simp[zcH],Bool.or_false]⟩
 |e::l,r,K,h=>by
  unfold zhB at h;split at h
  ·rename_i hb
   have he:∀i,bit (zcH (e::l) ms) i=((decide (e.on=i)||bit (nthD ms e.on) i)||bit (zcH l ms) i):=fun i=>by
    show bit (match Region.binds .any e with|true=>Nat.lor (Nat.lor (Nat.pow 2 e.on) (nthD ms e.on)) (zcH l ms)|false=>zcH l ms) i=_;rw[hb];simp only;rw[zoa,zoa]
    congr 2
    rw[zc9];exact Nat.testBit_two_pow
   split at h
   ·rename_i m hm;obtain⟨r1,h,h1⟩:=znP _ _ h;obtain⟨r2,h,h2⟩:=zh5 _ _ h;obtain⟨r3,h,h3⟩:=zeN hr l r2 h;refine⟨r3,h,fun i=> ?_⟩
    have hmi:nb m i=bit (nthD ms e.on) i:=by
     rw[←hr.2 e.on i];unfold nthB;rw[hm]
    rw[h3,h2,h1,he,hmi];cases nb r i<;>cases bit (nthD ms e.on) i<;>simp
   ·rename_i hm;obtain⟨r2,h,h2⟩:=zh5 _ _ h;obtain⟨r3,h,h3⟩:=zeN hr l r2 h;refine⟨r3,h,fun i=> ?_⟩
    have hmi:bit (nthD ms e.on) i=false:=by
     rw[←hr.2 e.on i];unfold nthB;rw[hm];exact zdq i
    rw[h3,h2,he,hmi];cases nb r i<;>simp
  ·rename_i hb;obtain⟨r3,h,h3⟩:=zeN hr l r h;refine⟨r3,h,fun i=> ?_⟩;rw[h3]
   show _=(nb r i||bit (match Region.binds .any e with|true=>Nat.lor (Nat.lor (Nat.pow 2 e.on) (nthD ms e.on)) (zcH l ms)|false=>zcH l ms) i)
   rw[hb]
theorem zkL :∀(l:List (List Bool)) (m:List Bool) {K:List (List Bool)→Prop},zog l m K→K (l++[m])
 |[],m,K,h=>h
 |a::l,m,K,h=>zkL l m h
theorem zjn :∀(l:List Oper) {acc:List (List Bool)} {ms:List Nat} {K:List (List Bool)→Prop},RepM acc ms→zmz l acc K→∃acc',K acc'∧RepM acc' (masks l ms)
 |[],acc,ms,K,hr,h=>⟨acc,h,hr⟩
 |o::l,acc,ms,K,hr,h=>by
  obtain⟨m,h,hm⟩:=zeN hr _ _ h;have h:=zkL acc m h;refine zjn l (ms:=ms++[zcH o.after.toList ms]) ⟨by simp[hr.1],fun j i=> ?_⟩ h;unfold nthB;rw[za3,zgK,List.getD_eq_getElem?_getD]
  rcases Nat.lt_trichotomy j acc.length with hj|hj|hj
  ·rw[List.getElem?_append_left hj,List.getElem?_append_left (by rw[←hr.1];exact hj)];have:=hr.2 j i;unfold nthB at this;rw[za3,zgK,List.getD_eq_getElem?_getD] at this;exact this
  ·subst hj;rw[List.getElem?_append_right (Nat.le_refl _),List.getElem?_append_right (by rw[hr.1];exact Nat.le_refl _)];rw[←hr.1];simp only[Nat.sub_self,List.getElem?_cons_zero,Option.getD_some];rw[hm,zdq,Bool.false_or]
  ·rw[List.getElem?_eq_none (by simp;omega),List.getElem?_eq_none (by simp[←hr.1];omega)];rw[zc9];simp[zdq]
def zmK (m:List Bool):List (Nat×T AO)→Bool
 |[]=>true
 |(i,_)::l=>match nb m i with|true=>zmK m l|false=>false
def zfl (m:List Bool):List (Nat×Nat×AO)→List (Nat×Nat×AO)
 |[]=>[]
 |(i,q)::l=>match nb m i with|true=>(i,q)::zfl m l|false=>zfl m l
def zeG (m:List Bool):List (Nat×Nat×AO)→List (Nat×Nat×AO)
 |[]=>[]
 |(i,q)::l=>match nb m i with|true=>zeG m l|false=>(i,q)::zeG m l
theorem zlq {m:List Bool} {mask:Nat} (h:∀i,nb m i=bit mask i):∀l,zmK m l=hvIn mask l
 |[]=>rfl
 |(i,g)::l=>by unfold zmK hvIn;rw[h,zlq h l];cases bit mask i<;>rfl
theorem zhG {m:List Bool} {mask:Nat} (h:∀i,nb m i=bit mask i):∀l,zfl m l=zbq mask l
 |[]=>rfl
 |(i,g)::l=>by unfold zfl zbq;rw[h,zhG h l];cases bit mask i<;>rfl
theorem zgE {m:List Bool} {mask:Nat} (h:∀i,nb m i=bit mask i):∀l,zeG m l=zb2 mask l
 |[]=>rfl
 |(i,g)::l=>by unfold zeG zb2;rw[h,zgE h l];cases bit mask i<;>rfl
def oldK (P:Program) (ty:TypeId) (b off:Nat) (v:AV) (mask:List Bool) (K:Prop):List (Nat×T AO)→Prop
 |[]=>K
 |(i,h)::l=>match nb mask i with|true=>oldK P ty b off v mask K l|false=>RK (zct P ⟨h,0⟩ ty b off) fun v'=>Need (v'=v) (oldK P ty b off v mask K l)
def newK (P:Program) (h:T AO) (mask:List Bool) (K:Prop):List (Nat×TypeId×Nat×Nat×AV)→Prop
 |[]=>K
 |(i,ty,b,off,v)::l=>match nb mask i with|true=>newK P h mask K l|false=>RK (zct P ⟨h,0⟩ ty b off) fun v'=>Need (v'=v) (newK P h mask K l)
inductive Kd |load (ty:TypeId) (x:Operand)|light|call|heavy
def kdOf (o:Op):Kd:=
 match o with
 | .load ty x=> .load ty x
 | .store _ _ _=> .heavy
 | .convert _ _ _=> .heavy
 | .next _ _=> .heavy
 | .call c=>match c.callee with
  | .builtin b=>match b with
   | .append=> .heavy
   | .copy=> .heavy
   | .clear=> .heavy
   |_=> .light
  |_=> .call
 |_=> .light
def PureC (P:Program) (f:FuncId) (args:List AV) (v:AV):Prop:=∀s,CallOk P f args s v s
theorem KCall.pure {P:Program} {f:FuncId} {args:List AV} {s:St} {K:KC} {v:AV} (h:PureC P f args v) (hk:K v s):KCall P f args s K:=⟨v,s,h s,Nat.le_refl _,hk⟩
def zix (P:Program) (d:DS) (j:Nat) (o:Oper) (mask:List Bool) (v:AV) (s:St) (K:DS→Prop):Prop:=
 match d with
 |⟨t,h,n,pend,hv,lds⟩=>match s with
  |⟨h',n'⟩=>match Nat.ble n n' with
   |true=>newK P h' mask (t.putK o.dst v fun t=>K ⟨t,h',n',zeG mask pend,(j,h)::hv,lds⟩) lds
   |false=>False
def zgV (d:DS) (j:Nat) (o:Oper) (v:AV) (s:St) (K:DS→Prop):Prop:=
 match d with
 |⟨t,h,n,pend,hv,lds⟩=>match Nat.beq s.n n with
  |true=>t.putK o.dst v fun t=>K ⟨t,h,n,pend,hv,lds⟩
  |false=>match Nat.beq s.n (Nat.succ n) with
   |true=>match s.h.get n with
    |some ao=>ao.forceK fun ao=>t.putK o.dst v fun t=>Nat.forceK (Nat.succ n) fun n'=>K ⟨t,h,n',(j,n,ao)::pend,hv,lds⟩
    |none=>False
   |false=>False
structure DCall (P:Program) (f:FuncId) (args:List AV) (light:AV→Prop) (heavy:AV→St→Prop) (s:St):Prop where
 h:(∃v,PureC P f args v∧light v)∨∃v s',CallOk P f args s v s'∧heavy v s'
theorem DCall.pure {P:Program} {f:FuncId} {args:List AV} {light:AV→Prop} {heavy:AV→St→Prop} {s:St} {v:AV} (h:PureC P f args v) (hk:light v):DCall P f args light heavy s:=⟨.inl ⟨v,h,hk⟩⟩
def zkK (P:Program) (ops:List Oper) (d:DS) (j:Nat) (o:Oper) (mask:List Bool) (K:DS→Prop):Prop:=
 match d with
 |⟨t,h,n,pend,hv,lds⟩=>zlr ops t o
  (match kdOf o.op with
  | .load ty x=>match ev t x with
   | .ptr b off=>RK (zct P ⟨h,0⟩ ty b off) fun v=>v.forceK fun v=>oldK P ty b off v mask (t.putK o.dst v fun t=>K ⟨t,h,n,pend,hv,(j,ty,b,off,v)::lds⟩) hv
   |_=>opK P t ⟨.e,n⟩ o fun v s=>zgV ⟨t,h,n,pend,hv,lds⟩ j o v s K
  | .light=>opK P t ⟨.e,n⟩ o fun v s=>zgV ⟨t,h,n,pend,hv,lds⟩ j o v s K
  | .call=>match zaZ P t ⟨.e,n⟩ o with
   | .ok (.enter f args)=>match zmK mask hv with
    |true=>(⟨merge h (zfl mask pend),n⟩:St).nfK fun s=>DCall P f args (fun v=>t.putK o.dst v fun t=>K ⟨t,h,n,pend,hv,lds⟩) (fun v s'=>zix P ⟨t,h,n,pend,hv,lds⟩ j o mask v s' K) s
    |false=>DCall P f args (fun v=>t.putK o.dst v fun t=>K ⟨t,h,n,pend,hv,lds⟩) (fun _ _=>False) ⟨.e,n⟩
   | .ok (.val v s)=>v.forceK fun v=>zgV ⟨t,h,n,pend,hv,lds⟩ j o v s K
   | .no _=>False
  | .heavy=>match zmK mask hv with
   |true=>(⟨merge h (zfl mask pend),n⟩:St).nfK fun s=>opK P t s o fun v s'=>zix P ⟨t,h,n,pend,hv,lds⟩ j o mask v s' K
   |false=>False)
  (t.putK o.dst AV.undef fun t=>K ⟨t,h,n,pend,hv,lds⟩)
noncomputable def znz (P:Program) (ops:List Oper) (ms:List (List Bool)) (j:Nat) (l:List Oper):DS→(DS→Prop)→Prop:=
 List.rec (motive:=fun _=>Nat→DS→(DS→Prop)→Prop) (fun _ d K=>K d)
  (fun o _ ih j d K=>zkK P ops d j o (nthB ms j) fun d=>Nat.forceK (Nat.succ j) fun j=>ih j d K) l j
noncomputable def zmY (P:Program) (ops:Array Oper) (t:Tm) (s:St) (K:Tm→St→Prop):Prop:=
 Need (zah ops=true) (match s with|⟨h,n⟩=>zmz ops.toList [] fun ms=>znz P ops.toList ms 0 ops.toList ⟨t,h,n,[],[],[]⟩ fun d=>match d with|⟨t,h,n,pend,_,_⟩=>(⟨merge h pend,n⟩:St).nfK fun s=>K t s)
end
end Go.Ex
namespace Go.Ex
open Go
section
variable {P : Program} {ops : List Oper} {d d' : DS} {j mask : Nat} {bl : List Bool} {o : Oper} {K : DS → Prop}
theorem zkc (hb:∀i,nb bl i=bit mask i) {ty:TypeId} {b off:Nat} {v:AV} {K:Prop}:∀{l:List (Nat×T AO)},oldK P ty b off v bl K l→zoS P ty b off v mask l∧K
 |[],h=>⟨fun p hp=>by simp at hp,h⟩
 |(i,g)::l,h=>by
  unfold oldK at h;split at h
  ·rename_i hb1;rw[hb] at hb1;obtain⟨h1,h2⟩:=zkc hb h;refine⟨fun p hp hm=> ?_,h2⟩
   rcases List.mem_cons.1 hp with rfl|hp
   ·rw[hb1] at hm;cases hm
   ·exact h1 p hp hm
  ·obtain⟨v',hv,he,h⟩:=zbm h;obtain⟨h1,h2⟩:=zkc hb h;refine⟨fun p hp hm=> ?_,h2⟩
   rcases List.mem_cons.1 hp with rfl|hp
   ·exact⟨v',hv, .inr he⟩
   ·exact h1 p hp hm
theorem zkf (hb:∀i,nb bl i=bit mask i) {h:T AO} {K:Prop}:∀{l:List (Nat×TypeId×Nat×Nat×AV)},newK P h bl K l→znD P h mask l∧K
 |[],h=>⟨fun p hp=>by simp at hp,h⟩
 |(i,ty,b,off,v)::l,h=>by
  unfold newK at h;split at h
  ·rename_i hb1;rw[hb] at hb1;obtain⟨h1,h2⟩:=zkf hb h;refine⟨fun p hp hm=> ?_,h2⟩
   rcases List.mem_cons.1 hp with rfl|hp
   ·rw[hb1] at hm;cases hm
   ·exact h1 p hp hm
  ·obtain⟨v',hv,he,h⟩:=zbm h;obtain⟨h1,h2⟩:=zkf hb h;refine⟨fun p hp hm=> ?_,h2⟩
   rcases List.mem_cons.1 hp with rfl|hp
   ·exact⟨v',hv, .inr he⟩
   ·exact h1 p hp hm
theorem zfi {v:AV} {s:St} (hg:zb5 ops d.t o=some true) (ho:Op1 P d.t ⟨.e,d.n⟩ o v s) (h:zgV d j o v s K):∃d',zf0 P ops d j o mask d'∧K d':=by
 obtain⟨t,h',n,pend,hv,lds⟩:=d;unfold zgV at h;simp only at h;split at h
 ·rename_i hn;obtain⟨t',hp,h⟩:=Tm.putK_ok h;exact⟨_,⟨t',v,hp, .inr ⟨hg, .inl ⟨s,ho,Nat.eq_of_beq_eq_true hn,rfl⟩⟩⟩,h⟩
 ·split at h
  ·rename_i hn;have hn:=Nat.eq_of_beq_eq_true hn;split at h
   ·rename_i ao hao;have h:=AO.forceK_ok h;obtain⟨t',hp,h⟩:=Tm.putK_ok h;have h:=Nat.forceK_ok h;refine⟨_,⟨t',v,hp, .inr ⟨hg, .inr (.inl ⟨s,ao,ho,hn,hao,rfl⟩)⟩⟩,?_⟩;rw[hn];exact h
   ·exact h.elim
  ·exact h.elim
theorem zhH (hb:∀i,nb bl i=bit mask i) {v:AV} {s:St} (hg:zb5 ops d.t o=some true) (hh:hvIn mask d.hv=true) (ho:Op1 P d.t ⟨merge d.h (zbq mask d.pend),d.n⟩ o v s) (h:zix P d j o bl v s K):∃d',zf0 P ops d j o mask d'∧K d':=by
 obtain⟨t,h',n,pend,hv,lds⟩:=d;obtain⟨sh,sn⟩:=s;unfold zix at h;simp only at h;split at h
 ·rename_i hn;rw[zgE hb] at h;obtain⟨hnew,h⟩:=zkf hb h;obtain⟨t',hp,h⟩:=Tm.putK_ok h;exact⟨_,⟨t',v,hp, .inr ⟨hg, .inr (.inr (.inr ⟨⟨sh,sn⟩,hh,ho,zc8 hn,hnew,rfl⟩))⟩⟩,h⟩
 ·exact h.elim
theorem OpDoes.op1 {t:Tm} {s:St} {K:KC} (h:OpDoes P t s o K):∃v s',Op1 P t s o v s'∧K v s':=by
 obtain⟨nx,hop,hnx⟩:=h
 cases nx with
 |val v s'=>exact⟨v,s', .inl hop,hnx⟩
 |enter f args=>
  obtain⟨v,s',hc,_,h⟩:=hnx;exact⟨v,s', .inr ⟨f,args,hop,hc⟩,h⟩
theorem kdOf_load {ty:TypeId} {x:Operand} {op:Op} (h:kdOf op= .load ty x):op= .load ty x:=by
 unfold kdOf at h;split at h
 ·cases h;rfl
 ·cases h
 ·cases h
 ·cases h
 ·split at h
  ·split at h<;>cases h
  ·cases h
 ·cases h
theorem kdOf_call {op:Op} (h:kdOf op= .call):∃c,op= .call c∧∀b,c.callee≠ .builtin b:=by
 unfold kdOf at h;split at h
 ·cases h
 ·cases h
 ·cases h
 ·cases h
 ·rename_i c;split at h
  ·split at h<;>cases h
  ·rename_i hb;exact⟨c,rfl,hb⟩
 ·cases h
theorem oneOp_call {t:Tm} {s s':St} {f:FuncId} {args:List AV} (hk:kdOf o.op= .call) (h:zaZ P t s o= .ok (.enter f args)):zaZ P t s' o= .ok (.enter f args):=by
 obtain⟨c,hc,hb⟩:=kdOf_call hk;unfold zaZ comp at h⊢;rw[hc] at h⊢;simp only[zhk] at h⊢;split at h
 ·exact h
 ·rename_i b hbb;exact absurd hbb (hb b)
 ·exact h
theorem stepDK_ok (hb:∀i,nb bl i=bit mask i) (h:zkK P ops d j o bl K):∃d',zf0 P ops d j o mask d'∧K d':=by
 obtain⟨t,h',n,pend,hv,lds⟩:=d;unfold zkK at h;simp only[zlq hb,zhG hb] at h
 rcases zjC h with⟨hg,h⟩|⟨hg,h⟩
 ·split at h
  ·rename_i ty x hk;have hop:=kdOf_load hk;split at h
   ·rename_i b off hx;obtain⟨v,hv,h⟩:=zbm h;have h:=AV.forceK_ok h;obtain⟨hold,h⟩:=zkc hb h;obtain⟨t',hp,h⟩:=Tm.putK_ok h;exact⟨_,⟨t',v,hp, .inr ⟨hg, .inr (.inr (.inl ⟨ty,x,b,off,hop,hx,hv,hold,rfl⟩))⟩⟩,h⟩
   ·obtain⟨v,s',h1,h2⟩:=(zk3 h).op1;exact zfi hg h1 h2
  ·obtain⟨v,s',h1,h2⟩:=(zk3 h).op1;exact zfi hg h1 h2
  ·rename_i hk
   have pure:∀{f:FuncId} {args:List AV} {v:AV},zaZ P t ⟨.e,n⟩ o= .ok (.enter f args)→PureC P f args v→(t.putK o.dst v fun t=>K ⟨t,h',n,pend,hv,lds⟩)→∃d',zf0 P ops ⟨t,h',n,pend,hv,lds⟩ j o mask d'∧K d':=by
    intro f args v hop hc hp;obtain⟨t',hp,h⟩:=Tm.putK_ok hp;exact⟨_,⟨t',v,hp, .inr ⟨hg, .inl ⟨⟨.e,n⟩, .inr ⟨f,args,hop,hc _⟩,rfl,rfl⟩⟩⟩,h⟩
   split at h
   ·rename_i f args hop;split at h
    ·rename_i hh
     rcases(St.nfK_ok h).h with⟨v,hc,hp⟩|⟨v,s',hc,hp⟩
     ·exact pure hop hc hp
     ·exact zhH hb hg hh (.inr ⟨f,args,oneOp_call hk hop,hc⟩) hp
    ·rcases h.h with⟨v,hc,hp⟩|⟨_,_,_,hf⟩
     ·exact pure hop hc hp
     ·exact hf.elim
   ·rename_i v s hop;exact zfi hg (.inl hop) (AV.forceK_ok h)
   ·exact h.elim
  ·split at h
   ·rename_i hh;obtain⟨v,s',h1,h2⟩:=(zk3 (St.nfK_ok h)).op1;exact zhH hb hg hh h1 h2
   ·exact h.elim
 ·obtain⟨t',hp,h⟩:=Tm.putK_ok h;exact⟨_,⟨t',_,hp, .inl ⟨hg,rfl,rfl⟩⟩,h⟩
theorem zlF {ml:List (List Bool)} {ms:List Nat} (hm:RepM ml ms):∀{rest:List Oper} {j:Nat} {d:DS} {K:DS→Prop},znz P ops ml j rest d K→∃D:Nat→DS,D j=d∧K (D (j+rest.length))∧∀k o,rest[k]? =some o→zf0 P ops (D (j+k)) (j+k) o (nthD ms (j+k)) (D (j+k+1))
 |[],j,d,K,h=>⟨fun _=>d,rfl,h,fun k o h=>by simp at h⟩
 |o::rest,j,d,K,h=>by
  have h:zkK P ops d j o (nthB ml j) (fun d=>Nat.forceK (Nat.succ j) fun j=>znz P ops ml j rest d K):=h;obtain⟨d1,h1,h⟩:=stepDK_ok (hm.2 j) h;obtain⟨D,e1,e2,e3⟩:=zlF hm (Nat.forceK_ok (K:=fun j=>znz P ops ml j rest d1 K) h);refine⟨fun i=>if i=j then d else D i,by simp,?_,fun k o' hk=> ?_⟩
  ·show K (if j+(o::rest).length=j then d else D (j+(o::rest).length));rw[if_neg (by simp)];rw[show j+(o::rest).length=j.succ+rest.length by simp only[List.length_cons];omega];exact e2
  ·cases k with
   |zero=>
    simp at hk;subst hk;simp only[Nat.add_zero,if_pos];rw[if_neg (by omega),e1];exact h1
   |succ k=>
    have:=e3 k o' (by simpa using hk);show zf0 P ops (if j+(k+1)=j then d else D (j+(k+1))) (j+(k+1)) o' (nthD ms (j+(k+1))) (if j+(k+1)+1=j then d else D (j+(k+1)+1));rw[if_neg (by omega),if_neg (by omega),show j+(k+1)=j.succ+k by omega];exact this
end
section
variable {P : Program} {n0 : Nat} {t : Tm} {s : St}
theorem trace_of {ops:Array Oper} {D:Nat→DS} (hd:zah ops=true) (h2:∀k o,ops.toList[k]? =some o→zf0 P ops.toList (D k) k o (nthD (masks ops.toList []) k) (D (k+1))) (h0:(D 0).pend=[]):∃op,Tr P ops op D:=by
 have hop:∀j,j<ops.size→ops[j]? =some ((ops[j]?).getD default):=fun j hj=>by simp[hj]
 have hop':∀j,j<ops.size→ops.toList[j]? =some ((ops[j]?).getD default):=fun j hj=>by simp[hj]
 have chk:∀j,j<ops.size→_:=fun j hj=>zfu hd j _ (hop' j hj)
 simp only[Nat.zero_add,List.nil_append] at chk
 have pr:∀i j,i<j→j<ops.size→zlW (Oper.looksAt ops) i ((ops[i]?).getD default) ((ops[j]?).getD default) (maskAt ops j)=true:=fun i j hi hj=>by
  have:=zec (chk j hj).2 i ((ops[i]?).getD default) (by rw[List.getElem?_take,if_pos hi];exact hop' i (by omega));unfold maskAt;simpa using this
 exact⟨fun j=>(ops[j]?).getD default,hop,fun j hj=>h2 j _ (hop' j hj),fun j hj=>zdW (chk j hj).1,fun i j hi hj=>(zdK (pr i j hi hj)).1,fun i j hi hj=>(zdK (pr i j hi hj)).2,h0⟩
theorem CodeOk.wk {c:Code} {x:Xt} {t':Tm} {s':St} (h:CodeOk P c t s x t' s') {K:Xt→Tm→St→Prop} (hk:K x t' s'):WK P n0 c t s K:=by
 intro m a w hf hd hok ha hn
 refine h m a w _ hf hd hok (ha.fresh _) fun a' w' ⟨m',hg,hf',hd'⟩=> ?_
 obtain⟨hgk,ha'⟩:=hg.gk (n0:=n0) hn ha;exact⟨x,t',s',m',rfl,hk,hf',hd',hgk,ha',Nat.le_trans hn hg.le⟩
theorem drawnK_ok (hmix:P.follows .mixedOrders=true) {ops:Array Oper} {K:Tm→St→Prop} {Q:Xt→Tm→St→Prop} (h:zmY P ops t s K) (hq:∀t' s',K t' s'→Q .normal t' s') (id:Nat):WK P n0 (.region id ops true) t s Q:=by
 unfold zmY at h;obtain⟨hd,h⟩:=h;obtain⟨ml,h,hm⟩:=zjn ops.toList (acc:=[]) (ms:=[]) ⟨rfl,fun j i=>by rw[zc9];simp[nthB,nthD,nth,zdq]⟩ h;obtain⟨D,e1,e2,e3⟩:=zlF hm h;simp only[Nat.zero_add,Array.length_toList] at e2 e3;obtain⟨op,H⟩:=trace_of hd e3 (by rw[e1]);exact((zeX hmix H e1).2 id).wk (hq _ _ (St.nfK_ok e2))
end
end Go.Ex
namespace Go.Ex
open Go
def VEq (x y:Value):Prop:=
 match x with
 | .int k a=>match y with| .int k' b=>k=k'∧a=b|_=>False
 | .bool a=>match y with| .bool b=>a=b|_=>False
 | .string ⟨⟨a⟩⟩=>match y with| .string ⟨⟨b⟩⟩=>a=b|_=>False
 |x=>x=y
theorem VEq.eq {x y:Value} (h:VEq x y):x=y:=by
 unfold VEq at h;split at h
 ·split at h
  ·obtain⟨rfl,rfl⟩:=h;rfl
  ·exact h.elim
 ·split at h
  ·rw[h]
  ·exact h.elim
 ·split at h
  ·rw[h]
  ·exact h.elim
 ·exact h
mutual
def Wz (h:T AO) (z:List Nat):AV→AV→Prop
 | .sc x,v=>match v with| .sc y=>VEq x y|_=>False
 | .any,_=>True
 | .agg l,v=>match v with| .agg l'=>Wzl h z l l'| .sc (.agg cs)=>Wzl h z l (cs.toList.map .sc)|_=>False
 | .tup l,v=>match v with| .tup l'=>Wzl h z l l'|_=>False
 | .lst sz n f,v=>match v with
  | .so b 0 n' 0=>n'=n∧b∈z∧Nat.blt 0 sz=true∧∃cs e q,h.get b=some (.row cs e q)∧n*sz≤cs.length∧∀i,i<n→(f i).length=sz∧Wzl h z (f i) ((cs.drop (i*sz)).take sz)
  | .sl b 0 n' c=>n'=n∧n≤c∧b∈z∧(Nat.blt 0 sz||(Nat.beq n 0&&Nat.beq c 0))=true∧∃cs e q,h.get b=some (.row cs e q)∧n*sz≤cs.length∧∀i,i<n→(f i).length=sz∧Wzl h z (f i) ((cs.drop (i*sz)).take sz)
  | .sc (.slice none 0 0)=>n=0
  | .lst sz' n' f'=>sz=sz'∧n=n'∧∀i,i<n→f i=f' i
  |_=>False
 | .fn f a c,v=>match v with| .fn f' a' c'=>f=f'∧Wzl h z a a'∧Wzl h z c c'|_=>False
 | .cp cs off,v=>match v with
  | .cp cs' off'=>cs=cs'∧off=off'
  | .ptr b o=>o=off∧b∈z∧∃cs0 e q,h.get b=some (.row cs0 e q)∧cs.length≤cs0.length∧Wzl h z cs (cs0.take cs.length)
  |_=>False
 |_,_=>False
def Wzl (h:T AO) (z:List Nat):List AV→List AV→Prop
 |[],l=>match l with|[]=>True|_=>False
 |x::l,ys=>match ys with|y::ys=>Wz h z x y∧Wzl h z l ys|[]=>False
end
mutual
def Wv (h:T AO) (z:List Nat) (r:Nat→Nat):AV→AV→Prop
 | .any,_=>True
 | .sc x,v=>match v with| .sc y=>VEq x y|_=>False
 | .ptr b o,v=>match v with| .ptr b' o'=>b'=r b∧o'=o|_=>False
 | .sl b o n c,v=>match v with| .sl b' o' n' c'=>b'=r b∧o'=o∧n'=n∧c'=c|_=>False
 | .so b o n s,v=>match v with| .so b' o' n' s'=>b'=r b∧o'=o∧n'=n∧s'=s|_=>False
 | .fn f a c,v=>match v with| .fn f' a' c'=>f=f'∧Wvl h z r a a'∧Wvl h z r c c'|_=>False
 | .agg l,v=>match v with| .agg l'=>Wvl h z r l l'| .sc (.agg cs)=>Wvl h z r l (cs.toList.map .sc)|_=>False
 | .tup l,v=>match v with| .tup l'=>Wvl h z r l l'|_=>False
 | .ifc t x,v=>match v with| .ifc t' x'=>t=t'∧Wv h z r x x'|_=>False
 | .lst sz n f,v=>Wz h z (.lst sz n f) v
 | .cp cs off,v=>v= .cp cs off
def Wvl (h:T AO) (z:List Nat) (r:Nat→Nat):List AV→List AV→Prop
 |[],l=>match l with|[]=>True|_=>False
 |x::l,ys=>match ys with|y::ys=>Wv h z r x y∧Wvl h z r l ys|[]=>False
end
def Weak (n0:Nat) (t:Tm) (s:St) (t1:Tm) (s1:St):Prop:=
 ∀m a w,Fit m t a→Ok m s.h.get w→Above m s.n→n0≤s.n→∃m1,Fit m1 t1 a∧Gk n0 s.h.get s1.h.get m m1 w w∧Above m1 s1.n∧n0≤s1.n
open Classical in
noncomputable def zdb (m:Mp) (F:AH) (z:List Nat) (w:World):Nat→Nat→Option Value:=fun k i=>
 match m.z k i with
 |some v=>some v
 |none=>if ∃b o,b∈z∧F b=some o∧blk m b=some k then(match w.heap[k]? with|some (.cells cur _ _)=>cur[i]? |_=>none) else none
section
variable {m : Mp} {F : AH} {z : List Nat} {w : World} {h : T AO}
theorem zaS :Zle m.z (zdb m F z w):=fun k i v hv=>by unfold zdb;rw[hv]
theorem zan {k i:Nat} {v:Value} (hv:zdb m F z w k i=some v):m.z k i=some v∨((∃b o,b∈z∧F b=some o∧blk m b=some k)∧∃cur e fr,w.heap[k]? =some (.cells cur e fr)∧cur[i]? =some v):=by
 unfold zdb at hv;split at hv
 ·rename_i v' hz;cases hv;exact .inl hz
 ·split at hv
  ·rename_i hb;split at hv
   ·rename_i cur e fr hw;exact .inr ⟨hb,cur,e,fr,hw,hv⟩
   ·cases hv
  ·cases hv
theorem ziW (hok:Ok m F w) {b k o cap:Nat} {c:List AV} {e:TypeId} {q:Nat} (hb:b∈z) (hF:F b=some (.row c e q)):∃k o cap vs,m b=some (k,o,cap)∧Rl m c vs∧∀j v,vs[j]? =some v→zdb m F z w k (o+j)=some v:=by
 obtain⟨k,o,cap,cur,fr,pre,vs,post,h1,h2,h3,h4,h5,h6,h7⟩:=hok.has b _ hF;refine⟨k,o,cap,vs,h1,h6,fun j v hv=> ?_⟩
 have hcell:cur[o+j]? =some v:=by
  rw[←Array.getElem?_toList,h4,List.getElem?_append_right (by omega),←h5,Nat.add_sub_cancel_left,List.getElem?_append_left]
  ·exact hv
  ·exact(List.getElem?_eq_some_iff.1 hv).1
 unfold zdb
 cases hz:m.z k (o+j) with
 |some v'=>
  exact absurd (by simp[blk,h1]) ((hok.fz k _ v' hz).2 b _ hF)
 |none=>
  simp only;rw[if_pos ⟨b,_,hb,hF,by simp[blk,h1]⟩,h2];exact hcell
mutual
theorem zng (hok:Ok m h.get w):∀(v1:AV) {v:AV} {x:Value},Wz h z v1 v→R1 m v x→Rz (zdb m h.get z w) v1 x
 | .sc x',v,x,hw,hr=>by
  unfold Wz at hw;split at hw
  ·rw[hw.eq];exact hr
  ·exact hw.elim
 | .any,_,_,_,_=>trivial
 | .agg l,v,x,hw,hr=>by
  unfold Wz at hw;split at hw
  ·obtain⟨l',hl,e⟩:=hr;exact⟨l',zdC hok l hw hl,e⟩
  ·rename_i cs;cases hr;exact⟨cs.toList,zdC hok l hw (Rl.sc _),by simp⟩
  ·exact hw.elim
 | .tup l,v,x,hw,hr=>by
  unfold Wz at hw;split at hw
  ·obtain⟨l',hl,e⟩:=hr;exact⟨l',zdC hok l hw hl,e⟩
  ·exact hw.elim
 | .lst sz n f,v,x,hw,hr=>by
  unfold Wz at hw
  have key:∀{b cap:Nat} {A:Option Addr},b∈z→(Nat.blt 0 sz||(Nat.beq n 0&&Nat.beq cap 0))=true→(∃k o c,m b=some (k,o,c)∧x= .slice (some ⟨k,o+0,none⟩) n cap)→n≤cap→(∃cs e q,h.get b=some (.row cs e q)∧n*sz≤cs.length∧∀i,i<n→(f i).length=sz∧Wzl h z (f i) ((cs.drop (i*sz)).take sz))→Rz (zdb m h.get z w) (.lst sz n f) x:=by
   rintro b cap A hb hsz ⟨k,o,c,hm,rfl⟩ hcap ⟨cs,e,q,hcs,hlen,hf⟩;obtain⟨k',o',cap',vs,hm',hR,hz⟩:=ziW (k:=k) (o:=o) (cap:=cap) hok hb hcs;rw[hm] at hm';cases hm';refine⟨_,cap,rfl,hcap,fun e=> ?_,fun i hi=> ?_⟩
   ·rcases e with e|e
    ·cases e
    ·subst e;simpa using hsz
   obtain⟨h1,h2⟩:=hf i hi;have hR':Rl m ((cs.drop (i*sz)).take sz) ((vs.drop (i*sz)).take sz):=(hR.drop _).take _;have hlv:=hR.length;have hle:(i+1)*sz≤n*sz:=Nat.mul_le_mul_right _ hi;rw[Nat.add_mul,Nat.one_mul] at hle;refine⟨k,o,(vs.drop (i*sz)).take sz,rfl,zdC hok (f i) h2 hR',by simp;omega,fun j v hv=> ?_⟩;rw[List.getElem?_take] at hv;split at hv
   ·rw[List.getElem?_drop] at hv;rw[Nat.add_assoc];exact hz _ _ hv
   ·cases hv
  split at hw
  ·obtain⟨rfl,hb,hsz,hrow⟩:=hw;obtain⟨k,o,c,hm,hc,e⟩:=hr;exact key (A:=none) hb (by rw[hsz];rfl) ⟨k,o,c,hm,e⟩ (by omega) hrow
  ·obtain⟨rfl,hc,hb,hsz,hrow⟩:=hw;obtain⟨k,o,c,hm,e⟩:=hr;exact key (A:=none) hb hsz ⟨k,o,c,hm,e⟩ hc hrow
  ·subst hw;cases hr;exact⟨none,0,rfl,Nat.le_refl _,fun _=>⟨rfl,rfl⟩,fun i hi=>absurd hi (Nat.not_lt_zero _)⟩
  ·obtain⟨rfl,rfl,hf⟩:=hw;obtain⟨A,cap,e,h1,h2,h3⟩:=hr;refine⟨A,cap,e,h1,h2,fun i hi=> ?_⟩;obtain⟨k,o,vs,h4,h5,h6,h7⟩:=h3 i hi;rw[hf i hi];exact⟨k,o,vs,h4,Rzl.mono zaS _ _ h5,h6,fun j v hv=>zaS _ _ _ (h7 j v hv)⟩
  ·exact hw.elim
 | .cp cs off,v,x,hw,hr=>by
  unfold Wz at hw;split at hw
  ·obtain⟨rfl,rfl⟩:=hw;exact Rz.mono zaS _ _ hr
  ·obtain⟨rfl,hb,cs0,e,q,hcs,hlen,hw⟩:=hw;obtain⟨k,o,c,hm,rfl⟩:=hr;obtain⟨k',o',cap',vs,hm',hR,hz⟩:=ziW (k:=k) (o:=o) (cap:=0) hok hb hcs;rw[hm] at hm';cases hm';refine⟨k,o,vs.take cs.length,rfl,zdC hok cs hw (hR.take _),fun j v hv=> ?_⟩;rw[List.getElem?_take] at hv;split at hv
   ·exact hz _ _ hv
   ·cases hv
  ·exact hw.elim
 | .ptr _ _,_,_,hw,_=>by unfold Wz at hw;exact hw.elim
 | .sl _ _ _ _,_,_,hw,_=>by unfold Wz at hw;exact hw.elim
 | .so _ _ _ _,_,_,hw,_=>by unfold Wz at hw;exact hw.elim
 | .fn f a c,v,x,hw,hr=>by
  unfold Wz at hw;split at hw
  ·obtain⟨rfl,h1,h2⟩:=hw;obtain⟨a',b',ha,hb,e⟩:=hr;exact⟨a',b',zdC hok a h1 ha,zdC hok c h2 hb,e⟩
  ·exact hw.elim
 | .ifc _ _,_,_,hw,_=>by unfold Wz at hw;exact hw.elim
theorem zdC (hok:Ok m h.get w):∀(l1:List AV) {l:List AV} {xs:List Value},Wzl h z l1 l→Rl m l xs→Rzl (zdb m h.get z w) l1 xs
 |[],l,xs,hw,hr=>by
  unfold Wzl at hw;split at hw
  ·exact hr
  ·exact hw.elim
 |v1::l1,l,xs,hw,hr=>by
  unfold Wzl at hw;split at hw
  ·obtain⟨y,ys,e,h1,h2⟩:=hr;exact⟨y,ys,e,zng hok v1 hw.1 h1,zdC hok l1 hw.2 h2⟩
  ·exact hw.elim
end
end
end Go.Ex
namespace Go.Ex
open Go
def seqT {α:Type}:Nat→T α→List α→T α
 |_,t,[]=>t
 |i,t,v::l=>seqT (Nat.succ i) (t.put i (some v)) l
theorem zh6 {α:Type}:∀(l:List α) (i:Nat) (t:T α) (j:Nat),(seqT i t l).get j=if i≤j then(match l[j-i]? with|some v=>some v|none=>t.get j) else t.get j
 |[],i,t,j=>by simp[seqT]
 |v::l,i,t,j=>by
  show(seqT (i+1) (t.put i (some v)) l).get j=_;rw[zh6 l (i+1) (t.put i (some v)) j,T.get_put];by_cases h:i≤j
  ·rw[if_pos h];by_cases e:j=i
   ·subst e;rw[if_neg (by omega),if_pos rfl];simp
   ·rw[if_pos (by omega),if_neg e,show j-i=(j-(i+1))+1 by omega];simp
  ·rw[if_neg h,if_neg (by omega),if_neg (by omega)]
def zaj (rows:List AO):St:=⟨seqT 0 .e rows,rows.length⟩
theorem zaD (rows:List AO) (b:Nat):(zaj rows).h.get b=rows[b]? :=by
 show(seqT 0 .e rows).get b=_;rw[zh6,if_pos (Nat.zero_le _),Nat.sub_zero];cases rows[b]? <;>rfl
def zcr :List (Nat×AV)→T AV
 |[]=> .e
 |p::l=>(zcr l).put p.1 (some p.2)
def slots (l:List (Nat×AV)) (n:Nat):Tm:=⟨zcr l,n⟩
def cont :AV→Bool
 | .sc _| .lst _ _ _| .cp _ _| .any=>true
 | .agg l=>contL l
 | .fn _ a b=>match contL a with|true=>contL b|false=>false
 |_=>false
where contL:List AV→Bool
 |[]=>true
 |x::l=>match cont x with|true=>contL l|false=>false
def rn (r:List Nat) (b:Nat):Nat:=match nth r b with|some b0=>b0|none=>0
def named (k:Nat):AV→Bool
 | .ptr b _| .sl b _ _ _| .so b _ _ _=>Nat.blt b k
 | .fn _ a b=>match nameds k a with|true=>nameds k b|false=>false
 | .agg l=>nameds k l
 | .tup l=>nameds k l
 | .ifc _ v=>named k v
 |_=>true
where nameds (k:Nat):List AV→Bool
 |[]=>true
 |x::l=>match named k x with|true=>nameds k l|false=>false
def WRow (h:T AO) (z r:List Nat) (c1 c:List AV):Prop:=(named.nameds r.length c1=true∧Wvl h z (rn r) c1 c)∨(c1=c∧cont.contL c=true)
def WO (h:T AO) (z r:List Nat) (o1 o:AO):Prop:=
 match o1 with
 | .row c1 e1 q1=>match o with| .row c e q=>e1=e∧q1=q∧WRow h z r c1 c|_=>False
 | .iter s p=>match o with| .iter s' p'=>s=s'∧p=p'|_=>False
def zhg (h:T AO) (z r0:List Nat):List AO→List Nat→Prop
 |[],r=>match r with|[]=>True|_=>False
 |o1::l,r=>match r with
  |b0::r=>match h.get b0 with|some o=>WO h z r0 o1 o∧zhg h z r0 l r|none=>False
  |[]=>False
def zkN (h:T AO) (z r:List Nat) (t:Tm):List (Nat×AV)→Prop
 |[]=>True
 |p::l=>(match named r.length p.2 with|true=>Wv h z (rn r) p.2 (t.get p.1)|false=>False)∧zkN h z r t l
def hasN (a:Nat):List Nat→Bool
 |[]=>false
 |b::l=>match Nat.beq a b with|true=>true|false=>hasN a l
def zcp (z:List Nat):List Nat→Bool
 |[]=>true
 |a::l=>match hasN a l with|true=>false|false=>match hasN a z with|true=>false|false=>zcp z l
def lowB :Nat→Nat→List Nat→Bool
 |_,0,_=>true
 |i,n+1,b::r=>match Nat.beq b i with|true=>lowB (Nat.succ i) n r|false=>false
 |_,_+1,[]=>false
section
variable {m m1 : Mp} {F : AH} {w : World} {h : T AO} {z r : List Nat}
theorem hasN_iff {a:Nat}:∀{l:List Nat},hasN a l=true↔a∈l
 |[]=>by simp[hasN]
 |b::l=>by
  unfold hasN;rw[List.mem_cons];split
  ·rename_i hb;simp[Nat.eq_of_beq_eq_true hb]
  ·rename_i hb;rw[hasN_iff];constructor
   ·exact .inr
   ·rintro(rfl|h)
    ·rw[Nat.beq_refl] at hb;cases hb
    ·exact h
theorem zco :∀{r:List Nat},zcp z r=true→(∀(i j a:Nat),r[i]? =some a→r[j]? =some a→i=j)∧∀a∈r,a∉z
 |[],_=>⟨fun i j a h=>by simp at h,fun a h=>by simp at h⟩
 |a::r,h=>by
  unfold zcp at h;split at h
  ·cases h
  ·rename_i h1;split at h
   ·cases h
   ·rename_i h2
    have h1':a∉r:=fun hm=>by rw[hasN_iff.2 hm] at h1;cases h1
    have h2':a∉z:=fun hm=>by rw[hasN_iff.2 hm] at h2;cases h2
    obtain⟨h3,h4⟩:=zco h;refine⟨fun i j b hi hj=> ?_,fun b hb=> ?_⟩
    ·cases i with
     |zero=>
      cases j with
      |zero=>rfl
      |succ j=>
       simp at hi hj;subst hi;exact absurd (List.mem_of_getElem? hj) h1'
     |succ i=>
      cases j with
      |zero=>
       simp at hi hj;subst hj;exact absurd (List.mem_of_getElem? hi) h1'
      |succ j=>
       simp at hi hj;rw[h3 i j b hi hj]
    ·rcases List.mem_cons.1 hb with rfl|hb
     ·exact h2'
     ·exact h4 b hb
theorem zis :∀{n i:Nat} {r:List Nat},lowB i n r=true→∀b,b<n→r[b]? =some (i+b)
 |0,_,_,_,b,hb=>by omega
 |n+1,i,[],h,_,_=>by cases h
 |n+1,i,a::r,h,b,hb=>by
  unfold lowB at h;split at h
  ·rename_i ha;have ha:=Nat.eq_of_beq_eq_true ha
   cases b with
   |zero=>simp[ha]
   |succ b=>
    have:=zis h b (by omega);simp only[List.getElem?_cons_succ,this]
    congr 1
    omega
  ·cases h
mutual
theorem cont_ok :∀{v:AV} {x:Value},cont v=true→R1 m v x→Zle m.z m1.z→R1 m1 v x
 | .sc _,_,_,h,_=>h
 | .lst _ _ _,_,_,h,hz=>Rz.mono hz _ _ h
 | .cp _ _,_,_,h,hz=>Rz.mono hz _ _ h
 | .agg l,_,hc,⟨l',hl,e⟩,hz=>⟨l',zbI hc hl hz,e⟩
 | .ptr _ _,_,hc,_,_=>by cases hc
 | .sl _ _ _ _,_,hc,_,_=>by cases hc
 | .so _ _ _ _,_,hc,_,_=>by cases hc
 | .fn _ a b,_,hc,⟨a',b',ha,hb,e⟩,hz=>by
  unfold cont at hc;split at hc
  ·rename_i h1;exact⟨a',b',zbI h1 ha hz,zbI hc hb hz,e⟩
  ·cases hc
 | .tup _,_,hc,_,_=>by cases hc
 | .ifc _ _,_,hc,_,_=>by cases hc
 | .any,_,_,_,_=>trivial
theorem zbI :∀{l:List AV} {xs:List Value},cont.contL l=true→Rl m l xs→Zle m.z m1.z→Rl m1 l xs
 |[],_,_,h,_=>h
 |x::l,_,hc,⟨y,ys,e,h1,h2⟩,hz=>by
  unfold cont.contL at hc;split at hc
  ·rename_i hx;exact⟨y,ys,e,cont_ok hx h1 hz,zbI hc h2 hz⟩
  ·cases hc
end
noncomputable def mNew (m:Mp) (F:AH) (z r:List Nat) (w:World):Mp:=⟨fun b=>match nth r b with|some b0=>m b0|none=>none,zdb m F z w⟩
theorem ziq {b:Nat} (hb:b<r.length):mNew m F z r w b=m (rn r b):=by
 show(match nth r b with|some b0=>m b0|none=>none)=m (rn r b);unfold rn;rw[za3,List.getElem?_eq_getElem hb]
mutual
theorem zoB (hok:Ok m h.get w):∀(v1:AV) {v:AV} {x:Value},named r.length v1=true→Wv h z (rn r) v1 v→R1 m v x→R1 (mNew m h.get z r w) v1 x
 | .any,_,_,_,_,_=>trivial
 | .sc _,v,x,_,hw,hr=>by
  unfold Wv at hw;split at hw
  ·rw[hw.eq];exact hr
  ·exact hw.elim
 | .ptr b o,v,x,hn,hw,hr=>by
  unfold Wv at hw;split at hw
  ·obtain⟨rfl,rfl⟩:=hw;obtain⟨k,o',c,hm,e⟩:=hr;exact⟨k,o',c,(ziq (zbr hn)).trans hm,e⟩
  ·exact hw.elim
 | .sl b o n c,v,x,hn,hw,hr=>by
  unfold Wv at hw;split at hw
  ·obtain⟨rfl,rfl,rfl,rfl⟩:=hw;obtain⟨k,o',c',hm,e⟩:=hr;exact⟨k,o',c',(ziq (zbr hn)).trans hm,e⟩
  ·exact hw.elim
 | .so b o n s,v,x,hn,hw,hr=>by
  unfold Wv at hw;split at hw
  ·obtain⟨rfl,rfl,rfl,rfl⟩:=hw;obtain⟨k,o',c',hm,hc,e⟩:=hr;exact⟨k,o',c',(ziq (zbr hn)).trans hm,hc,e⟩
  ·exact hw.elim
 | .fn f a c,v,x,hn,hw,hr=>by
  unfold Wv at hw;unfold named at hn;split at hw
  ·obtain⟨rfl,h1,h2⟩:=hw;obtain⟨a',b',ha,hb,e⟩:=hr;split at hn
   ·rename_i hna;exact⟨a',b',ze5 hok a hna h1 ha,ze5 hok c hn h2 hb,e⟩
   ·cases hn
  ·exact hw.elim
 | .agg l,v,x,hn,hw,hr=>by
  unfold Wv at hw;split at hw
  ·obtain⟨l',hl,e⟩:=hr;exact⟨l',ze5 hok l hn hw hl,e⟩
  ·rename_i cs;cases hr;exact⟨cs.toList,ze5 hok l hn hw (Rl.sc _),by simp⟩
  ·exact hw.elim
 | .tup l,v,x,hn,hw,hr=>by
  unfold Wv at hw;split at hw
  ·obtain⟨l',hl,e⟩:=hr;exact⟨l',ze5 hok l hn hw hl,e⟩
  ·exact hw.elim
 | .ifc t x1,v,x,hn,hw,hr=>by
  unfold Wv at hw;split at hw
  ·obtain⟨rfl,hw⟩:=hw;obtain⟨v',hv,e⟩:=hr;exact⟨v',zoB hok x1 hn hw hv,e⟩
  ·exact hw.elim
 | .lst sz n f,v,x,_,hw,hr=>by
  unfold Wv at hw;exact zng hok (.lst sz n f) hw hr
 | .cp cs off,v,x,_,hw,hr=>by
  unfold Wv at hw;subst hw;exact Rz.mono zaS _ _ hr
theorem ze5 (hok:Ok m h.get w):∀(l1:List AV) {l:List AV} {xs:List Value},named.nameds r.length l1=true→Wvl h z (rn r) l1 l→Rl m l xs→Rl (mNew m h.get z r w) l1 xs
 |[],l,xs,_,hw,hr=>by
  unfold Wvl at hw;split at hw
  ·exact hr
  ·exact hw.elim
 |v1::l1,l,xs,hn,hw,hr=>by
  unfold Wvl at hw;unfold named.nameds at hn;split at hw
  ·obtain⟨y,ys,e,h1,h2⟩:=hr;split at hn
   ·rename_i hv;exact⟨y,ys,e,zoB hok v1 hv hw.1 h1,ze5 hok l1 hn hw.2 h2⟩
   ·cases hn
  ·exact hw.elim
end
theorem zeu {r0:List Nat}:∀{rows:List AO} {r:List Nat},zhg h z r0 rows r→rows.length=r.length∧∀(b:Nat) (o1:AO),rows[b]? =some o1→∃b0 o,r[b]? =some b0∧h.get b0=some o∧WO h z r0 o1 o
 |[],r,hw=>by
  unfold zhg at hw;split at hw
  ·exact⟨rfl,fun b o1 hb=>by simp at hb⟩
  ·exact hw.elim
 |o1::l,r,hw=>by
  unfold zhg at hw;split at hw
  ·split at hw
   ·rename_i ho;obtain⟨h1,h2⟩:=hw;obtain⟨h3,h4⟩:=zeu h2;refine⟨by simp[h3],fun b o' hb=> ?_⟩
    cases b with
    |zero=>simp at hb;subst hb;exact⟨_,_,rfl,ho,h1⟩
    |succ b=>simpa using h4 b o' (by simpa using hb)
   ·exact hw.elim
  ·exact hw.elim
theorem zho {t:Tm} {v1:AV} {i:Nat}:∀{l:List (Nat×AV)},zkN h z r t l→(zcr l).get i=some v1→named r.length v1=true∧Wv h z (rn r) v1 (t.get i)
 |[],_,hv=>by cases hv
 |p::l,hw,hv=>by
  have hv':((zcr l).put p.1 (some p.2)).get i=some v1:=hv;rw[T.get_put] at hv';obtain⟨h1,h2⟩:=hw;split at hv'
  ·rename_i e;cases hv';subst e;split at h1
   ·rename_i hn;exact⟨hn,h1⟩
   ·exact h1.elim
  ·exact zho h2 hv'
theorem Weak.of {n0:Nat} {t:Tm} {s:St} (r z:List Nat) {sl:List (Nat×AV)} {n:Nat} {rows:List AO} (hn:t.n=n) (hr:(match zcp z r with|true=>lowB 0 n0 r|false=>false)=true) (hrows:zhg s.h z r rows r) (hsl:zkN s.h z r t sl):Weak n0 t s (slots sl n) (zaj rows):=by
 intro m a w hf hok ha hn0;split at hr
 ·rename_i hap;obtain⟨hinj,hz⟩:=zco hap;have hlow:=zis hr;obtain⟨hlen,hget⟩:=zeu hrows
  have hblk:∀b b0,r[b]? =some b0→blk (mNew m s.h.get z r w) b=blk m b0:=fun b b0 hb=>by
   show Option.map (fun x:Nat×Nat×Nat=>x.1) (match nth r b with|some b0=>m b0|none=>none)=_;rw[za3,hb];rfl
  have hmget:∀b b0,r[b]? =some b0→mNew m s.h.get z r w b=m b0:=fun b b0 hb=>by
   show(match nth r b with|some b0=>m b0|none=>none)=_;rw[za3,hb]
  refine⟨mNew m s.h.get z r w,⟨hn▸hf.n,fun i=> ?_⟩,⟨⟨fun b o hb=> ?_,fun b b' o o' hb hb' hne=> ?_,fun k i v hv=> ?_,hok.tbsub fun b o hb=> ?_⟩,⟨rfl,rfl,rfl,Nat.le_refl _,fun _ _ _=>rfl⟩,fun b o hb=> ?_,zaS,fun k i v hv=> ?_,fun b hb=> ?_⟩,fun b hb=> ?_,?_⟩
  ·show R1 _ (match(zcr sl).get i with|some v=>v|none=> .any) _
   cases hv:(zcr sl).get i with
   |none=>trivial
   |some v1=>
    obtain⟨h1,h2⟩:=zho hsl hv;exact zoB hok v1 h1 h2 (hf.r i)
  ·rw[zaD] at hb;obtain⟨b0,o0,h1,h2,h3⟩:=hget b o hb;have hR:=hok.has b0 o0 h2;unfold WO at h3;split at h3
   ·split at h3
    ·obtain⟨rfl,rfl,h3⟩:=h3;obtain⟨k,o,cap,cur,fr,pre,vs,post,q1,q2,q3,q4,q5,q6,q7⟩:=hR;refine⟨k,o,cap,cur,fr,pre,vs,post,(hmget b b0 h1).trans q1,q2,q3,q4,q5,?_,q7⟩
     rcases h3 with⟨h4,h5⟩|⟨rfl,h4⟩
     ·exact ze5 hok _ h4 h5 q6
     ·exact zbI h4 q6 zaS
    ·exact h3.elim
   ·split at h3
    ·obtain⟨rfl,rfl⟩:=h3;obtain⟨k,q1,q2⟩:=hR;exact⟨k,(hmget b b0 h1).trans q1,q2⟩
    ·exact h3.elim
  ·rw[zaD] at hb hb';obtain⟨b0,o0,h1,h2,_⟩:=hget b o hb;obtain⟨b0',o0',h1',h2',_⟩:=hget b' o' hb';rw[hblk b b0 h1,hblk b' b0' h1']
   refine hok.apart b0 b0' o0 o0' h2 h2' fun e=>hne ?_
   subst e;exact hinj b b' b0 h1 h1'
  ·refine⟨?_,fun b o hb=> ?_⟩
   ·rcases zan hv with h1|⟨_,h1⟩
    ·exact(hok.fz k i v h1).1
    ·exact h1
   ·rw[zaD] at hb;obtain⟨b0,o0,h1,h2,_⟩:=hget b o hb;rw[hblk b b0 h1]
    rcases zan hv with h3|⟨⟨b1,o1,h3,h4,h5⟩,_⟩
    ·exact(hok.fz k i v h3).2 b0 o0 h2
    ·intro e
     have hne:b1≠b0:=fun e1=>by
      subst e1;exact hz b1 (List.mem_of_getElem? h1) h3
     exact hok.apart b1 b0 o1 o0 h4 h2 hne (h5.trans e.symm)
  ·rw[zaD] at hb;obtain⟨b0,o0,h1,h2,_⟩:=hget b o hb;exact⟨b0,o0,h2,hblk b b0 h1⟩
  ·rw[zaD] at hb;obtain⟨b0,o0,h1,h2,_⟩:=hget b o hb;exact .inl ⟨b0,o0,h2,hblk b b0 h1⟩
  ·rcases zan hv with h1|⟨⟨b1,o1,h3,h4,h5⟩,_⟩
   ·exact .inl h1
   ·exact .inr (.inl ⟨b1,o1,h4,h5⟩)
  ·have:=hlow b hb;rw[Nat.zero_add] at this;exact hmget b b this
  ·show(match nth r b with|some b0=>m b0|none=>none)=none;rw[za3,List.getElem?_eq_none (by have:rows.length≤b:=hb;omega)]
  ·show n0≤rows.length;rw[hlen]
   cases Nat.lt_or_ge r.length n0 with
   |inl hlt=>
    have:=hlow r.length hlt;simp at this
   |inr h=>exact h
 ·cases hr
end
end Go.Ex
namespace Go.Ex
open Go
structure WLoop (P:Program) (n0:Nat) (c:Code) (t:Tm) (s:St) (K:Xt→Tm→St→Prop):Prop where
 h:WK P n0 (.loop c) t s K
def zmh (K2:Tm→St→Prop) (K:Xt→Tm→St→Prop) (x:Xt) (t:Tm) (s:St):Prop:=
 match x with
 | .normal=>K2 t s
 | .exit i=>K (.exit i) t s
 | .ret=>K .ret t s
def zjU (id:Nat) (K:Xt→Tm→St→Prop) (x:Xt) (t:Tm) (s:St):Prop:=
 match x with
 | .exit i=>match Nat.beq i id with|true=>K .normal t s|false=>K (.exit i) t s
 | .normal=>K .normal t s
 | .ret=>K .ret t s
def zow (v:AV) (a b:Prop):Prop:=
 match v with
 | .sc (.bool k)=>KIf k a b
 |_=>False
noncomputable def regK (P:Program) (ops:Array Oper) (draw:Bool) (t:Tm) (s:St) (K:Tm→St→Prop):Prop:=
 match draw with
 |false=>opsK P ops.toList ops.toList t s K
 |true=>zmY P ops t s K
noncomputable def zfy (P:Program) (n0:Nat) (c:Code):Tm→St→(Xt→Tm→St→Prop)→Prop:=
 Code.rec (motive:=fun _=>Tm→St→(Xt→Tm→St→Prop)→Prop)
  (fun t s K=>K .normal t s)
  (fun _ ops draw t s K=>regK P ops draw t s fun t s=>K .normal t s)
  (fun _ _ iha ihb t s K=>iha t s (zmh (fun t s=>ihb t s K) K))
  (fun x _ _ iha ihb t s K=>zow (ev t x) (iha t s K) (ihb t s K))
  (fun id _ iha t s K=>iha t s (zjU id K))
  (fun a _ t s K=>WLoop P n0 a t s K)
  (fun _ _ _ _ _ _ _ _ _=>False)
  (fun id t s K=>K (.exit id) t s)
  (fun _ _ _ _ _=>False)
  (fun _ t s K=>K .normal t s)
  (fun _ _ _ _=>False)
  (fun t s K=>K .ret t s)
  (fun _ _ _ _=>False) c
section
variable {P : Program} {n0 : Nat}
theorem WK.here {c:Code} {t:Tm} {s:St} {x:Xt} {K:Xt→Tm→St→Prop} (hk:K x t s) (hc:∀(Q:Exit→Act→World→Prop) a w,Q (xtE x) a w→c.wp P Q a w):WK P n0 c t s K:=fun m a w hf hd hok ha hn=>hc _ _ _ ⟨x,t,s,m,rfl,hk,hf,hd,Gk.refl hok,ha,hn⟩
theorem zbu (hmix:P.follows .mixedOrders=true):∀(c:Code) {t:Tm} {s:St} {K:Xt→Tm→St→Prop},zfy P n0 c t s K→WK P n0 c t s K
 | .skip,t,s,K,h=> .here (x:= .normal) h fun _ _ _ h=>wp_skip h
 | .label _,t,s,K,h=> .here (x:= .normal) h fun _ _ _ h=>wp_label h
 | .exit _,t,s,K,h=> .here (x:= .exit _) h fun _ _ _ h=>wp_exit h
 | .ret,t,s,K,h=> .here (x:= .ret) h fun _ _ _ h=>wp_ret h
 | .region id ops draw,t,s,K,h=>by
  have h:regK P ops draw t s fun t s=>K .normal t s:=h
  cases draw with
  |false=>
   intro m a w hf hd hok ha hn;refine wp_region_list (zij (n0:=n0) ops _ ops.toList t s _ h m a w hf hd hok ha hn ?_);rintro a' w' ⟨t',s',m',h1,h2⟩;exact⟨.normal,t',s',m',rfl,h1,h2⟩
  |true=>exact drawnK_ok hmix h (fun _ _ h=>h) id
 | .seq a b,t,s,K,h=>by
  have h:zfy P n0 a t s (zmh (fun t s=>zfy P n0 b t s K) K):=h;intro m ac w hf hd hok ha hn;refine wp_seq (wp_mono (zbu hmix a h m ac w hf hd hok ha hn) ?_);rintro e a' w' ⟨x,t',s',m',rfl,hk,hf',hd',hg,ha',hn'⟩
  cases x with
  |normal=>
   refine wp_mono (zbu hmix b hk m' a' w' hf' hd' hg.ok ha' hn') fun e a2 w2 h2=> ?_
   exact h2.trans hg
  |exit i=>exact⟨.exit i,t',s',m',rfl,hk,hf',hd',hg,ha',hn'⟩
  |ret=>exact⟨.ret,t',s',m',rfl,hk,hf',hd',hg,ha',hn'⟩
 | .cond x a b,t,s,K,h=>by
  have h:zow (ev t x) (zfy P n0 a t s K) (zfy P n0 b t s K):=h;unfold zow at h;split at h
  ·rename_i k hx;intro m ac w hf hd hok ha hn;have hv:=hf.ev x;rw[hx] at hv;cases k
   ·exact wp_cond_false hv (zbu hmix b h.ff m ac w hf hd hok ha hn)
   ·exact wp_cond_true hv (zbu hmix a h.tt m ac w hf hd hok ha hn)
  ·exact h.elim
 | .block id b,t,s,K,h=>by
  have h:zfy P n0 b t s (zjU id K):=h;intro m ac w hf hd hok ha hn;refine wp_block (wp_mono (zbu hmix b h m ac w hf hd hok ha hn) ?_);rintro e a' w' ⟨x,t',s',m',rfl,hk,hrest⟩
  cases x with
  |normal=>exact⟨.normal,t',s',m',rfl,hk,hrest⟩
  |ret=>exact⟨.ret,t',s',m',rfl,hk,hrest⟩
  |exit i=>
   show(if i=id then _ else _);split
   ·rename_i e;subst e;have hk':(match Nat.beq i i with|true=>K .normal t' s'|false=>K (.exit i) t' s'):=hk;rw[Nat.beq_refl] at hk';exact⟨.normal,t',s',m',rfl,hk',hrest⟩
   ·rename_i e;have hk':(match Nat.beq i id with|true=>K .normal t' s'|false=>K (.exit i) t' s'):=hk
    have hb:Nat.beq i id=false:=by
     cases hb:Nat.beq i id with
     |false=>rfl
     |true=>exact absurd (Nat.eq_of_beq_eq_true hb) e
    rw[hb] at hk';exact⟨.exit i,t',s',m',rfl,hk',hrest⟩
 | .loop a,t,s,K,h=>(h:WLoop P n0 a t s K).h
 | .rangeFunc _ _ _ _,_,_,_,h=>(h:False).elim
 | .scope _,_,_,_,h=>(h:False).elim
 | .goto _,_,_,_,h=>(h:False).elim
 | .refuse _,_,_,_,h=>(h:False).elim
def LPost {D:Type} (n0:Nat) (meas:D→Nat) (ok:D→Prop) (tD:D→Tm) (sD:D→St) (d:D) (K:Xt→Tm→St→Prop) (x:Xt) (t:Tm) (s:St):Prop:=
 match x with
 | .normal=>∃d',ok d'∧meas d'<meas d∧Weak n0 t s (tD d') (sD d')
 | .exit i=>K (.exit i) t s
 | .ret=>K .ret t s
def startK (t:Tm) (s:St) (K:Tm→St→Prop):Prop:=match t with|⟨t,n⟩=>Nat.forceK n fun n=>T.nfAK t fun t=>s.nfK fun s=>K ⟨t,n⟩ s
where T.nfAK:T AV→(T AV→Prop)→Prop
 | .e,K=>K .e
 | .n l v r,K=>T.nfAK l fun l=>match v with
  |none=>T.nfAK r fun r=>K (.n l none r)
  |some v=>v.forceK fun v=>T.nfAK r fun r=>K (.n l (some v) r)
 | .f a b g t,K=>T.nfAK t fun t=>K (.f a b g t)
theorem zgN :∀(t:T AV) (K:T AV→Prop),startK.T.nfAK t K→K t
 | .e,K,h=>h
 | .n l v r,K,h=>by
  have h1:=zgN l _ h
  cases v with
  |none=>exact zgN r _ h1
  |some o=>exact zgN r _ (AV.forceK_ok h1)
 | .f a b g t,K,h=>zgN t (fun t=>K (.f a b g t)) h
theorem zce {t:Tm} {s:St} {K:Tm→St→Prop} (h:startK t s K):K t s:=by
 obtain⟨t,n⟩:=t;exact St.nfK_ok (K:=fun s=>K ⟨t,n⟩ s) (zgN t _ (Nat.forceK_ok (K:=fun n=>startK.T.nfAK t fun t=>s.nfK fun s=>K ⟨t,n⟩ s) h))
theorem WLoop.inv (hmix:P.follows .mixedOrders=true) {c:Code} {t:Tm} {s:St} {K:Xt→Tm→St→Prop} {D:Type} (meas:D→Nat) (ok:D→Prop) (tD:D→Tm) (sD:D→St) (d0:D) (h0:ok d0) (hw:Weak n0 t s (tD d0) (sD d0))
  (hr:∀d,ok d→startK (tD d) (sD d) fun t s=>zfy P n0 c t s (LPost n0 meas ok tD sD d K)):WLoop P n0 c t s K:=by
 have key:∀k d,meas d≤k→ok d→∀m a w,Fit m (tD d) a→a.defers=[]→Ok m (sD d).h.get w→Above m (sD d).n→n0≤(sD d).n→LpN P c (After n0 m w (sD d) K) (k+1) a w:=by
  intro k
  induction k with
  |zero=>
   intro d hm hd m a w hf hdf hok ha hn;refine wp_mono (zbu hmix c (zce (hr d hd)) m a w hf hdf hok ha hn) ?_;rintro e a' w' ⟨x,t',s',m',rfl,hk,hrest⟩
   cases x with
   |normal=>
    obtain⟨d',_,hlt,_⟩:=hk;omega
   |exit i=>exact⟨.exit i,t',s',m',rfl,hk,hrest⟩
   |ret=>exact⟨.ret,t',s',m',rfl,hk,hrest⟩
  |succ k ih=>
   intro d hm hd m a w hf hdf hok ha hn;refine wp_mono (zbu hmix c (zce (hr d hd)) m a w hf hdf hok ha hn) ?_;rintro e a' w' ⟨x,t',s',m',rfl,hk,hf',hd',hg,ha',hn'⟩
   cases x with
   |normal=>
    obtain⟨d',hd2,hlt,hw2⟩:=hk;obtain⟨m2,hf2,hg2,ha2,hn2⟩:=hw2 m' a' w' hf' hg.ok ha' hn';have:=ih d' (by omega) hd2 m2 a' w' hf2 hd' hg2.ok ha2 hn2;show LpN P c (After n0 m w (sD d) K) (k+1) a' w'
    have mono:∀n a w {Q Q':Exit→Act→World→Prop},(∀e a w,Q e a w→Q' e a w)→LpN P c Q n a w→LpN P c Q' n a w:=by
     intro n
     induction n with
     |zero=>intro a w Q Q' _ h;exact h.elim
     |succ n ihn=>
      intro a w Q Q' hQ h
      refine wp_mono h fun e a w he=> ?_
      cases e<;>first|exact ihn _ _ hQ he|exact hQ _ _ _ he
    exact mono _ _ _ (fun e a2 w2 h2=>(h2.trans hg2).trans hg) this
   |exit i=>exact⟨.exit i,t',s',m',rfl,hk,hf',hd',hg,ha',hn'⟩
   |ret=>exact⟨.ret,t',s',m',rfl,hk,hf',hd',hg,ha',hn'⟩
 refine⟨fun m a w hf hd hok ha hn=> ?_⟩;obtain⟨m1,hf1,hg1,ha1,hn1⟩:=hw m a w hf hok ha hn
 refine wp_mono (ziY (key (meas d0) d0 (Nat.le_refl _) h0 m1 a w hf1 hd hg1.ok ha1 hn1)) fun e a' w' h=>h.trans hg1
def retK (P:Program) (t:Tm) (s:St) (rs:List ResultVar) (K:KC):Prop:=RK (zeA P t s rs) fun l=>K (zba l) s
noncomputable def funK (P:Program) (n0:Nat) (f:FuncId) (args:List AV) (s:St) (K:KC):Prop:=
 match P.funcs[f]? with
 |none=>False
 |some fn=>match fn.body with
  |none=>False
  |some c=>Nat.forceK args.length fun a=>startK ⟨zfk 0 .e args,Nat.add a (Nat.sub fn.ntmps a)⟩ s fun t s=>zfy P n0 c t s fun x t s=>
   match x with
   | .exit _=>False
   |_=>retK P t s fn.results.toList K
structure PRet (v v0:AV) (s:St):Prop where
 h:∃z,Wz s.h z v v0
theorem PRet.z {v v0:AV} {s:St} (z:List Nat) (h:Wz s.h z v v0):PRet v v0 s:=⟨z,h⟩
theorem PureC.core (hmix:P.follows .mixedOrders=true) {f:FuncId} {args:List AV} {v:AV} {n:Nat} (h:funK P 0 f args ⟨.e,n⟩ (PRet v)) {s0:St} {m m0:Mp} {w:World} {args':List Value} (hok:Ok m s0.h.get w) (hz:m0.z=m.z) (ha:Above m0 n) (hR0:Rl m0 args args'):
  Calls P f args'.toArray w fun e w'=>∃y m',e= .returned y∧Goes s0.h.get s0.h.get s0.n s0.n m m' w w'∧R1 m' v y:=by
 obtain⟨g0,z0⟩:=m0;simp only at hz;subst hz;unfold funK at h;split at h
 ·exact h.elim
 ·rename_i fn hfn;split at h
  ·exact h.elim
  ·rename_i c hcb;have h:=zce (Nat.forceK_ok (K:=fun a=>startK ⟨zfk 0 .e args,Nat.add a (Nat.sub fn.ntmps a)⟩ ⟨.e,n⟩ fun t s=>zfy P 0 c t s fun x t s=>match x with| .exit _=>False|_=>retK P t s fn.results.toList (PRet v)) h)
   let m0:Mp:=⟨g0,m.z⟩
   have hok0:Ok m0 (⟨.e,n⟩:St).h.get w:=⟨fun _ _ h=>(by cases h),fun _ _ _ _ h=>(by cases h),fun k i v hv=>⟨(hok.fz k i v hv).1,fun _ _ h=>(by cases h)⟩,hok.tbsub fun _ _ h=>(by cases h)⟩
   refine calls_of_wp hfn hcb (wp_mono (zbu hmix c h m0 _ w (Fit.start hR0 fn.ntmps) rfl hok0 ha (Nat.zero_le _)) ?_);rintro e a' w' ⟨x,t',s',m',rfl,hk,hf',hd',hg,ha',hn'⟩
   have hx:xtE x= .normal∨xtE x= .ret:=by
    cases x with
    |normal=>exact .inl rfl
    |ret=>exact .inr rfl
    |exit i=>exact hk.elim
   have hk':retK P t' s' fn.results.toList (PRet v):=by
    cases x with
    |normal=>exact hk
    |ret=>exact hk
    |exit i=>exact hk.elim
   obtain⟨l,hl,⟨z,hz⟩⟩:=zbm hk';obtain⟨y,hy,hRy⟩:=zca (fn:=fn) hf' hg.ok hl;have hRz:=zng (z:=z) hg.ok v hz hRy
   have fin:∃y' m2,Ending.returned y= .returned y'∧Goes s0.h.get s0.h.get s0.n s0.n m m2 w w'∧R1 m2 v y':=by
    refine⟨y,⟨m.f,zdb m' s'.h.get z w'⟩,rfl,⟨Nat.le_refl _,fun _ _=>rfl,⟨fun b o hb=> ?_,hok.apart,fun k i v hv=> ?_,hok.tbs (fun k hk _=>hg.fr.block k hk fun b o hb=>by cases hb) fun b o hb=> .inl ⟨b,o,hb,rfl⟩⟩,⟨hg.fr.os,hg.fr.tape,hg.fr.output,hg.fr.size,fun k hk _=>hg.fr.block k hk fun b o hb=>by cases hb⟩,fun b o hb=> .inl ⟨b,o,hb,rfl⟩,fun k i v hv=>zaS _ _ _ (hg.zle k i v hv),fun k i v hv=> ?_⟩,hRz.r1⟩
    ·have hRo:=hok.has b o hb
     refine AO.R_keep hRo ⟨fun _ _ h=>h,fun k i v hv=>zaS _ _ _ (hg.zle k i v hv)⟩ fun k hk=> ?_
     obtain⟨k',hk',hlt⟩:=AO.R_blk hRo;rw[hk] at hk';cases hk'
     exact hg.fr.block k hlt fun b o hb=>by cases hb
    ·have hnew:m.z k i=some v∨w.heap.size≤k:=by
      rcases zan hv with h1|⟨⟨b1,o1,h3,h4,h5⟩,_⟩
      ·rcases hg.znew k i v h1 with h2|⟨b0,o0,h2,_⟩|h2
       ·exact .inl h2
       ·cases h2
       ·exact .inr h2
      ·rcases hg.new b1 o1 h4 with⟨b0,o0,h0,_⟩|⟨k1,e1,hk1⟩
       ·cases h0
       ·rw[e1] at h5;cases h5;exact .inr hk1
     have hcell:∃cur e fr,w'.heap[k]? =some (.cells cur e fr)∧cur[i]? =some v:=by
      rcases zan hv with h1|⟨_,h1⟩
      ·exact(hg.ok.fz k i v h1).1
      ·exact h1
     refine⟨hcell,fun b o hb=> ?_⟩
     rcases hnew with h1|h1
     ·exact(hok.fz k i v h1).2 b o hb
     ·obtain⟨k',hk',hlt⟩:=AO.R_blk (hok.has b o hb);show blk m b≠some k;rw[hk'];intro e;cases e;omega
    ·rcases zan hv with h1|⟨⟨b1,o1,h3,h4,h5⟩,_⟩
     ·rcases hg.znew k i v h1 with h2|⟨b0,o0,h2,_⟩|h2
      ·exact .inl h2
      ·cases h2
      ·exact .inr (.inr h2)
     ·rcases hg.new b1 o1 h4 with⟨b0,o0,h0,_⟩|⟨k1,e1,hk1⟩
      ·cases h0
      ·rw[e1] at h5;cases h5;exact .inr (.inr hk1)
   rcases hx with hx|hx
   ·rw[hx];exact⟨hd',y,hy,fin⟩
   ·rw[hx];exact⟨hd',y,hy,fin⟩
theorem PureC.of (hmix:P.follows .mixedOrders=true) {f:FuncId} {args:List AV} {v:AV} (hc:cont.contL args=true) (h:funK P 0 f args ⟨.e,0⟩ (PRet v)):PureC P f args v:=by
 intro s0 m w args' hR hok _;exact PureC.core hmix h hok (m0:=⟨fun _=>none,m.z⟩) rfl (fun _ _=>rfl) (zbI (m1:=⟨fun _=>none,m.z⟩) hc hR fun _ _ _ h=>h)
end
end Go.Ex
namespace Go.Ex
open Go
theorem zls {α:Type} {enc:α→List AV} {sz:Nat} (he:∀x,(enc x).length=sz) (o:α):∀(l:List α) (j k:Nat),j<l.length→k<sz→(l.flatMap enc)[j*sz+k]? =(enc (gd o l j))[k]?
 |[],j,k,h,_=>by simp at h
 |a::l,0,k,_,hk=>by
  rw[List.flatMap_cons,Nat.zero_mul,Nat.zero_add,List.getElem?_append_left (by rw[he];exact hk)];rfl
 |a::l,j+1,k,h,hk=>by
  rw[List.flatMap_cons,List.getElem?_append_right (by rw[he,Nat.add_mul];omega),he,show(j+1)*sz+k-sz=j*sz+k by rw[Nat.add_mul];omega];rw[zls he o l j k (by simpa using h) hk];rfl
theorem zbj {α:Type} {enc:α→List AV} {sz:Nat} (he:∀x,(enc x).length=sz):∀l:List α,(l.flatMap enc).length=l.length*sz
 |[]=>by simp
 |a::l=>by rw[List.flatMap_cons,List.length_append,he,zbj he l,List.length_cons,Nat.add_mul,Nat.one_mul,Nat.add_comm]
theorem flat_take {α:Type} {enc:α→List AV} {sz:Nat} (he:∀x,(enc x).length=sz) (o:α) (l:List α) (j:Nat) (h:j<l.length):((l.flatMap enc).drop (j*sz)).take sz=enc (gd o l j):=by
 apply List.ext_getElem?;intro k;rw[List.getElem?_take];split
 ·rename_i hk;rw[List.getElem?_drop,zls he o l j k h hk]
 ·rename_i hk;rw[List.getElem?_eq_none (by rw[he];omega)]
theorem zaK {α:Type} (enc:α→List AV) (o:α) (l:List α):(List.range l.length).flatMap (fun i=>enc (gd o l i))=l.flatMap enc:=by
 induction l with
 |nil=>rfl
 |cons a l ih=>
  rw[List.length_cons,List.range_succ_eq_map,List.flatMap_cons,List.flatMap_cons,List.flatMap_map]
  congr 1
theorem zas {α:Type} {enc:α→List AV} (h:∀x,cont.contL (enc x)=true):∀l:List α,cont.contL (l.flatMap enc)=true
 |[]=>rfl
 |a::l=>by
  rw[List.flatMap_cons]
  have app:∀{x y:List AV},cont.contL x=true→cont.contL y=true→cont.contL (x++y)=true:=by
   intro x y hx hy
   induction x with
   |nil=>exact hy
   |cons b x ih=>
    unfold cont.contL at hx;show cont.contL (b::(x++y))=true;unfold cont.contL;split at hx
    ·exact ih hx
    ·cases hx
  exact app (h a) (zas h l)
theorem zk4 :∀{l:List AV} {k:Nat} {v:AV},l[k]? =some v→zmt l k= .ok v
 |[],_,_,h=>by simp at h
 |a::l,0,v,h=>by simp at h;rw[h];rfl
 |a::l,k+1,v,h=>zk4 (l:=l) (by simpa using h)
theorem zf1 :∀{l:List AV} {n:Nat},n≤l.length→zlT l n= .ok (l.take n)
 |l,0,_=>by cases l<;>rfl
 |[],n+1,h=>by simp at h
 |a::l,n+1,h=>by
  show bd (zlT l n) (fun l=> .ok (a::l))=_;rw[zf1 (by simpa using h)];rfl
section
variable {P : Program} {t : Tm} {s : St} {o : Oper} {K : KC}
def tyS (P:Program) (T:TypeId):R (Bool×Nat):=bd (ty P T) fun i=> .ok (aggD i.d,i.size)
theorem zl2 {T:TypeId} {a:Bool} {n:Nat} (h:tyS P T= .ok (a,n)):∃i,ty P T= .ok i∧aggD i.d=a∧i.size=n:=by
 obtain⟨i,hi,h⟩:=zag h
 have h2:(aggD i.d,i.size)=(a,n):=by injection h
 exact⟨i,hi,congrArg Prod.fst h2,congrArg Prod.snd h2⟩
theorem zjs {T:TypeId} {b off n:Nat} {c:List AV} {e:TypeId} {q:Nat} {v:AV} (hr:s.h.get b=some (.row c e q)) (hT:tyS P T= .ok (false,n)) (hv:c[off]? =some v):zct P s T b off= .ok v:=by
 obtain⟨i,hi,ha,hs⟩:=zl2 hT;unfold zct rowAt;rw[hi,hr];simp only[bd,ofO,rowOf,zdY,ha];exact zk4 hv
theorem loadV_agg {T:TypeId} {b off n:Nat} {c:List AV} {e:TypeId} {q:Nat} {l:List AV} (hr:s.h.get b=some (.row c e q)) (hT:tyS P T= .ok (true,n)) (hn:off+n≤c.length) (hv:(c.drop off).take n=l):zct P s T b off= .ok (.agg l):=by
 obtain⟨i,hi,ha,hs⟩:=zl2 hT;unfold zct rowAt;rw[hi,hr];simp only[bd,ofO,rowOf,zdY,ha,takeN,hs];rw[zf1 (by simp;omega),hv]
theorem RK.of {α:Type} {r:R α} {a:α} {K:α→Prop} (h:r= .ok a) (hk:K a):RK r K:=by rw[h];exact hk
theorem zjd :∀{l xs:List AV},xs.length≤l.length→(∀x∈xs,oneA x=true)→zeD l xs= .ok (xs++l.drop xs.length)
 |l,[],_,_=>by cases l<;>rfl
 |[],x::xs,h,_=>by simp at h
 |a::l,x::xs,h,h1=>by
  show(match oneA x with|true=>bd (zeD l xs) fun l=> .ok (x::l)|false=> .no "store not of one cell")=_;rw[h1 x (by simp),zjd (by simpa using h) fun y hy=>h1 y (by simp[hy])];rfl
theorem zig :∀{l:List AV} {off:Nat} {xs:List AV},off+xs.length≤l.length→(∀x∈xs,oneA x=true)→putAt l off xs= .ok (l.take off++(xs++l.drop (off+xs.length)))
 |l,0,xs,h,h1=>by
  have:putAt l 0 xs=zeD l xs:=by cases l<;>rfl
  rw[this,zjd (by omega) h1];simp
 |[],off+1,xs,h,_=>by simp at h
 |a::l,off+1,xs,h,h1=>by
  show bd (putAt l off xs) (fun l=> .ok (a::l))=_;rw[zig (by simp at h;omega) h1];simp[bd,show off+1+xs.length=(off+xs.length)+1 by omega]
theorem zdg {T:TypeId} {b off:Nat} {v:AV} {c c':List AV} {e:TypeId} {q:Nat} (hn:zd2 v=true) {a:Bool} {n:Nat} (hT:tyS P T= .ok (a,n)) (hl:v.cells.length=n) (h1:∀x∈v.cells,oneA x=true) (hr:s.h.get b=some (.row c e q)) (ho2:off+n≤c.length) (hc:c.take off++(v.cells++c.drop (off+n))=c'):
  zcD P s T (.ptr b off) v= .ok (.val AV.undef (s.set b (.row c' e q))):=by
 obtain⟨i,hi,ha,hs⟩:=zl2 hT
 have hb:Nat.beq v.cells.length i.size=true:=by rw[hl,hs];exact Nat.beq_refl _
 simp only[zcD,hi,bd,hn,iff',hb,zcd,rowAt,hr,ofO,rowOf];rw[zig (by omega) h1,hl,hc]
theorem zdf {r:R Nx} {v:AV} {s':St} (h:r= .ok (.val v s')) (hk:s'.nfK fun s'=>K v s'):zdZ r K:=by rw[h];exact hk
theorem store1 {α:Type} (enc:α→AV) {l:List α} {T:TypeId} {b j off:Nat} {a:α} {e:TypeId} {q:Nat} (hoff:off=j) (hn:zd2 (enc a)=true) {n:Bool} (hT:tyS P T= .ok (n,1)) (hl:(enc a).cells=[enc a]) (h1:oneA (enc a)=true) (hr:s.h.get b=some (.row (l.map enc) e q)) (hj:j<l.length)
  (hk:(s.set b (.row ((l.set j a).map enc) e q)).nfK fun s=>K AV.undef s):zdZ (zcD P s T (.ptr b off) (enc a)) K:=by
 subst hoff;refine zdf (zdg hn hT (by rw[hl];rfl) (by rw[hl];intro z hz;simp at hz;rw[hz];exact h1) hr (by simp;omega) ?_) hk;rw[hl];apply List.ext_getElem?;intro k;by_cases h:k<off
 ·rw[List.getElem?_append_left (by simp;omega),List.getElem?_take,if_pos h,List.getElem?_map,List.getElem?_map,List.getElem?_set_ne (by omega)]
 ·by_cases h2:k=off
  ·subst h2;rw[List.getElem?_append_right (by simp;omega),List.getElem?_map,List.getElem?_set_self hj];simp[Nat.min_eq_left (Nat.le_of_lt hj)]
  ·rw[List.getElem?_append_right (by simp;omega),List.getElem?_map,List.getElem?_set_ne (by omega)];simp only[List.length_take,List.length_map,Nat.min_eq_left (Nat.le_of_lt hj)];rw[List.getElem?_append_right (by simp;omega),List.getElem?_drop,List.getElem?_map]
   congr 2
   simp;omega
end
def zbM (h:T AO):List Nat→T AO
 |[]=>h
 |b::l=>(zbM h l).put b none
theorem zaB {h:T AO} {b:Nat} {o:AO}:∀{l:List Nat},(zbM h l).get b=some o→h.get b=some o∧b∉l
 |[],hb=>⟨hb,by simp⟩
 |a::l,hb=>by
  have hb':((zbM h l).put a none).get b=some o:=hb;rw[T.get_put] at hb';split at hb'
  ·cases hb'
  ·rename_i hne;obtain⟨h1,h2⟩:=zaB hb';exact⟨h1,by simp[hne,h2]⟩
theorem CallOk.frz {P:Program} {f:FuncId} {args args1:List AV} {s:St} {v:AV} (z:List Nat) (hw:Wzl s.h z args1 args) (hc:PureC P f args1 v):CallOk P f args s v ⟨zbM s.h z,s.n⟩:=by
 intro m w args' hR hok hfr
 let m1:Mp:=⟨m.f,zdb m s.h.get z w⟩
 have hok1:Ok m1 (⟨zbM s.h z,s.n⟩:St).h.get w:=by
  refine⟨fun b o hb=> ?_,fun b b' o o' hb hb' hne=>hok.apart b b' o o' (zaB hb).1 (zaB hb').1 hne,fun k i v hv=> ?_,hok.tbsub fun b o hb=>⟨b,o,(zaB hb).1,rfl⟩⟩
  ·exact AO.R_keep (hok.has b o (zaB hb).1) ⟨fun _ _ h=>h,zaS⟩ fun _ _=>rfl
  ·rcases zan hv with h1|⟨⟨b1,o1,h3,h4,h5⟩,h6⟩
   ·exact⟨(hok.fz k i v h1).1,fun b o hb=>(hok.fz k i v h1).2 b o (zaB hb).1⟩
   ·refine⟨h6,fun b o hb e=> ?_⟩;obtain⟨h7,h8⟩:=zaB hb
    have hne:b1≠b:=fun e1=>by subst e1;exact h8 h3
    exact hok.apart b1 b o1 o h4 h7 hne (h5.trans e.symm)
 have hR1:Rl m1 args1 args':=Rzl.rl (m:=m1) (zdC hok args1 hw hR);refine Calls.mono (hc ⟨zbM s.h z,s.n⟩ m1 w args' hR1 hok1 hfr) ?_;rintro e w' ⟨y,m',rfl,hg,hv⟩;refine⟨y,m',rfl,⟨hg.le,hg.ext,hg.ok,⟨hg.fr.os,hg.fr.tape,hg.fr.output,hg.fr.size,fun k hk hn=>hg.fr.block k hk fun b o hb=>hn b o (zaB hb).1⟩,fun b o hb=> ?_,fun k i v hv=>hg.zle k i v (zaS _ _ _ hv),fun k i v hv=> ?_⟩,hv⟩
 ·rcases hg.new b o hb with⟨b0,o0,h0,e0⟩|h
  ·exact .inl ⟨b0,o0,(zaB h0).1,e0⟩
  ·exact .inr h
 ·rcases hg.znew k i v hv with h1|⟨b0,o0,h0,e0⟩|h1
  ·rcases zan h1 with h2|⟨⟨b1,o1,h3,h4,h5⟩,_⟩
   ·exact .inl h2
   ·exact .inr (.inl ⟨b1,o1,h4,h5⟩)
  ·exact .inr (.inl ⟨b0,o0,(zaB h0).1,e0⟩)
  ·exact .inr (.inr h1)
theorem KCall.frz {P:Program} {f:FuncId} {args args1:List AV} {s:St} {K:KC} {v:AV} (z:List Nat) (hc:PureC P f args1 v) (hw:Wzl s.h z args1 args) (hk:(⟨zbM s.h z,s.n⟩:St).nfK fun s=>K v s):KCall P f args s K:=⟨v,_,CallOk.frz z hw hc,Nat.le_refl _,St.nfK_ok hk⟩
theorem DCall.frz {P:Program} {f:FuncId} {args args1:List AV} {light:AV→Prop} {heavy:AV→St→Prop} {s:St} {v:AV} (z:List Nat) (hc:PureC P f args1 v) (hw:Wzl s.h z args1 args) (hk:(⟨zbM s.h z,s.n⟩:St).nfK fun s=>heavy v s):DCall P f args light heavy s:=⟨.inr ⟨v,_,CallOk.frz z hw hc,St.nfK_ok hk⟩⟩
end Go.Ex
namespace Go.Ex
open Go
theorem VEq.refl (x:Value):VEq x x:=by
 unfold VEq;split
 ·exact⟨rfl,rfl⟩
 ·rfl
 ·rfl
 ·rfl
mutual
theorem zaa {h:T AO} {z:List Nat}:∀{v:AV},cont v=true→Wz h z v v
 | .sc x,_=>by unfold Wz;exact VEq.refl x
 | .lst sz n f,_=>by unfold Wz;exact⟨rfl,rfl,fun _ _=>rfl⟩
 | .cp cs off,_=>by unfold Wz;exact⟨rfl,rfl⟩
 | .agg l,hc=>by unfold Wz;exact zdX hc
 | .ptr _ _,hc=>by cases hc
 | .sl _ _ _ _,hc=>by cases hc
 | .so _ _ _ _,hc=>by cases hc
 | .fn _ a b,hc=>by
  unfold cont at hc;unfold Wz;split at hc
  ·rename_i h1;exact⟨rfl,zdX h1,zdX hc⟩
  ·cases hc
 | .tup _,hc=>by cases hc
 | .ifc _ _,hc=>by cases hc
 | .any,_=>by unfold Wz;trivial
theorem zdX {h:T AO} {z:List Nat}:∀{l:List AV},cont.contL l=true→Wzl h z l l
 |[],_=>by unfold Wzl;trivial
 |x::l,hc=>by
  unfold cont.contL at hc;unfold Wzl;split at hc
  ·rename_i hx;exact⟨zaa hx,zdX hc⟩
  ·cases hc
end
theorem zht {f:Nat→List AV} {sz:Nat}:∀(n i:Nat),(∀j,j<n→(f j).length=sz)→i<n→(((List.range n).flatMap f).drop (i*sz)).take sz=f i:=by
 intro n i hf hi;have h2:=flat_take (enc:=fun j=>if j<n then f j else List.replicate sz (.sc undef)) (sz:=sz) (fun x=>by by_cases hx:x<n<;>simp[hx,hf]) 0 (List.range n) i (by simpa using hi)
 have e:(List.range n).flatMap (fun j=>if j<n then f j else List.replicate sz (.sc undef))=(List.range n).flatMap f:=by
  rw[List.flatMap_def,List.flatMap_def]
  congr 1
  apply List.map_congr_left;intro a ha;rw[if_pos (by simpa using ha)]
 rw[e] at h2;rw[h2]
 have:gd 0 (List.range n) i=i:=by
  unfold gd;rw[List.getElem?_range hi];rfl
 rw[this];simp[hi]
theorem Wz.own {h:T AO} {z:List Nat} {b n n' sz:Nat} {f:Nat→List AV} {cs:List AV} {e:TypeId} {q:Nat} (hb:h.get b=some (.row cs e q)) (hz:b∈z) (hn:n'=n) (hf:∀i,i<n→(f i).length=sz) (hw:cs=(List.range n).flatMap f) (hc:∀i,i<n→cont.contL (f i)=true) (hp:Nat.blt 0 sz=true:=by rfl):Wz h z (.lst sz n f) (.so b 0 n' 0):=by
 unfold Wz;refine⟨hn,hz,hp,cs,e,q,hb,?_,fun i hi=>⟨hf i hi,?_⟩⟩
 ·rw[hw]
  have:∀k,k≤n→((List.range k).flatMap f).length=k*sz:=by
   intro k
   induction k with
   |zero=>intro _;simp
   |succ k ih=>
    intro hk;rw[List.range_succ,List.flatMap_append,List.length_append,ih (by omega)];simp[hf k (by omega),Nat.add_mul]
  rw[this n (Nat.le_refl _)];exact Nat.le_refl _
 ·rw[hw,zht n i hf hi];exact zdX (hc i hi)
theorem Wz.ownS {h:T AO} {z:List Nat} {b n n' c sz:Nat} {f:Nat→List AV} {cs:List AV} {e:TypeId} {q:Nat} (hb:h.get b=some (.row cs e q)) (hz:b∈z) (hn:n'=n) (hnc:n≤c) (hf:∀i,i<n→(f i).length=sz) (hw:cs=(List.range n).flatMap f) (hc:∀i,i<n→cont.contL (f i)=true) (hp:(Nat.blt 0 sz||(Nat.beq n 0&&Nat.beq c 0))=true:=by rfl):Wz h z (.lst sz n f) (.sl b 0 n' c):=by
 unfold Wz;refine⟨hn,hnc,hz,hp,cs,e,q,hb,?_,fun i hi=>⟨hf i hi,?_⟩⟩
 ·rw[hw]
  have:∀k,k≤n→((List.range k).flatMap f).length=k*sz:=by
   intro k
   induction k with
   |zero=>intro _;simp
   |succ k ih=>
    intro hk;rw[List.range_succ,List.flatMap_append,List.length_append,ih (by omega)];simp[hf k (by omega),Nat.add_mul]
  rw[this n (Nat.le_refl _)];exact Nat.le_refl _
 ·rw[hw,zht n i hf hi];exact zdX (hc i hi)
theorem Wz.list {α:Type} {enc:α→List AV} {o:α} {l:List α} {h:T AO} {z:List Nat} {b n' sz:Nat} {cs:List AV} {e:TypeId} {q:Nat} (he:∀x,(enc x).length=sz) (hc:∀x,cont.contL (enc x)=true) (hb:h.get b=some (.row cs e q)) (hz:b∈z) (hn:n'=l.length) (hw:cs=l.flatMap enc) (hp:Nat.blt 0 sz=true:=by rfl):Wz h z (.lst sz l.length fun i=>enc (gd o l i)) (.so b 0 n' 0):=
 Wz.own hb hz hn (fun _ _=>he _) (by rw[hw,zaK]) (fun _ _=>hc _) hp
mutual
theorem named_cont {k:Nat}:∀{v:AV},cont v=true→named k v=true
 | .sc _,_=>rfl
 | .lst _ _ _,_=>rfl
 | .cp _ _,_=>rfl
 | .agg l,hc=>by unfold named;exact zcl hc
 | .ptr _ _,hc=>by cases hc
 | .sl _ _ _ _,hc=>by cases hc
 | .so _ _ _ _,hc=>by cases hc
 | .fn _ a b,hc=>by
  unfold cont at hc;unfold named;split at hc
  ·rename_i h1;rw[zcl h1];exact zcl hc
  ·cases hc
 | .tup _,hc=>by cases hc
 | .ifc _ _,hc=>by cases hc
 | .any,_=>rfl
theorem zcl {k:Nat}:∀{l:List AV},cont.contL l=true→named.nameds k l=true
 |[],_=>rfl
 |x::l,hc=>by
  unfold cont.contL at hc;unfold named.nameds;split at hc
  ·rename_i hx;rw[named_cont hx];exact zcl hc
  ·cases hc
end
mutual
theorem zc3 {h:T AO} {z:List Nat} {r:Nat→Nat}:∀{v:AV},cont v=true→Wv h z r v v
 | .sc x,_=>by unfold Wv;exact VEq.refl x
 | .lst sz n f,_=>by unfold Wv Wz;exact⟨rfl,rfl,fun _ _=>rfl⟩
 | .cp cs off,_=>by unfold Wv;rfl
 | .agg l,hc=>by unfold Wv;exact zbv hc
 | .ptr _ _,hc=>by cases hc
 | .sl _ _ _ _,hc=>by cases hc
 | .so _ _ _ _,hc=>by cases hc
 | .fn _ a b,hc=>by
  unfold cont at hc;unfold Wv;split at hc
  ·rename_i h1;exact⟨rfl,zbv h1,zbv hc⟩
  ·cases hc
 | .tup _,hc=>by cases hc
 | .ifc _ _,hc=>by cases hc
 | .any,_=>by unfold Wv;trivial
theorem zbv {h:T AO} {z:List Nat} {r:Nat→Nat}:∀{l:List AV},cont.contL l=true→Wvl h z r l l
 |[],_=>by unfold Wvl;trivial
 |x::l,hc=>by
  unfold cont.contL at hc;unfold Wvl;split at hc
  ·rename_i hx;exact⟨zc3 hx,zbv hc⟩
  ·cases hc
end
theorem zfF {h:T AO} {z:List Nat} {r:Nat→Nat} {x y:List AV}:∀{a b:List AV},Wvl h z r a b→Wvl h z r x y→Wvl h z r (a++x) (b++y)
 |[],b,ha,hx=>by
  unfold Wvl at ha;split at ha
  ·exact hx
  ·exact ha.elim
 |v::a,b,ha,hx=>by
  unfold Wvl at ha;split at ha
  ·rename_i w b;show Wvl h z r (v::(a++x)) (w::(b++y));unfold Wvl;exact⟨ha.1,zfF ha.2 hx⟩
  ·exact ha.elim
theorem zeL {k:Nat}:∀{a b:List AV},named.nameds k a=true→named.nameds k b=true→named.nameds k (a++b)=true
 |[],b,_,hb=>hb
 |x::a,b,ha,hb=>by
  unfold named.nameds at ha;show named.nameds k (x::(a++b))=true;unfold named.nameds;split at ha
  ·exact zeL ha hb
  ·cases ha
theorem WRow.snoc {h:T AO} {z r:List Nat} {l l' x y:List AV} (hl:l'=l++x) (hc:cont.contL l=true) (hn:named.nameds r.length x=true) (hx:Wvl h z (rn r) x y):WRow h z r l' (l++y):=by
 subst hl;exact .inl ⟨zeL (zcl hc) hn,zfF (zbv hc) hx⟩
theorem Wv.list {α:Type} {enc:α→List AV} {o:α} {l:List α} {h:T AO} {z:List Nat} {r:Nat→Nat} {b n' sz:Nat} {cs:List AV} {e:TypeId} {q:Nat} (he:∀x,(enc x).length=sz) (hc:∀x,cont.contL (enc x)=true) (hb:h.get b=some (.row cs e q)) (hz:b∈z) (hn:n'=l.length) (hw:cs=l.flatMap enc) (hp:Nat.blt 0 sz=true:=by rfl):Wv h z r (.lst sz l.length fun i=>enc (gd o l i)) (.so b 0 n' 0):=by
 unfold Wv;exact Wz.list he hc hb hz hn hw hp
theorem Wz.mt {α:Type} {enc:α→List AV} {o:α} {l:List α} {h:T AO} {z:List Nat} {b n' sz:Nat} {e:TypeId} {q:Nat} (hl:l=[]) (hn:n'=l.length) (hb:h.get b=some (.row [] e q)) (hz:b∈z):Wz h z (.lst sz l.length fun i=>enc (gd o l i)) (.sl b 0 n' 0):=by
 subst hl;exact Wz.ownS hb hz hn (Nat.zero_le _) (fun i hi=>absurd hi (Nat.not_lt_zero _)) rfl (fun i hi=>absurd hi (Nat.not_lt_zero _)) (by simp)
theorem Wv.mt {α:Type} {enc:α→List AV} {o:α} {l:List α} {h:T AO} {z:List Nat} {r:Nat→Nat} {b n' sz:Nat} {e:TypeId} {q:Nat} (hl:l=[]) (hn:n'=l.length) (hb:h.get b=some (.row [] e q)) (hz:b∈z):Wv h z r (.lst sz l.length fun i=>enc (gd o l i)) (.sl b 0 n' 0):=by
 unfold Wv;exact Wz.mt hl hn hb hz
theorem Wz.nil {α:Type} {enc:α→List AV} {o:α} {l:List α} {h:T AO} {z:List Nat} {sz:Nat} (hl:l=[]):Wz h z (.lst sz l.length fun i=>enc (gd o l i)) (.sc (.slice none 0 0)):=by
 subst hl;unfold Wz
 first|trivial|exact rfl|simp
theorem Wv.nil {α:Type} {enc:α→List AV} {o:α} {l:List α} {h:T AO} {z:List Nat} {r:Nat→Nat} {sz:Nat} (hl:l=[]):Wv h z r (.lst sz l.length fun i=>enc (gd o l i)) (.sc (.slice none 0 0)):=by
 subst hl;unfold Wv;exact Wz.nil rfl
theorem zcU {α β:Type} (enc:α→List β) (o:α):∀(l:List α) (k:Nat),k<l.length→(l.take (k+1)).flatMap enc=(l.take k).flatMap enc++enc (gd o l k)
 |[],_,h=>absurd h (Nat.not_lt_zero _)
 |x::l,0,_=>by simp[gd]
 |x::l,k+1,h=>by
  have:=zcU enc o l k (Nat.lt_of_succ_lt_succ h);show enc x++(l.take (k+1)).flatMap enc=(enc x++(l.take k).flatMap enc)++enc (gd o l k);rw[this,List.append_assoc]
theorem take_len {α β:Type} {enc:α→List β} {sz:Nat} (he:∀x,(enc x).length=sz) {l:List α} {k:Nat} (hk:k≤l.length):((l.take k).flatMap enc).length=0+k*sz:=by
 have:∀l:List α,(l.flatMap enc).length=l.length*sz:=by
  intro l
  induction l with
  |nil=>simp
  |cons x l ih=>rw[List.flatMap_cons,List.length_append,ih,he,List.length_cons,Nat.succ_mul,Nat.add_comm]
 rw[this,List.length_take,Nat.min_eq_left hk,Nat.zero_add]
mutual
def Rn (ρ:Nat→Nat):AV→AV→Prop
 | .sc x,v=>v= .sc x
 | .any,v=>v= .any
 | .ptr b o,v=>v= .ptr (ρ b) o
 | .sl b o n c,v=>v= .sl (ρ b) o n c
 | .so b o n s,v=>v= .so (ρ b) o n s
 | .lst sz n f,v=>v= .lst sz n f
 | .cp cs off,v=>v= .cp cs off
 | .fn f a c,v=>match v with| .fn f' a' c'=>f'=f∧Rnl ρ a a'∧Rnl ρ c c'|_=>False
 | .agg l,v=>match v with| .agg l'=>Rnl ρ l l'|_=>False
 | .tup l,v=>match v with| .tup l'=>Rnl ρ l l'|_=>False
 | .ifc t x,v=>match v with| .ifc t' x'=>t'=t∧Rn ρ x x'|_=>False
def Rnl (ρ:Nat→Nat):List AV→List AV→Prop
 |[],l=>match l with|[]=>True|_=>False
 |x::l,ys=>match ys with|y::ys=>Rn ρ x y∧Rnl ρ l ys|[]=>False
end
def RnO (ρ:Nat→Nat) (o1 o2:AO):Prop:=
 match o1 with
 | .row c1 e1 q1=>match o2 with| .row c e q=>e=e1∧q=q1∧(Rnl ρ c1 c∨(c=c1∧cont.contL c1=true))|_=>False
 | .iter s p=>match o2 with| .iter s' p'=>s'=s∧p'=p|_=>False
def RnOs (ρ:Nat→Nat):List AO→List AO→Prop
 |[],l=>match l with|[]=>True|_=>False
 |x::l,ys=>match ys with|y::ys=>RnO ρ x y∧RnOs ρ l ys|[]=>False
section
variable {m m' : Mp} {ρ : Nat → Nat}
mutual
theorem znj (hm:∀b x,m b=some x→m' (ρ b)=some x) (hz:Zle m.z m'.z):∀(v1:AV) {v2:AV} {x:Value},Rn ρ v1 v2→R1 m v1 x→R1 m' v2 x
 | .sc _,_,_,h,hr=>by unfold Rn at h;subst h;exact hr
 | .any,_,_,h,_=>by unfold Rn at h;subst h;trivial
 | .ptr _ _,_,_,h,⟨k,o,c,h1,e⟩=>by unfold Rn at h;subst h;exact⟨k,o,c,hm _ _ h1,e⟩
 | .sl _ _ _ _,_,_,h,⟨k,o,c,h1,e⟩=>by unfold Rn at h;subst h;exact⟨k,o,c,hm _ _ h1,e⟩
 | .so _ _ _ _,_,_,h,⟨k,o,c,h1,h2,e⟩=>by unfold Rn at h;subst h;exact⟨k,o,c,hm _ _ h1,h2,e⟩
 | .lst _ _ _,_,_,h,hr=>by unfold Rn at h;subst h;exact Rz.mono hz _ _ hr
 | .cp _ _,_,_,h,hr=>by unfold Rn at h;subst h;exact Rz.mono hz _ _ hr
 | .fn f a c,v2,x,h,⟨a',b',ha,hb,e⟩=>by
  unfold Rn at h;split at h
  ·obtain⟨rfl,h1,h2⟩:=h;exact⟨a',b',zhf hm hz a h1 ha,zhf hm hz c h2 hb,e⟩
  ·exact h.elim
 | .agg l,v2,x,h,⟨l',hl,e⟩=>by
  unfold Rn at h;split at h
  ·exact⟨l',zhf hm hz l h hl,e⟩
  ·exact h.elim
 | .tup l,v2,x,h,⟨l',hl,e⟩=>by
  unfold Rn at h;split at h
  ·exact⟨l',zhf hm hz l h hl,e⟩
  ·exact h.elim
 | .ifc t y,v2,x,h,⟨v',hv,e⟩=>by
  unfold Rn at h;split at h
  ·obtain⟨rfl,h⟩:=h;exact⟨v',znj hm hz y h hv,e⟩
  ·exact h.elim
theorem zhf (hm:∀b x,m b=some x→m' (ρ b)=some x) (hz:Zle m.z m'.z):∀(l1:List AV) {l2:List AV} {xs:List Value},Rnl ρ l1 l2→Rl m l1 xs→Rl m' l2 xs
 |[],l2,xs,h,hr=>by
  unfold Rnl at h;split at h
  ·exact hr
  ·exact h.elim
 |v::l,l2,xs,h,⟨y,ys,e,h1,h2⟩=>by
  unfold Rnl at h;split at h
  ·exact⟨y,ys,e,znj hm hz v h.1 h1,zhf hm hz l h.2 h2⟩
  ·exact h.elim
end
end
theorem ze8 {ρ:Nat→Nat}:∀{l1 l2:List AO},RnOs ρ l1 l2→∀{j:Nat} {o:AO},l2[j]? =some o→∃o1,l1[j]? =some o1∧RnO ρ o1 o
 |[],l2,h,j,o,hj=>by
  unfold RnOs at h;split at h
  ·simp at hj
  ·exact h.elim
 |x::l,l2,h,j,o,hj=>by
  unfold RnOs at h;split at h
  ·cases j with
   |zero=>simp at hj;subst hj;exact⟨_,rfl,h.1⟩
   |succ j=>simpa using ze8 h.2 (by simpa using hj)
  ·exact h.elim
def HC (P:Program) (n0:Nat) (f:FuncId) (args0:List AV) (rows0:List AO) (v1:AV) (rows1:List AO):Prop:=
 ∀m w args',Rl m args0 args'→Ok m (zaj rows0).h.get w→Above m rows0.length→Calls P f args'.toArray w fun e w'=>
  ∃y m',e= .returned y∧Gk n0 (zaj rows0).h.get (zaj rows1).h.get m m' w w'∧R1 m' v1 y∧Above m' rows1.length
structure HRet (n0:Nat) (v1:AV) (rows1:List AO) (v:AV) (s:St):Prop where
 h:∃r z,(match zcp z r with|true=>lowB 0 n0 r|false=>false)=true∧zhg s.h z r rows1 r∧zkN s.h z r ⟨zcr [(0,v)],1⟩ [(0,v1)]
theorem HC.of {P:Program} (hmix:P.follows .mixedOrders=true) {n0:Nat} {f:FuncId} {args0:List AV} {rows0 rows1:List AO} {v1:AV} (hn:n0≤rows0.length) (h:funK P n0 f args0 (zaj rows0) (HRet n0 v1 rows1)):HC P n0 f args0 rows0 v1 rows1:=by
 intro m w args' hR hok hab;unfold funK at h;split at h
 ·exact h.elim
 ·rename_i fn hfn;split at h
  ·exact h.elim
  ·rename_i c hcb;have h:=zce (Nat.forceK_ok (K:=fun a=>startK ⟨zfk 0 .e args0,Nat.add a (Nat.sub fn.ntmps a)⟩ (zaj rows0) fun t s=>zfy P n0 c t s fun x t s=>match x with| .exit _=>False|_=>retK P t s fn.results.toList (HRet n0 v1 rows1)) h);refine calls_of_wp hfn hcb (wp_mono (zbu hmix c h m _ w (Fit.start hR fn.ntmps) rfl hok hab hn) ?_);rintro e a' w' ⟨x,t',s',m',rfl,hk,hf',hd',hg,ha',hn'⟩
   have hk':retK P t' s' fn.results.toList (HRet n0 v1 rows1):=by
    cases x with
    |normal=>exact hk
    |ret=>exact hk
    |exit i=>exact hk.elim
   have hx:xtE x= .normal∨xtE x= .ret:=by
    cases x with
    |normal=>exact .inl rfl
    |ret=>exact .inr rfl
    |exit i=>exact hk.elim
   obtain⟨l,hl,⟨r,z,hr,hrows,hsl⟩⟩:=zbm hk';obtain⟨y,hy,hRy⟩:=zca (fn:=fn) hf' hg.ok hl
   have hfit:Fit m' ⟨zcr [(0,zba l)],1⟩ {tmps:= #[y],defers:=[]}:=by
    refine⟨rfl,fun i=> ?_⟩;show R1 m' (match(zcr [(0,zba l)]).get i with|some v=>v|none=> .any) _
    have:(zcr [(0,zba l)]).get i=if i=0 then some (zba l) else none:=by
     show((T.e:T AV).put 0 _).get i=_;rw[T.get_put];split<;>rfl
    rw[this];by_cases h0:i=0
    ·subst h0;rw[if_pos rfl];exact hRy
    ·rw[if_neg h0];trivial
   obtain⟨m2,hf2,hg2,ha2,hn2⟩:=Weak.of (n0:=n0) r z rfl hr hrows hsl m' _ w' hfit hg.ok ha' hn'
   have hv1:R1 m2 v1 y:=by
    have:=hf2.r 0
    have e:(slots [(0,v1)] 1).get 0=v1:=by
     show(match(((T.e:T AV).put 0 (some v1)).get 0) with|some v=>v|none=> .any)=v1;rw[T.get_put,if_pos rfl]
    rw[e] at this;exact this
   have fin:∃y' m2,Ending.returned y= .returned y'∧Gk n0 (zaj rows0).h.get (zaj rows1).h.get m m2 w w'∧R1 m2 v1 y'∧Above m2 rows1.length:=⟨y,m2,rfl,hg.trans hg2,hv1,ha2⟩
   rcases hx with hx|hx
   ·rw[hx];exact⟨hd',y,hy,fin⟩
   ·rw[hx];exact⟨hd',y,hy,fin⟩
section
variable {m : Mp} {w : World} {s : St} {z r : List Nat} {rows : List AO}
theorem zed {b b0:Nat} (hb:r[b]? =some b0):mNew m s.h.get z r w b=m b0:=by
 show(match nth r b with|some b0=>m b0|none=>none)=_;rw[za3,hb]
theorem mNew_gk (hap:zcp z r=true) (hrows:zhg s.h z r rows r) (hok:Ok m s.h.get w):Gk 0 s.h.get (zaj rows).h.get m (mNew m s.h.get z r w) w w∧Above (mNew m s.h.get z r w) rows.length:=by
 obtain⟨hinj,hz⟩:=zco hap;obtain⟨hlen,hget⟩:=zeu hrows
 have hblk:∀b b0,r[b]? =some b0→blk (mNew m s.h.get z r w) b=blk m b0:=fun b b0 hb=>by
  show Option.map (fun x:Nat×Nat×Nat=>x.1) (mNew m s.h.get z r w b)=_;rw[zed hb];rfl
 refine⟨⟨⟨fun b o hb=> ?_,fun b b' o o' hb hb' hne=> ?_,fun k i v hv=> ?_,hok.tbsub fun b o hb=> ?_⟩,⟨rfl,rfl,rfl,Nat.le_refl _,fun _ _ _=>rfl⟩,fun b o hb=> ?_,zaS,fun k i v hv=> ?_,fun b hb=>absurd hb (Nat.not_lt_zero _)⟩,fun b hb=> ?_⟩
 ·rw[zaD] at hb;obtain⟨b0,o0,h1,h2,h3⟩:=hget b o hb;have hR:=hok.has b0 o0 h2;unfold WO at h3;split at h3
  ·split at h3
   ·obtain⟨rfl,rfl,h3⟩:=h3;obtain⟨k,o,cap,cur,fr,pre,vs,post,q1,q2,q3,q4,q5,q6,q7⟩:=hR;refine⟨k,o,cap,cur,fr,pre,vs,post,(zed h1).trans q1,q2,q3,q4,q5,?_,q7⟩
    rcases h3 with⟨h4,h5⟩|⟨rfl,h4⟩
    ·exact ze5 hok _ h4 h5 q6
    ·exact zbI h4 q6 zaS
   ·exact h3.elim
  ·split at h3
   ·obtain⟨rfl,rfl⟩:=h3;obtain⟨k,q1,q2⟩:=hR;exact⟨k,(zed h1).trans q1,q2⟩
   ·exact h3.elim
 ·rw[zaD] at hb hb';obtain⟨b0,o0,h1,h2,_⟩:=hget b o hb;obtain⟨b0',o0',h1',h2',_⟩:=hget b' o' hb';rw[hblk b b0 h1,hblk b' b0' h1']
  refine hok.apart b0 b0' o0 o0' h2 h2' fun e=>hne ?_
  subst e;exact hinj b b' b0 h1 h1'
 ·refine⟨?_,fun b o hb=> ?_⟩
  ·rcases zan hv with h1|⟨_,h1⟩
   ·exact(hok.fz k i v h1).1
   ·exact h1
  ·rw[zaD] at hb;obtain⟨b0,o0,h1,h2,_⟩:=hget b o hb;rw[hblk b b0 h1]
   rcases zan hv with h3|⟨⟨b1,o1,h3,h4,h5⟩,_⟩
   ·exact(hok.fz k i v h3).2 b0 o0 h2
   ·intro e
    have hne:b1≠b0:=fun e1=>by
     subst e1;exact hz b1 (List.mem_of_getElem? h1) h3
    exact hok.apart b1 b0 o1 o0 h4 h2 hne (h5.trans e.symm)
 ·rw[zaD] at hb;obtain⟨b0,o0,h1,h2,_⟩:=hget b o hb;exact⟨b0,o0,h2,hblk b b0 h1⟩
 ·rw[zaD] at hb;obtain⟨b0,o0,h1,h2,_⟩:=hget b o hb;exact .inl ⟨b0,o0,h2,hblk b b0 h1⟩
 ·rcases zan hv with h1|⟨⟨b1,o1,h3,h4,h5⟩,_⟩
  ·exact .inl h1
  ·exact .inr (.inl ⟨b1,o1,h4,h5⟩)
 ·show(match nth r b with|some b0=>m b0|none=>none)=none;rw[za3,List.getElem?_eq_none (by omega)]
end
def rho (r:List Nat) (n0 n b:Nat):Nat:=match Nat.blt b n0 with|true=>rn r b|false=>Nat.add n (Nat.sub b n0)
def putR (r:List Nat) (n0 n:Nat):Nat→List AO→T AO→T AO
 |_,[],h=>h
 |i,o::l,h=>putR r n0 n (Nat.succ i) l (h.put (rho r n0 n i) (some o))
theorem zdH {r:List Nat} {n0 n b:Nat} {o:AO}:∀{l:List AO} {i:Nat} {h:T AO},(putR r n0 n i l h).get b=some o→(∃j,l[j]? =some o∧b=rho r n0 n (i+j))∨h.get b=some o
 |[],_,_,hb=> .inr hb
 |x::l,i,h,hb=>by
  rcases zdH (l:=l) (i:=Nat.succ i) hb with⟨j,h1,h2⟩|h1
  ·exact .inl ⟨j+1,by simpa using h1,by rw[h2];congr 1;omega⟩
  ·rw[T.get_put] at h1;split at h1
   ·rename_i e;cases h1;exact .inl ⟨0,rfl,e⟩
   ·exact .inr h1
def subS (s:St) (r z:List Nat) (n0:Nat) (rows2:List AO):St:=⟨putR r n0 s.n 0 rows2 (zbM (zbM s.h z) r),Nat.add s.n (Nat.sub rows2.length n0)⟩
theorem CallOk.lift {P:Program} {n0:Nat} {f:FuncId} {args0 args:List AV} {rows0 rows1:List AO} {v1:AV} {s:St} (r z:List Nat) (v2:AV) (rows2:List AO) (hc:HC P n0 f args0 rows0 v1 rows1) (hap:zcp z r=true) (hn:n0≤r.length) (hrows:zhg s.h z r rows0 r) (hna:named.nameds r.length args0=true)
  (hargs:Wvl s.h z (rn r) args0 args) (hv:Rn (rho r n0 s.n) v1 v2) (hlen:rows2.length=rows1.length) (hrows2:RnOs (rho r n0 s.n) rows1 rows2):CallOk P f args s v2 (subS s r z n0 rows2):=by
 intro m w args' hR hok hfr;obtain⟨hinj,hzr⟩:=zco hap;obtain⟨hl0,hget0⟩:=zeu hrows;obtain⟨g1,ha1⟩:=mNew_gk hap hrows hok;have hR0:=ze5 hok args0 hna hargs hR;refine Calls.mono (hc _ w args' hR0 g1.ok ha1) ?_;rintro e w' ⟨y,m1,rfl,g2,hv1,ha2⟩;have g:Gk 0 s.h.get (zaj rows1).h.get m m1 w w':=g1.trans ⟨g2.ok,g2.fr,g2.new,g2.zle,g2.znew,fun b hb=>absurd hb (Nat.not_lt_zero _)⟩;have hfr:∀b,s.n≤b→b<s.n+(rows2.length-n0)→m b=none:=hfr
 let m':Mp:=⟨fun b=>if s.n≤b∧b<s.n+(rows2.length-n0) then m1 (n0+(b-s.n)) else m b,m1.z⟩
 have hout:∀b x,m b=some x→m' b=some x:=fun b x hb=>by
  show(if s.n≤b∧b<s.n+(rows2.length-n0) then _ else _)=_;split
  ·rename_i h;rw[hfr b h.1 h.2] at hb;cases hb
  ·exact hb
 have hρ:∀b x,m1 b=some x→m' (rho r n0 s.n b)=some x:=fun b x hb=>by
  unfold rho;split
  ·rename_i hlt;have hlt:=zbr hlt;have h1:r[b]? =some r[b]:=List.getElem?_eq_getElem (Nat.lt_of_lt_of_le hlt hn)
   have h2:rn r b=r[b]:=by unfold rn;rw[za3,h1]
   rw[h2];refine hout _ _ ?_;rw[←hb,g2.low b hlt,zed h1]
  ·rename_i hge
   have hge:n0≤b:=Nat.le_of_not_lt fun h=>by rw[show Nat.blt b n0=true from Nat.ble_eq_true_of_le h] at hge;cases hge
   have hlt:b<rows1.length:=Nat.lt_of_not_le fun h=>by rw[ha2 b h] at hb;cases hb
   show(if s.n≤s.n+(b-n0)∧s.n+(b-n0)<s.n+(rows2.length-n0) then m1 (n0+(s.n+(b-n0)-s.n)) else m (s.n+(b-n0)))=_;rw[if_pos ⟨by omega,by omega⟩,show n0+(s.n+(b-n0)-s.n)=b by omega];exact hb
 have hblk:∀j k,blk m1 j=some k→blk m' (rho r n0 s.n j)=some k:=fun j k h=>by
  unfold blk at h⊢
  cases hj:m1 j with
  |none=>rw[hj] at h;cases h
  |some x=>rw[hj] at h;rw[hρ j x hj];exact h
 have hblko:∀b k,blk m b=some k→blk m' b=some k:=fun b k h=>by
  unfold blk at h⊢
  cases hj:m b with
  |none=>rw[hj] at h;cases h
  |some x=>rw[hj] at h;rw[hout b x hj];exact h
 have hrow:∀b o,(subS s r z n0 rows2).h.get b=some o→(∃j o1,(zaj rows1).h.get j=some o1∧RnO (rho r n0 s.n) o1 o∧b=rho r n0 s.n j)∨(s.h.get b=some o∧b∉z∧b∉r):=fun b o hb=>by
  rcases zdH hb with⟨j,h1,h2⟩|h1
  ·obtain⟨o1,h3,h4⟩:=ze8 hrows2 h1;exact .inl ⟨j,o1,by rw[zaD];exact h3,h4,by rw[h2,Nat.zero_add]⟩
  ·obtain⟨h2,h3⟩:=zaB h1;obtain⟨h4,h5⟩:=zaB h2;exact .inr ⟨h4,h5,h3⟩
 have hsep:∀j o1 b o,(zaj rows1).h.get j=some o1→s.h.get b=some o→b∉r→blk m1 j≠blk m b:=fun j o1 b o hj hb hr=>by
  rcases g2.new j o1 hj with⟨b0,o0,h0,e0⟩|⟨k,ek,hk⟩
  ·rw[zaD] at h0;obtain⟨b1,o2,h1,h2,_⟩:=hget0 b0 o0 h0
   have e1:blk (mNew m s.h.get z r w) b0=blk m b1:=by unfold blk;rw[zed h1]
   rw[e0,e1]
   exact hok.apart b1 b o2 o h2 hb fun e=>hr (e▸List.mem_of_getElem? h1)
  ·obtain⟨k',h1,h2⟩:=AO.R_blk (hok.has b o hb);rw[ek,h1];intro e;cases e;omega
 have hok':Ok m' (subS s r z n0 rows2).h.get w':=by
  refine⟨fun b o hb=> ?_,fun b b' o o' hb hb' hne=> ?_,fun k i v hv=> ?_,fun k x hk=> ?_⟩
  ·rcases hrow b o hb with⟨j,o1,h1,h2,rfl⟩|⟨h1,h2,h3⟩
   ·have hR:=g2.ok.has j o1 h1;unfold RnO at h2;split at h2
    ·split at h2
     ·obtain⟨rfl,rfl,h2⟩:=h2;obtain⟨k,o,cap,cur,fr,pre,vs,post,q1,q2,q3,q4,q5,q6,q7⟩:=hR;refine⟨k,o,cap,cur,fr,pre,vs,post,hρ _ _ q1,q2,q3,q4,q5,?_,q7⟩
      rcases h2 with h2|⟨rfl,h2⟩
      ·exact zhf hρ (fun _ _ _ h=>h) _ h2 q6
      ·exact zbI h2 q6 fun _ _ _ h=>h
     ·exact h2.elim
    ·split at h2
     ·obtain⟨rfl,rfl⟩:=h2;obtain⟨k,q1,q2⟩:=hR;exact⟨k,hρ _ _ q1,q2⟩
     ·exact h2.elim
   ·have hRo:=hok.has b o h1
    refine AO.R_keep hRo ⟨hout,g.zle⟩ fun k hk=> ?_
    obtain⟨k',hk',hlt⟩:=AO.R_blk hRo;rw[hk] at hk';cases hk'
    refine g2.fr.block k hlt fun b0 o0 h0 e0=> ?_
    rw[zaD] at h0;obtain⟨b1,o2,h4,h5,_⟩:=hget0 b0 o0 h0
    have e1:blk (mNew m s.h.get z r w) b0=blk m b1:=by unfold blk;rw[zed h4]
    rw[e1] at e0;exact hok.apart b1 b o2 o h5 h1 (fun e=>h3 (e▸List.mem_of_getElem? h4)) (e0.trans hk.symm)
  ·rcases hrow b o hb with⟨j,o1,h1,h2,rfl⟩|⟨h1,h2,h3⟩
   ·obtain⟨k,hk,_⟩:=AO.R_blk (g2.ok.has j o1 h1);rw[hblk _ _ hk]
    rcases hrow b' o' hb' with⟨j',o1',h1',h2',rfl⟩|⟨h1',h2',h3'⟩
    ·obtain⟨k',hk',_⟩:=AO.R_blk (g2.ok.has j' o1' h1');rw[hblk _ _ hk',←hk,←hk']
     exact g2.ok.apart j j' o1 o1' h1 h1' fun e=>hne (by rw[e])
    ·obtain⟨k',hk',_⟩:=AO.R_blk (hok.has b' o' h1');rw[hblko _ _ hk',←hk,←hk'];exact hsep j o1 b' o' h1 h1' h3'
   ·obtain⟨k,hk,_⟩:=AO.R_blk (hok.has b o h1);rw[hblko _ _ hk]
    rcases hrow b' o' hb' with⟨j',o1',h1',h2',rfl⟩|⟨h1',h2',h3'⟩
    ·obtain⟨k',hk',_⟩:=AO.R_blk (g2.ok.has j' o1' h1');rw[hblk _ _ hk',←hk,←hk']
     exact fun e=>hsep j' o1' b o h1' h1 h3 e.symm
    ·obtain⟨k',hk',_⟩:=AO.R_blk (hok.has b' o' h1');rw[hblko _ _ hk',←hk,←hk'];exact hok.apart b b' o o' h1 h1' hne
  ·have hv:m1.z k i=some v:=hv;refine⟨(g2.ok.fz k i v hv).1,fun b o hb=> ?_⟩
   rcases hrow b o hb with⟨j,o1,h1,h2,rfl⟩|⟨h1,h2,h3⟩
   ·obtain⟨k',hk',_⟩:=AO.R_blk (g2.ok.has j o1 h1);rw[hblk _ _ hk',←hk'];exact(g2.ok.fz k i v hv).2 j o1 h1
   ·obtain⟨k',hk',hlt⟩:=AO.R_blk (hok.has b o h1);rw[hblko _ _ hk'];intro e;cases e
    rcases g2.znew k i v hv with h4|⟨b0,o0,h0,e0⟩|h4
    ·rcases zan h4 with h5|⟨⟨b1,o1,h5,h6,h7⟩,_⟩
     ·exact(hok.fz k i v h5).2 b o h1 hk'
     ·exact hok.apart b1 b o1 o h6 h1 (fun e=>h2 (e▸h5)) (h7.trans hk'.symm)
    ·rw[zaD] at h0;obtain⟨b1,o2,h5,h6,_⟩:=hget0 b0 o0 h0
     have e1:blk (mNew m s.h.get z r w) b0=blk m b1:=by unfold blk;rw[zed h5]
     rw[e1] at e0;exact hok.apart b1 b o2 o h6 h1 (fun e=>h3 (e▸List.mem_of_getElem? h5)) (e0.trans hk'.symm)
    ·omega
  ·refine⟨(g2.ok.tb k x hk).1,fun b o hb=> ?_⟩
   rcases hrow b o hb with⟨j,o1,h1,h2,rfl⟩|⟨h1,h2,h3⟩
   ·obtain⟨k',hk',_⟩:=AO.R_blk (g2.ok.has j o1 h1);rw[hblk _ _ hk',←hk'];exact(g2.ok.tb k x hk).2 j o1 h1
   ·obtain⟨k',hk',_⟩:=AO.R_blk (hok.has b o h1);rw[hblko _ _ hk',←hk'];exact(hok.tb k x hk).2 b o h1
 refine⟨y,m',rfl,⟨Nat.le_add_right _ _,fun b hb=> ?_,hok',g.fr,fun b o hb=> ?_,g.zle,g.znew⟩,znj hρ (fun _ _ _ h=>h) v1 hv hv1⟩
 ·show(if s.n≤b∧b<s.n+(rows2.length-n0) then _ else _)=_;have hb:b<s.n∨s.n+(rows2.length-n0)≤b:=hb;rw[if_neg (by omega)]
 ·rcases hrow b o hb with⟨j,o1,h1,h2,rfl⟩|⟨h1,h2,h3⟩
  ·obtain⟨k,hk,_⟩:=AO.R_blk (g2.ok.has j o1 h1);rw[hblk _ _ hk,←hk]
   rcases g.new j o1 h1 with⟨b0,o0,h0,e0⟩|⟨k',e,hk'⟩
   ·exact .inl ⟨b0,o0,h0,e0⟩
   ·exact .inr ⟨k',e,hk'⟩
  ·obtain⟨k,hk,_⟩:=AO.R_blk (hok.has b o h1);exact .inl ⟨b,o,h1,by rw[hblko _ _ hk,hk]⟩
theorem KCall.lift {P:Program} {n0:Nat} {f:FuncId} {args0 args:List AV} {rows0 rows1:List AO} {v1:AV} {s:St} {K:KC} (r z:List Nat) (v2:AV) (rows2:List AO) (hc:HC P n0 f args0 rows0 v1 rows1) (hap:(match zcp z r with|true=>Nat.ble n0 r.length|false=>false)=true) (hrows:zhg s.h z r rows0 r) (hargs:named.nameds r.length args0=true∧Wvl s.h z (rn r) args0 args)
  (hv:Rn (rho r n0 s.n) v1 v2∧rows2.length=rows1.length∧RnOs (rho r n0 s.n) rows1 rows2) (hk:(subS s r z n0 rows2).nfK fun s=>K v2 s):KCall P f args s K:=by
 split at hap
 ·rename_i ha;exact⟨v2,_,CallOk.lift r z v2 rows2 hc ha (Nat.le_of_ble_eq_true hap) hrows hargs.1 hargs.2 hv.1 hv.2.1 hv.2.2,Nat.le_add_right _ _,St.nfK_ok hk⟩
 ·cases hap
end Go.Ex
namespace Ck
def goE (E:Nat→Int):Nat→Int
 |0=>0
 |k+1=>if goE E k=0 then E k else goE E k
theorem ziC (E:Nat→Int) {k:Nat} (h:goE E k=0) (hE:E k≠0):∀n,k<n→goE E n=E k
 |0,hn=>by omega
 |n+1,hn=>by
  show(if goE E n=0 then E n else goE E n)=E k;by_cases hkn:k=n
  ·subst hkn;rw[if_pos h]
  ·rw[ziC E h hE n (by omega),if_neg hE]
theorem ziD (E:Nat→Int) {k:Nat} (h:goE E k=0):goE E (k+1)=E k:=if_pos h
theorem zeS (E:Nat→Int):∀n,(∀k,k<n→E k=0)→goE E n=0
 |0,_=>rfl
 |n+1,h=>by rw[ziD E (zeS E n fun k hk=>h k (by omega))];exact h n (by omega)
theorem zdu (E:Nat→Int):∀n,goE E n=0→∀k,k<n→E k=0
 |0,_,k,hk=>by omega
 |n+1,h,k,hk=>by
  by_cases h0:goE E n=0
  ·rw[ziD E h0] at h;by_cases hkn:k=n
   ·rw[hkn];exact h
   ·exact zdu E n h0 k (by omega)
  ·exact absurd h (by show(if goE E n=0 then E n else goE E n)≠0;rw[if_neg h0];exact h0)
def goI (E:Nat→Int):Nat→Int
 |0=>0
 |k+1=>if goE E k=0 then(if E k=0 then 0 else k) else goI E k
theorem ziB (E:Nat→Int) {k:Nat} (h:goE E k=0) (hE:E k≠0):∀n,k<n→goI E n=k
 |0,hn=>by omega
 |n+1,hn=>by
  show(if goE E n=0 then(if E n=0 then 0 else(n:Int)) else goI E n)=k;by_cases hkn:k=n
  ·subst hkn;rw[if_pos h,if_neg hE]
  ·rw[ziC E h hE n (by omega),if_neg hE];exact ziB E h hE n (by omega)
theorem ziA (E:Nat→Int):∀n,goE E n=0→goI E n=0
 |0,_=>rfl
 |n+1,h=>by
  show(if goE E n=0 then(if E n=0 then 0 else(n:Int)) else goI E n)=0;by_cases h0:goE E n=0
  ·rw[ziD E h0] at h;rw[if_pos h0,if_pos h]
  ·exact absurd h (by show(if goE E n=0 then E n else goE E n)≠0;rw[if_neg h0];exact h0)
def it {S:Type} (f:S→Nat→S) (s:S):Nat→S
 |0=>s
 |k+1=>f (it f s k) k
def wi (n lo hi:Int):Bool:=decide (lo≤n)&&decide (n≤hi)
def first :List Int→Int
 |[]=>0
 |e::l=>if e=0 then first l else e
structure Run where
 s:Int
 l:Int
 deriving DecidableEq
structure Ref where
 r:Int
 q:Int
 deriving DecidableEq
structure Nm where
 d:Ref
 n:List UInt8
 deriving DecidableEq
structure En where
 n:List UInt8
 f:Ref
 z:Int
 deriving DecidableEq
structure Sm where
 r:List Run
 z:Int
 deriving DecidableEq
structure Rc where
 u:Bool
 q:Int
 k:Int
 b:Ref
 ln:Int
 ds:Int
 ns:List Nm
 ss:List Sm
 es:List En
 deriving DecidableEq
structure Pt where
 c:Int
 al:List Run
 rs:List Rc
 ds:List Int
 mp:List UInt8
 deriving DecidableEq
structure Fd where
 k:Int
 r:Int
 i:Int
 deriving DecidableEq
def Ref.o :Ref:=⟨0,0⟩
def Run.o :Run:=⟨0,0⟩
def Nm.o :Nm:=⟨Ref.o,[]⟩
def En.o :En:=⟨[],Ref.o,0⟩
def Sm.o :Sm:=⟨[],0⟩
def Rc.o :Rc:=⟨false,0,0,Ref.o,0,0,[],[],[]⟩
def Fd.o :Fd:=⟨0,0,0⟩
def at_ {α:Type} (o:α) (l:List α) (i:Nat):α:=l[i]?.getD o
theorem zaG {α:Type} (o:α) (l:List α) (i:Nat) (h:i<l.length):at_ o l i=l[i]:=by unfold at_;rw[List.getElem?_eq_getElem h];rfl
theorem at_mem {α:Type} (o:α) (l:List α) (i:Nat) (h:i<l.length):at_ o l i∈l:=by rw[zaG o l i h];exact List.getElem_mem h
theorem at_map {α β:Type} (f:α→β) (o:α) (o':β) (l:List α) (i:Nat) (h:i<l.length):at_ o' (l.map f) i=f (at_ o l i):=by
 rw[zaG o l i h,zaG o' _ i (by rw[List.length_map];exact h),List.getElem_map]
theorem zcz {α:Type} (o:α) (l:List α) (i:Nat) (h:i<l.length):l.take (i+1)=l.take i++[at_ o l i]:=by rw[zaG o l i h,List.take_succ_eq_append_getElem h]
theorem drop_at {α:Type} (o:α) (l:List α) (i:Nat) (h:i<l.length):l.drop i=at_ o l i::l.drop (i+1):=by rw[zaG o l i h,List.drop_eq_getElem_cons h]
theorem zal {α:Type} (o:α) (l:List α) (i:Nat) (x:α) (h:i<l.length):at_ o (l.set i x) i=x:=by
 rw[zaG o _ i (by rw[List.length_set];exact h),List.getElem_set_self]
theorem zau {α:Type} (o:α) (l:List α) (i j:Nat) (x:α) (h:i≠j):at_ o (l.set i x) j=at_ o l j:=by
 unfold at_;rw[List.getElem?_set_ne h]
def zaC (r:Ref):Int:=if wi r.r 0 95&&wi r.q 1 65535 then 0 else 2
def num (n:Int):Bool:=wi n 0 2147483647
def zaI (c:UInt8):Bool:=decide (32≤c.toNat)&&decide (c.toNat≤126)&& !([34,42,47,58,60,62,63,92,124].contains c)
def legal (s:List UInt8):Bool:=s !=[]&&decide (s.length≤32)&&s.all zaI&&s !=[46,46]&&s.getLast? !=some 32&&s.getLast? !=some 46
def zaw (s:List UInt8):Int:=if 32<s.length then 8 else if legal s then 0 else 4
def zcG (x:Nm):Int:=if zaC x.d=0 then zaw x.n else zaC x.d
def zcB (x:En):Int:=if zaw x.n=0 then(if zaC x.f=0 then(if num x.z then 0 else 2) else zaC x.f) else zaw x.n
def zaW (r:Run):Bool:= !(wi r.s (-1) 2147483647)|| !(wi r.l 1 512)
def zbU (x:Sm):Int:=if 24<x.r.length then 8 else if !(x.r.any zaW)&&num x.z then 0 else 2
def most (d:Int):Nat:=if d=5 then 700 else 200
def zc5 (x:Rc):Int:=goE (fun i=>zcG (at_ Nm.o x.ns i)) x.ns.length
def zcf (x:Rc):Int:=goE (fun i=>zbU (at_ Sm.o x.ss i)) x.ss.length
def zcL (x:Rc):Int:=goE (fun i=>zcB (at_ En.o x.es i)) x.es.length
def Rc.parts (x:Rc):Nat:=x.ns.length+x.ss.length+x.es.length
def zcA (i:Int) (x:Rc):Int:=
 if !(wi x.q 1 65535)|| !(wi x.k 0 3)|| !(num x.ln)|| !(num x.ds) then 2
 else if !x.u&&(x.b !=Ref.o||decide (0<x.ln+x.ds+x.parts+x.k)) then 3
 else if(if x.k=3 then zaC x.b else if x.b=Ref.o then 0 else 2)≠0 then 2
 else if 8<x.ns.length∨8<x.ss.length∨most i<x.es.length then 8
 else if(0<x.es.length∧x.k≠0)∨(0<x.ns.length∧(x.k=3∨i<16)) then 3
 else 0
def zbg (i:Int) (x:Rc):Int:=first [zcA i x,zc5 x,zcf x,zcL x]
def zbL (c:Int) (r:Run):Int:=if wi r.s 0 (c-1)&&wi r.l 1 (c-r.s) then 0 else 2
def zbb (l:List Int) (i:Nat):Int:=if wi (at_ 0 l i) 1 2147483647 then(if 0<i∧at_ 0 l i≤at_ 0 l (i-1) then 9 else 0) else 2
def zaO (s:List UInt8) (c:Int):Int:=
 if wi c 0 4096 then(if s.length=((c+7)/8).toNat then(if c%8=0∨(s.getLast?.getD 0).toNat/2^(c%8).toNat=0 then 0 else 3) else 10) else 2
def za1 (v:Pt):Int:=
 first [if wi v.c 64 512 then 0 else 2,if 24<v.al.length∨96<v.rs.length∨64<v.ds.length then 8 else 0,goE (fun i=>zbL v.c (at_ Run.o v.al i)) v.al.length,goE (zbb v.ds) v.ds.length,
  if v.ds.length=0 then 17 else 0,zaO v.mp v.c]
def zaU (v:Pt):Int:=if v.rs.length≤5∨(at_ Rc.o v.rs 5).u=false∨(at_ Rc.o v.rs 5).k≠0 then 6 else 0
def zff (v:Pt):Int:=goE (fun i=>zbg i (at_ Rc.o v.rs i)) v.rs.length
def partsErr (v:Pt):Int:=first [za1 v,zaU v,zff v]
def partsIx (v:Pt):Int:=if za1 v≠0 then 0 else if zaU v≠0 then 5 else goI (fun i=>zbg i (at_ Rc.o v.rs i)) v.rs.length
def upB (c:UInt8):UInt8:=if 97≤c.toNat∧c.toNat≤122 then c-32 else c
def fold (s:List UInt8):List UInt8:=if zaw s=0 then s.map upB else []
def same (a b:List UInt8):Bool:=fold a==fold b
def own (x:Rc):Bool:=x.u&&x.k !=3
def dir (x:Rc):Bool:=x.u&&x.k==0
def rc (v:Pt) (i:Int):Rc:=at_ Rc.o v.rs i.toNat
def right (v:Pt) (r:Ref):Bool:=wi r.r 0 ((v.rs.length:Int)-1)&&own (rc v r.r)&&(rc v r.r).q==r.q
def sizeOf (x:Rc):Int:=if x.k=1∧0<x.ss.length then(at_ Sm.o x.ss 0).z else 0
structure Rp where
 v:Pt
 fd:List Fd
 fl:List Int
 deriving DecidableEq
def Rp.note (p:Rp) (k r i:Int):Rp:={p with fd:=p.fd++[⟨k,r,i⟩],fl:=p.fl++[-1]}
def Rp.setR (p:Rp) (i:Nat) (x:Rc):Rp:={p with v:={p.v with rs:=p.v.rs.set i x}}
def Rp.rc (p:Rp) (i:Int):Rc:=Ck.rc p.v i
def Rp.ref (p:Rp) (i:Int):Ref:=⟨i,(p.rc i).q⟩
def zam (p:Rp) (i:Nat):Rp:=
 let x:=p.rc i
 if x.u&&x.k==3&& !right p.v x.b then(p.note 0 i 0).setR i {Rc.o with q:=x.q%65535+1} else p
def lostParts (p:Rp):Rp:=it zam p p.v.rs.length
def fill (t:List Bool) (s:Int):Nat→List Bool
 |0=>t
 |k+1=>(fill t s k).set (s+k).toNat true
def taken (v:Pt):List Bool:=it (fun t i=>fill t (at_ Run.o v.al i).s (at_ Run.o v.al i).l.toNat) (List.replicate v.c.toNat false) v.al.length
def za9 (t:List Bool) (s:Int) (k:Nat):Nat→List Bool×Option Nat
 |0=>(t,none)
 |n+1=>if s+k<t.length∧at_ false t (s+k).toNat=false then za9 (t.set (s+k).toNat true) s (k+1) n else(t,some k)
def zcm (t:List Bool) (acc:List Run):List Run→List Bool×Option (List Run)
 |[]=>(t,none)
 |r::l=>
  if r.s= -1 then zcm t (acc++[r]) l
  else match za9 t r.s 0 r.l.toNat with
   |(t',none)=>zcm t' (acc++[r]) l
   |(t',some k)=>(t',some (acc++if 0<k then [⟨r.s,k⟩] else []))
def cut (l:List Run) (t:List Bool):List Bool×Option (List Run):=zcm t [] l
def clusters (l:List Run):Int:=it (fun n i=>n+(at_ Run.o l i).l) 0 l.length
def cutStep (i:Nat) (s:Rp×List Bool) (k:Nat):Rp×List Bool:=
 let x:=s.1.rc i
 let y:=at_ Sm.o x.ss k
 match cut y.r s.2 with
 |(t,none)=>(s.1,t)
 |(t,some l)=>((s.1.note 1 i k).setR i {x with ss:=x.ss.set k ⟨l,min y.z (clusters l*256)⟩},t)
def zad (s:Rp×List Bool) (i:Nat):Rp×List Bool:=
 if(s.1.rc i).u then it (cutStep i) s (s.1.rc i).ss.length else s
def badRuns (p:Rp):Rp:=(it zad (p,taken p.v) p.v.rs.length).1
def zao (p:Rp) (i:Nat):Rp:=
 let x:=p.rc i
 if own x&& !p.v.ds.contains x.ds then(p.note 2 i 0).setR i {x with ds:=at_ 0 p.v.ds 0} else p
def descriptors (p:Rp):Rp:=it zao p p.v.rs.length
def isEntry (p:Rp) (d:Int) (before:List En) (x:En):Bool:=
 !before.any (fun y=>same x.n y.n)&&right p.v x.f&&decide (16≤x.f.r)&&(p.rc x.f.r).ns.contains ⟨p.ref d,x.n⟩
def setLast (l:List Int) (n:Int):List Int:=l.set (l.length-1) n
def entryStep (i:Nat) (es:List En) (s:Rp×List En) (k:Nat):Rp×List En:=
 let x:=at_ En.o es k
 if isEntry s.1 i s.2 x then(s.1,s.2++[x])
 else
  let p:=s.1.note 3 i s.2.length
  (if x.f.r<p.v.rs.length∧(p.rc x.f.r).q=x.f.q then{p with fl:=setLast p.fl x.f.r} else p,s.2)
def zac (p:Rp) (i:Nat):Rp:=
 if dir (p.rc i) then
  let s:=it (entryStep i (p.rc i).es) (p,[]) (p.rc i).es.length
  s.1.setR i {s.1.rc i with es:=s.2}
 else p
def badEntries (p:Rp):Rp:=it zac p p.v.rs.length
def ixE (n:List UInt8):List En→Option Nat
 |[]=>none
 |x::l=>if same x.n n then some 0 else(ixE n l).map (·+1)
def isName (p:Rp) (r:Nat) (before:List Nm) (n:Nm):Bool×Bool:=
 if right p.v n.d&&(p.rc n.d.r).k==0 then
  if before.any (fun y=>decide (y.d=n.d)&&same y.n n.n) then(false,false)
  else if before≠[]∧(p.rc r).k≠1 then(false,false)
  else match ixE n.n (p.rc n.d.r).es with
   |none=>(decide ((p.rc n.d.r).es.length<most n.d.r),false)
   |some k=>(decide ((at_ En.o (p.rc n.d.r).es k).f=p.ref r∧(at_ En.o (p.rc n.d.r).es k).n=n.n),true)
 else(false,false)
def drop (p:Rp) (r:Nat) (n:Nm):Rp:=
 if right p.v n.d&&(p.rc n.d.r).k==0 then
  p.setR n.d.r.toNat {p.rc n.d.r with es:=(p.rc n.d.r).es.filter fun x=> !(decide (x.f=p.ref r)&&decide (x.n=n.n))}
 else p
def enter (p:Rp) (d:Int) (n:List UInt8) (r:Nat):Rp:=
 p.setR d.toNat {p.rc d with es:=(p.rc d).es++[⟨n,p.ref r,sizeOf (p.rc r)⟩]}
def nameStep (i:Nat) (all:List Nm) (s:Rp×List Nm) (k:Nat):Rp×List Nm:=
 let n:=at_ Nm.o all k
 if(isName s.1 i s.2 n).1 then
  (if(isName s.1 i s.2 n).2 then s.1 else enter (s.1.note 5 i s.2.length) n.d.r n.n i,s.2++[n])
 else
  let p:=s.1.note 4 i s.2.length
  (if !s.2.contains n&& !(all.drop (k+1)).contains n then drop p i n else p,s.2)
def badNames1 (p:Rp) (i:Nat):Rp:=
 let s:=it (nameStep i (p.rc i).ns) (p,[]) (p.rc i).ns.length
 s.1.setR i {s.1.rc i with ns:=s.2}
def below (f:Rp→Nat→Rp) (p:Rp):Rp:=it (fun q j=>if own (q.rc (16+j:Nat)) then f q (16+j) else q) p (p.v.rs.length-16)
def badNames (p:Rp):Rp:=below badNames1 p
def digit (n:Nat):UInt8:=UInt8.ofNat (48+n%10)
def dec (n:Nat):List UInt8:=if n<10 then [digit n] else dec (n/10)++[digit n]
decreasing_by omega
def found :List UInt8:=[102,111,117,110,100,46]
def zaf (r:Nat):Nat→List UInt8
 |0=>found++dec r
 |k+1=>found++dec r++[46]++dec (k+1)
def zbz (es:List En) (r:Nat) (k:Nat):Nat→Nat
 |0=>k
 |m+1=>if es.any (fun x=>same x.n (zaf r k)) then zbz es r (k+1) m else k
def bring (p:Rp) (r:Nat):Rp:=
 let n:=zaf r (zbz (p.rc 5).es r 0 ((p.rc 5).es.length+1))
 enter (p.setR r {p.rc r with ns:=[⟨p.ref 5,n⟩]}) 5 n r
def zaz (p:Rp) (i:Nat):Rp:=if(p.rc i).ns.length=0 then bring (p.note 6 i 0) i else p
def orphans (p:Rp):Rp:=below zaz p
def link1 (p:Rp) (i:Nat):Rp:=
 if(p.rc i).ln≠(p.rc i).ns.length then(p.note 8 i 0).setR i {p.rc i with ln:=(p.rc i).ns.length} else p
def links (p:Rp):Rp:=below link1 p
def sizeStep (i:Nat) (p:Rp) (k:Nat):Rp:=
 let x:=at_ En.o (p.rc i).es k
 if right p.v x.f&&x.z !=sizeOf (p.rc x.f.r) then
  (p.note 9 i k).setR i {p.rc i with es:=(p.rc i).es.set k {x with z:=sizeOf (p.rc x.f.r)}}
 else p
def zak (p:Rp) (i:Nat):Rp:=if dir (p.rc i) then it (sizeStep i) p (p.rc i).es.length else p
def sizes (p:Rp):Rp:=it zak p p.v.rs.length
def zi7 (t:List UInt8) (c:Nat):List UInt8:=t.set (c/8) (at_ 0 t (c/8)|||UInt8.ofNat (2^(c%8)))
def zcs (c:Int) (r:Run) (t:List UInt8) (k:Nat):List UInt8:=if r.s≠-1∧r.s+k<c then zi7 t (r.s+k).toNat else t
def mark (c:Int) (l:List Run) (t:List UInt8):List UInt8:=it (fun t i=>it (zcs c (at_ Run.o l i)) t (at_ Run.o l i).l.toNat) t l.length
def zdr (c:Int) (x:Rc) (t:List UInt8):List UInt8:=it (fun t k=>mark c (at_ Sm.o x.ss k).r t) t x.ss.length
def used (v:Pt):List UInt8:=it (fun t i=>zdr v.c (at_ Rc.o v.rs i) t) (mark v.c v.al (List.replicate ((v.c+7)/8).toNat 0)) v.rs.length
def zcQ (t:List UInt8) (c:Nat):Nat:=(at_ 0 t (c/8)).toNat/2^(c%8)%2
def zar (want:List UInt8) (p:Rp) (c:Nat):Rp:=if zcQ want c≠zcQ p.v.mp c then p.note 10 c 0 else p
def bits (p:Rp):Rp:=
 let q:=it (zar (used p.v)) p p.v.c.toNat
 {q with v:={q.v with mp:=used p.v}}
end Ck
namespace Ck
open Go Go.Ex
abbrev ib (n:Int):AV:= .sc (.int .i64 n)
abbrev bb (n:Bool):AV:= .sc (.bool n)
abbrev tb (n:List UInt8):AV:= .sc (.string ⟨⟨n⟩⟩)
abbrev LS {α:Type} (sz:Nat) (enc:α→List AV) (o:α) (l:List α):AV:= .lst sz l.length fun i=>enc (at_ o l i)
def aRun (x:Run):List AV:=[ib x.s,ib x.l]
def aRef (x:Ref):List AV:=[ib x.r,ib x.q]
def aNm (x:Nm):List AV:=[ib x.d.r,ib x.d.q,tb x.n]
def aEn (x:En):List AV:=[tb x.n,ib x.f.r,ib x.f.q,ib x.z]
def aSm (x:Sm):List AV:=[LS 2 aRun Run.o x.r,ib x.z]
def aRc (x:Rc):List AV:=[bb x.u,ib x.q,ib x.k,ib x.b.r,ib x.b.q,ib x.ln,ib x.ds,LS 3 aNm Nm.o x.ns,LS 2 aSm Sm.o x.ss,LS 4 aEn En.o x.es]
def aI (x:Int):List AV:=[ib x]
def aPt (x:Pt):List AV:=[ib x.c,LS 2 aRun Run.o x.al,LS 10 aRc Rc.o x.rs,LS 1 aI 0 x.ds,tb x.mp]
abbrev aPts (x:Pt):AV:= .agg (aPt x)
abbrev aRcs (x:Rc):AV:= .agg (aRc x)
end Ck
namespace Go.Proofs.YtgcjejajljhnaaaGreatDoor
open Go.Ex Ck
set_option maxRecDepth 100000
set_option maxHeartbeats 400000
theorem kmix :Tryz.prog.follows .mixedOrders=true:=by decide+kernel
theorem za6 (n lo hi:Int):PureC Tryz.prog 59 [ib n,ib lo,ib hi] (bb (Ck.wi n lo hi)):=by
 refine PureC.of kmix rfl ?_
 conv=>whnf
 refine KIf.dec (fun h=> ?_) (fun h=> ?_)
 all_goals
  (conv=>whnf);repeat(first|refine KIf.dt ?_ ?_;assumption|refine KIf.df ?_ ?_;assumption);conv=>whnf
  refine .z [] ?_;(conv=>whnf);simp[Ck.wi,h]
theorem zaR (n lo hi:Int):PureC Tryz.prog 29 [ib n,ib lo,ib hi] (bb (Ck.wi n lo hi)):=by
 refine PureC.of kmix rfl ?_
 conv=>whnf
 refine KIf.dec (fun h=> ?_) (fun h=> ?_)
 all_goals
  (conv=>whnf);repeat(first|refine KIf.dt ?_ ?_;assumption|refine KIf.df ?_ ?_;assumption);conv=>whnf
  refine .z [] ?_;(conv=>whnf);simp[Ck.wi,h]
theorem zbe (b:Bool) (e:Int):PureC Tryz.prog 58 [bb b,ib e] (ib (if b then 0 else e)):=by
 refine PureC.of kmix rfl ?_
 conv=>whnf
 cases b
 all_goals
  (conv=>whnf);repeat(first|refine KIf.t rfl ?_|refine KIf.f rfl ?_);conv=>whnf
  refine .z [] ?_;(conv=>whnf);exact⟨rfl,rfl⟩
theorem ziw (x:Rc):PureC Tryz.prog 61 [aRcs x] (bb (Ck.own x)):=by
 refine PureC.of kmix rfl ?_
 conv=>whnf
 unfold Ck.own;cases hu:x.u
 all_goals
  (conv=>whnf);repeat(first|refine KIf.t rfl ?_|refine KIf.f rfl ?_);conv=>whnf
  refine .z [] ?_;(conv=>whnf);rfl
theorem ziF (l:List Int) (hl:l.length≤1000000):PureC Tryz.prog 57 [LS 1 aI 0 l] (ib (Ck.first l)):=by
 refine PureC.of kmix rfl ?_
 conv=>whnf
 refine WLoop.inv kmix (D:=Nat) (fun d=>l.length-d) (fun d=>d≤l.length∧Ck.first (l.drop d)=Ck.first l) (fun d=>slots [(0,LS 1 aI 0 l),(5,LS 1 aI 0 l),(6,ib l.length),(7,ib d)] 15) (fun d=>zaj []) 0 ⟨Nat.zero_le _,rfl⟩ ?_ ?_
 ·(refine Weak.of [] [] rfl rfl ?_ ?_<;>(repeat' first|exact zT|refine zA ?_ ?_)<;>(conv=>whnf)<;>(repeat'(exact rfl))<;>((intro _ _;rfl)))
 ·rintro d ⟨hd,hz⟩
  conv=>whnf
  refine KIf.dec (fun h=> ?_) (fun h=> ?_)
  ·have hlt:d<l.length:=by omega
   have hs:Ck.first (at_ 0 l d::l.drop (d+1))=if at_ 0 l d=0 then Ck.first (l.drop (d+1)) else at_ 0 l d:=rfl
   rw[drop_at 0 l d hlt,hs] at hz;by_cases h0:at_ 0 l d=0
   ·rw[if_pos h0] at hz
    (conv=>whnf);repeat(first|refine Need.mk ?_ ?_;(first|omega|(constructor<;>omega))|refine KIf.f (b:= !decide (at_ 0 l d=0)) (by simp[h0]) ?_);conv=>whnf
    refine⟨d+1,⟨by omega,hz⟩,by dsimp only;omega,?_⟩
    (refine Weak.of [] [] rfl rfl ?_ ?_<;>(repeat' first|exact zT|refine zA ?_ ?_)<;>(conv=>whnf)<;>(repeat'(exact rfl))<;>((intro _ _;rfl)))
   ·rw[if_neg h0] at hz
    (conv=>whnf);repeat(first|refine Need.mk ?_ ?_;omega|refine KIf.t (b:= !decide (at_ 0 l d=0)) (by simp[h0]) ?_);conv=>whnf
    refine .z [] ?_;(conv=>whnf);exact⟨rfl,hz.symm⟩
  ·conv=>whnf
   refine .z [] ?_;(conv=>whnf);refine⟨rfl,?_⟩;rw[←hz,List.drop_of_length_le (by omega)];rfl
theorem zav (x:Rc):PureC Tryz.prog 102 [aRcs x] (bb (Ck.dir x)):=by
 refine PureC.of kmix rfl ?_
 conv=>whnf
 unfold Ck.dir;cases hu:x.u
 all_goals
  (conv=>whnf);repeat(first|refine KIf.t rfl ?_|refine KIf.f rfl ?_);conv=>whnf
  refine .z [] ?_;(conv=>whnf);rfl
theorem zj6 (v:Pt) (r:Ref) (hn:v.rs.length≤100000):PureC Tryz.prog 101 [aPts v, .agg (aRef r)] (.tup [aRcs (if wi r.r 0 (v.rs.length-1) then Ck.rc v r.r else Rc.o),bb (Ck.right v r)]):=by
 refine PureC.of kmix rfl ?_
 conv=>whnf
 unfold Ck.right;by_cases h:wi r.r 0 (v.rs.length-1)=true
 ·have h2:0≤r.r∧r.r<v.rs.length:=by simp[wi] at h;omega
  rw[if_pos h];cases ho:Ck.own (at_ Rc.o v.rs r.r.toNat)
  ·(conv=>whnf);repeat(first|refine KIf.f ?_ ?_;assumption|refine KIf.f ?_ ?_;(focus(simp only[Bool.not_eq_true',Bool.not_eq_false',Bool.not_true,Bool.not_false];assumption))|refine Need.mk (p:=zah _=true) ?_ ?_;decide+kernel|refine Need.mk ?_ ?_;(first|trivial|(constructor<;>omega))|refine KCall.pure (za6 _ _ _) ?_|refine DCall.pure (ziw _) ?_);conv=>whnf
   (refine .z [] ?_;conv=>whnf);(repeat' first|exact zT|exact rfl|refine zA ?_ ?_)<;>(try(conv=>whnf))<;>(first|(intro _ _;rfl)|simp[Ck.rc,h,ho])
  ·(conv=>whnf);repeat(first|refine KIf.t ?_ ?_;assumption|refine KIf.f ?_ ?_;(focus(simp only[Bool.not_eq_true',Bool.not_eq_false',Bool.not_true,Bool.not_false];assumption))|refine Need.mk (p:=zah _=true) ?_ ?_;decide+kernel|refine Need.mk ?_ ?_;(first|trivial|(constructor<;>omega))|refine KCall.pure (za6 _ _ _) ?_|refine DCall.pure (ziw _) ?_);conv=>whnf
   (refine .z [] ?_;conv=>whnf);(repeat' first|exact zT|exact rfl|refine zA ?_ ?_)<;>(try(conv=>whnf))<;>(first|(intro _ _;rfl)|(simp[Ck.rc,h,ho];rfl))
 ·have h2:wi r.r 0 (v.rs.length-1)=false:=by simpa using h
  rw[if_neg h]
  (conv=>whnf);repeat(first|refine KIf.t ?_ ?_;(focus(simp only[Bool.not_eq_true',Bool.not_eq_false',Bool.not_true,Bool.not_false];assumption))|refine Need.mk ?_ ?_;((constructor<;>omega))|refine KCall.pure (za6 _ _ _) ?_);conv=>whnf
  (refine .z [] ?_;conv=>whnf);(repeat' first|exact zT|exact rfl|refine zA ?_ ?_)<;>(try(conv=>whnf))<;>(simp[h2])
end Go.Proofs.YtgcjejajljhnaaaGreatDoor
namespace Go.Ex
open Go
mutual
def NmP (p:Nat→Prop):AV→Prop
 | .ptr b _=>p b
 | .sl b _ _ _=>p b
 | .so b _ _ _=>p b
 | .fn _ a c=>NmPl p a∧NmPl p c
 | .agg l=>NmPl p l
 | .tup l=>NmPl p l
 | .ifc _ v=>NmP p v
 |_=>True
def NmPl (p:Nat→Prop):List AV→Prop
 |[]=>True
 |x::l=>NmP p x∧NmPl p l
end
def RS (R:Nat→Option Nat) (k:Nat):Prop:=(R k).isSome=true
def RD (R:Nat→Option Nat) (k:Nat):Nat:=match R k with|some b=>b|none=>0
section
variable {m m1 : Mp} {w : World} {h : T AO} {z : List Nat} {p : Nat → Prop} {rr : Nat → Nat}
mutual
theorem znh (hok:Ok m h.get w) (hm:∀k x,p k→m (rr k)=some x→m1 k=some x) (hz1:m1.z=zdb m h.get z w):∀(v1:AV) {v:AV} {x:Value},NmP p v1→Wv h z rr v1 v→R1 m v x→R1 m1 v1 x
 | .any,_,_,_,_,_=>trivial
 | .sc _,v,x,_,hw,hr=>by
  unfold Wv at hw;split at hw
  ·rw[hw.eq];exact hr
  ·exact hw.elim
 | .ptr b o,v,x,hn,hw,hr=>by
  unfold Wv at hw;unfold NmP at hn;split at hw
  ·obtain⟨rfl,rfl⟩:=hw;obtain⟨k,o',c,hk,e⟩:=hr;exact⟨k,o',c,hm _ _ hn hk,e⟩
  ·exact hw.elim
 | .sl b o n c,v,x,hn,hw,hr=>by
  unfold Wv at hw;unfold NmP at hn;split at hw
  ·obtain⟨rfl,rfl,rfl,rfl⟩:=hw;obtain⟨k,o',c',hk,e⟩:=hr;exact⟨k,o',c',hm _ _ hn hk,e⟩
  ·exact hw.elim
 | .so b o n s,v,x,hn,hw,hr=>by
  unfold Wv at hw;unfold NmP at hn;split at hw
  ·obtain⟨rfl,rfl,rfl,rfl⟩:=hw;obtain⟨k,o',c',hk,hc,e⟩:=hr;exact⟨k,o',c',hm _ _ hn hk,hc,e⟩
  ·exact hw.elim
 | .fn f a c,v,x,hn,hw,hr=>by
  unfold Wv at hw;unfold NmP at hn;split at hw
  ·obtain⟨rfl,h1,h2⟩:=hw;obtain⟨a',b',ha,hb,e⟩:=hr;exact⟨a',b',zdD hok hm hz1 a hn.1 h1 ha,zdD hok hm hz1 c hn.2 h2 hb,e⟩
  ·exact hw.elim
 | .agg l,v,x,hn,hw,hr=>by
  unfold Wv at hw;unfold NmP at hn;split at hw
  ·obtain⟨l',hl,e⟩:=hr;exact⟨l',zdD hok hm hz1 l hn hw hl,e⟩
  ·rename_i cs;cases hr;exact⟨cs.toList,zdD hok hm hz1 l hn hw (Rl.sc _),by simp⟩
  ·exact hw.elim
 | .tup l,v,x,hn,hw,hr=>by
  unfold Wv at hw;unfold NmP at hn;split at hw
  ·obtain⟨l',hl,e⟩:=hr;exact⟨l',zdD hok hm hz1 l hn hw hl,e⟩
  ·exact hw.elim
 | .ifc t x1,v,x,hn,hw,hr=>by
  unfold Wv at hw;unfold NmP at hn;split at hw
  ·obtain⟨rfl,hw⟩:=hw;obtain⟨v',hv,e⟩:=hr;exact⟨v',znh hok hm hz1 x1 hn hw hv,e⟩
  ·exact hw.elim
 | .lst sz n f,v,x,_,hw,hr=>by
  unfold Wv at hw;have:=zng hok (.lst sz n f) hw hr;show Rz m1.z _ _;rw[hz1];exact this
 | .cp cs off,v,x,_,hw,hr=>by
  unfold Wv at hw;subst hw;show Rz m1.z _ _;rw[hz1];exact Rz.mono zaS _ _ hr
theorem zdD (hok:Ok m h.get w) (hm:∀k x,p k→m (rr k)=some x→m1 k=some x) (hz1:m1.z=zdb m h.get z w):∀(l1:List AV) {l:List AV} {xs:List Value},NmPl p l1→Wvl h z rr l1 l→Rl m l xs→Rl m1 l1 xs
 |[],l,xs,_,hw,hr=>by
  unfold Wvl at hw;split at hw
  ·exact hr
  ·exact hw.elim
 |v1::l1,l,xs,hn,hw,hr=>by
  unfold Wvl at hw;unfold NmPl at hn;split at hw
  ·obtain⟨y,ys,e,h1,h2⟩:=hr;exact⟨y,ys,e,znh hok hm hz1 v1 hn.1 hw.1 h1,zdD hok hm hz1 l1 hn.2 hw.2 h2⟩
  ·exact hw.elim
end
end
def WRowG (h:T AO) (z:List Nat) (R:Nat→Option Nat) (c1 c:List AV):Prop:=(NmPl (RS R) c1∧Wvl h z (RD R) c1 c)∨∃t,c=c1++t∧cont.contL c1=true
theorem WRowG.same {h:T AO} {z:List Nat} {R:Nat→Option Nat} {c1 c:List AV} (e:c1=c) (hc:cont.contL c=true):WRowG h z R c1 c:= .inr ⟨[],by simp[e],by rw[e];exact hc⟩
theorem Rl.split {m:Mp}:∀{a b:List AV} {xs:List Value},Rl m (a++b) xs→∃ys zs,xs=ys++zs∧Rl m a ys∧Rl m b zs
 |[],b,xs,h=>⟨[],xs,rfl,rfl,h⟩
 |x::a,b,xs,⟨y,ys,e,h1,h2⟩=>by
  obtain⟨ys',zs,rfl,h3,h4⟩:=Rl.split (a:=a) h2;exact⟨y::ys',zs,by rw[e];rfl,⟨y,ys',rfl,h1,h3⟩,h4⟩
def WOG (h:T AO) (z:List Nat) (R:Nat→Option Nat) (o1 o:AO):Prop:=
 match o1 with
 | .row c1 e1 q1=>match o with| .row c e q=>e1=e∧q1=q∧WRowG h z R c1 c|_=>False
 | .iter s p=>match o with| .iter s' p'=>s=s'∧p=p'|_=>False
structure Ren (h:T AO) (z:List Nat) (R:Nat→Option Nat) (F1:AH):Prop where
 row:∀k o1,F1 k=some o1→∃k0 o,R k=some k0∧h.get k0=some o∧k0∉z∧WOG h z R o1 o
 inj:∀k k' o o' k0,F1 k=some o→F1 k'=some o'→R k=some k0→R k'=some k0→k=k'
noncomputable def mR (m:Mp) (h:T AO) (z:List Nat) (R:Nat→Option Nat) (w:World):Mp:=⟨fun k=>(R k).bind m.f,zdb m h.get z w⟩
section
variable {m m1 : Mp} {w : World} {h : T AO} {z : List Nat} {R : Nat → Option Nat} {F1 : AH}
theorem zjr {k k0:Nat} (hk:R k=some k0):mR m h z R w k=m k0:=by show(R k).bind m.f=_;rw[hk];rfl
theorem zoo :∀k x,RS R k→m (RD R k)=some x→mR m h z R w k=some x:=by
 intro k x hk hx;unfold RS at hk;unfold RD at hx
 cases e:R k with
 |none=>rw[e] at hk;cases hk
 |some k0=>rw[e] at hx;rw[zjr e];exact hx
theorem WOG_R (hok:Ok m h.get w) {k k0:Nat} {o1 o:AO} (hk:R k=some k0) (h3:WOG h z R o1 o) (hR:o.R m w k0):o1.R (mR m h z R w) w k:=by
 unfold WOG at h3;split at h3
 ·split at h3
  ·obtain⟨rfl,rfl,h3⟩:=h3;obtain⟨k',o,cap,cur,fr,pre,vs,post,q1,q2,q3,q4,q5,q6,q7⟩:=hR
   rcases h3 with⟨h4,h5⟩|⟨t,rfl,h4⟩
   ·exact⟨k',o,cap,cur,fr,pre,vs,post,(zjr hk).trans q1,q2,q3,q4,q5,zdD hok zoo rfl _ h4 h5 q6,q7⟩
   ·obtain⟨ys,zs,rfl,h5,h6⟩:=Rl.split q6;refine⟨k',o,cap,cur,fr,pre,ys,zs++post,(zjr hk).trans q1,q2,q3,by rw[q4];simp,q5,zbI h4 h5 zaS,fun hs=> ?_⟩;have:=q7 hs;simp only[List.length_append] at this⊢;omega
  ·exact h3.elim
 ·split at h3
  ·obtain⟨rfl,rfl⟩:=h3;obtain⟨k',q1,q2⟩:=hR;exact⟨k',(zjr hk).trans q1,q2⟩
  ·exact h3.elim
theorem Ren.gk {n0:Nat} (H:Ren h z R F1) (hok:Ok m h.get w) (hlow:∀k,k<n0→R k=some k):Gk n0 h.get F1 m (mR m h z R w) w w:=by
 have hblk:∀k k0,R k=some k0→blk (mR m h z R w) k=blk m k0:=fun k k0 hk=>by unfold blk;rw[zjr hk]
 refine⟨⟨fun k o hk=> ?_,fun k k' o o' hk hk' hne=> ?_,fun k i v hv=> ?_,hok.tbsub fun k o hk=> ?_⟩,⟨rfl,rfl,rfl,Nat.le_refl _,fun _ _ _=>rfl⟩,fun k o hk=> ?_,zaS,fun k i v hv=> ?_,fun k hk=>zjr (hlow k hk)⟩
 ·obtain⟨k0,o0,h1,h2,_,h3⟩:=H.row k o hk;exact WOG_R hok h1 h3 (hok.has k0 o0 h2)
 ·obtain⟨k0,o0,h1,h2,_,_⟩:=H.row k o hk;obtain⟨k0',o0',h1',h2',_,_⟩:=H.row k' o' hk';rw[hblk k k0 h1,hblk k' k0' h1']
  refine hok.apart k0 k0' o0 o0' h2 h2' fun e=>hne ?_
  subst e;exact H.inj k k' o o' k0 hk hk' h1 h1'
 ·refine⟨?_,fun b o hb=> ?_⟩
  ·rcases zan hv with h1|⟨_,h1⟩
   ·exact(hok.fz k i v h1).1
   ·exact h1
  ·obtain⟨b0,o0,h1,h2,hz,_⟩:=H.row b o hb;rw[hblk b b0 h1]
   rcases zan hv with h3|⟨⟨b1,o1,h3,h4,h5⟩,_⟩
   ·exact(hok.fz k i v h3).2 b0 o0 h2
   ·intro e
    have hne:b1≠b0:=fun e1=>by subst e1;exact hz h3
    exact hok.apart b1 b0 o1 o0 h4 h2 hne (h5.trans e.symm)
 ·obtain⟨b0,o0,h1,h2,_⟩:=H.row k o hk;exact⟨b0,o0,h2,hblk k b0 h1⟩
 ·obtain⟨b0,o0,h1,h2,_⟩:=H.row k o hk;exact .inl ⟨b0,o0,h2,hblk k b0 h1⟩
 ·rcases zan hv with h1|⟨⟨b1,o1,h3,h4,h5⟩,_⟩
  ·exact .inl h1
  ·exact .inr (.inl ⟨b1,o1,h4,h5⟩)
def zi4 (h:T AO) (z:List Nat) (R:Nat→Option Nat) (t:Tm):List (Nat×AV)→Prop
 |[]=>True
 |p::l=>(NmP (RS R) p.2∧Wv h z (RD R) p.2 (t.get p.1))∧zi4 h z R t l
theorem zhp {t:Tm} {v1:AV} {i:Nat}:∀{l:List (Nat×AV)},zi4 h z R t l→(zcr l).get i=some v1→NmP (RS R) v1∧Wv h z (RD R) v1 (t.get i)
 |[],_,hv=>by cases hv
 |p::l,hw,hv=>by
  have hv':((zcr l).put p.1 (some p.2)).get i=some v1:=hv;rw[T.get_put] at hv';obtain⟨h1,h2⟩:=hw;split at hv'
  ·rename_i e;cases hv';subst e;exact h1
  ·exact zhp h2 hv'
theorem Weak.gen {n0:Nat} {t:Tm} {s s1:St} {sl:List (Nat×AV)} {n:Nat} (hn:t.n=n) (H:Ren s.h z R s1.h.get) (hlow:∀k,k<n0→R k=some k) (hab:∀k,s1.n≤k→R k=none) (hn1:n0≤s1.n) (hsl:zi4 s.h z R t sl):Weak n0 t s (slots sl n) s1:=by
 intro m a w hf hok ha hn0;refine⟨mR m s.h z R w,⟨hn▸hf.n,fun i=> ?_⟩,H.gk hok hlow,fun k hk=> ?_,hn1⟩
 ·show R1 _ (match(zcr sl).get i with|some v=>v|none=> .any) _
  cases hv:(zcr sl).get i with
  |none=>trivial
  |some v1=>
   obtain⟨h1,h2⟩:=zhp hsl hv;exact znh hok zoo rfl v1 h1 h2 (hf.r i)
 ·show(R k).bind m.f=none;rw[hab k hk];rfl
end
end Go.Ex
namespace Go.Ex
open Go
theorem CallOk.liftGen {P:Program} {f:FuncId} {args0 args:List AV} {v1 v2:AV} {s s':St} {z:List Nat} {R:Nat→Option Nat} {F0 F1:AH} {n0 nA:Nat} (ρ inv:Nat→Nat)
  (hc:∀m w args',Rl m args0 args'→Ok m F0 w→Above m nA→Calls P f args'.toArray w fun e w'=>∃y m',e= .returned y∧Gk n0 F0 F1 m m' w w'∧R1 m' v1 y∧Above m' nA)
  (hren:Ren s.h z R F0) (hab:∀k,nA≤k→R k=none) (hargs:NmPl (RS R) args0∧Wvl s.h z (RD R) args0 args) (hle:s.n≤s'.n)
  (hρ:∀k,k<nA→(s.n≤ρ k∧ρ k<s'.n∧inv (ρ k)=k)∨(k<n0∧R k=some (ρ k)))
  (hv:Rn ρ v1 v2) (hrow:∀B o,s'.h.get B=some o→(∃k o1,F1 k=some o1∧RnO ρ o1 o∧B=ρ k)∨(s.h.get B=some o∧B∉z∧∀k o0,F0 k=some o0→R k≠some B)):CallOk P f args s v2 s':=by
 intro m w args' hR hok hfr
 have hblk0:∀k k0,R k=some k0→blk (mR m s.h z R w) k=blk m k0:=fun k k0 hk=>by unfold blk;rw[zjr hk]
 have g1:Gk 0 s.h.get F0 m (mR m s.h z R w) w w:=hren.gk hok (fun k hk=>absurd hk (Nat.not_lt_zero _))
 have ha1:Above (mR m s.h z R w) nA:=fun k hk=>by show(R k).bind m.f=none;rw[hab k hk];rfl
 have hR0:=zdD hok zoo rfl args0 hargs.1 hargs.2 hR;refine Calls.mono (hc _ w args' hR0 g1.ok ha1) ?_;rintro e w' ⟨y,m1,rfl,g2,hv1,ha2⟩;have g:Gk 0 s.h.get F1 m m1 w w':=g1.trans ⟨g2.ok,g2.fr,g2.new,g2.zle,g2.znew,fun b hb=>absurd hb (Nat.not_lt_zero _)⟩;have hfr:∀b,s.n≤b→b<s'.n→m b=none:=hfr
 let m':Mp:=⟨fun B=>if s.n≤B∧B<s'.n then m1 (inv B) else m B,m1.z⟩
 have hout:∀B x,m B=some x→m' B=some x:=fun B x hb=>by
  show(if s.n≤B∧B<s'.n then _ else _)=_;split
  ·rename_i h;rw[hfr B h.1 h.2] at hb;cases hb
  ·exact hb
 have hρ':∀k x,m1 k=some x→m' (ρ k)=some x:=fun k x hk=>by
  have hlt:k<nA:=Nat.lt_of_not_le fun h=>by rw[ha2 k h] at hk;cases hk
  rcases hρ k hlt with⟨h1,h2,h3⟩|⟨h1,h2⟩
  ·show(if s.n≤ρ k∧ρ k<s'.n then m1 (inv (ρ k)) else m (ρ k))=_;rw[if_pos ⟨h1,h2⟩,h3];exact hk
  ·refine hout _ _ ?_;rw[←hk,g2.low k h1,zjr h2]
 have hblk:∀j k,blk m1 j=some k→blk m' (ρ j)=some k:=fun j k h=>by
  unfold blk at h⊢
  cases hj:m1 j with
  |none=>rw[hj] at h;cases h
  |some x=>rw[hj] at h;rw[hρ' j x hj];exact h
 have hblko:∀b k,blk m b=some k→blk m' b=some k:=fun b k h=>by
  unfold blk at h⊢
  cases hj:m b with
  |none=>rw[hj] at h;cases h
  |some x=>rw[hj] at h;rw[hout b x hj];exact h
 have hsep:∀j o1 b o,F1 j=some o1→s.h.get b=some o→(∀k o0,F0 k=some o0→R k≠some b)→blk m1 j≠blk m b:=fun j o1 b o hj hb hr=>by
  rcases g2.new j o1 hj with⟨b0,o0,h0,e0⟩|⟨k,ek,hk⟩
  ·obtain⟨b1,o2,h1,h2,_⟩:=hren.row b0 o0 h0;rw[e0,hblk0 b0 b1 h1]
   exact hok.apart b1 b o2 o h2 hb fun e=>hr b0 o0 h0 (e▸h1)
  ·obtain⟨k',h1,h2⟩:=AO.R_blk (hok.has b o hb);rw[ek,h1];intro e;cases e;omega
 have hok':Ok m' s'.h.get w':=by
  refine⟨fun b o hb=> ?_,fun b b' o o' hb hb' hne=> ?_,fun k i v hv=> ?_,fun k x hk=> ?_⟩
  ·rcases hrow b o hb with⟨j,o1,h1,h2,rfl⟩|⟨h1,h2,h3⟩
   ·have hR:=g2.ok.has j o1 h1;unfold RnO at h2;split at h2
    ·split at h2
     ·obtain⟨rfl,rfl,h2⟩:=h2;obtain⟨k,o,cap,cur,fr,pre,vs,post,q1,q2,q3,q4,q5,q6,q7⟩:=hR;refine⟨k,o,cap,cur,fr,pre,vs,post,hρ' _ _ q1,q2,q3,q4,q5,?_,q7⟩
      rcases h2 with h2|⟨rfl,h2⟩
      ·exact zhf hρ' (fun _ _ _ h=>h) _ h2 q6
      ·exact zbI h2 q6 fun _ _ _ h=>h
     ·exact h2.elim
    ·split at h2
     ·obtain⟨rfl,rfl⟩:=h2;obtain⟨k,q1,q2⟩:=hR;exact⟨k,hρ' _ _ q1,q2⟩
     ·exact h2.elim
   ·have hRo:=hok.has b o h1
    refine AO.R_keep hRo ⟨hout,g.zle⟩ fun k hk=> ?_
    obtain⟨k',hk',hlt⟩:=AO.R_blk hRo;rw[hk] at hk';cases hk'
    refine g2.fr.block k hlt fun b0 o0 h0 e0=> ?_
    obtain⟨b1,o2,h4,h5,_⟩:=hren.row b0 o0 h0;rw[hblk0 b0 b1 h4] at e0;exact hok.apart b1 b o2 o h5 h1 (fun e=>h3 b0 o0 h0 (e▸h4)) (e0.trans hk.symm)
  ·rcases hrow b o hb with⟨j,o1,h1,h2,rfl⟩|⟨h1,h2,h3⟩
   ·obtain⟨k,hk,_⟩:=AO.R_blk (g2.ok.has j o1 h1);rw[hblk _ _ hk]
    rcases hrow b' o' hb' with⟨j',o1',h1',h2',rfl⟩|⟨h1',h2',h3'⟩
    ·obtain⟨k',hk',_⟩:=AO.R_blk (g2.ok.has j' o1' h1');rw[hblk _ _ hk',←hk,←hk']
     exact g2.ok.apart j j' o1 o1' h1 h1' fun e=>hne (by rw[e])
    ·obtain⟨k',hk',_⟩:=AO.R_blk (hok.has b' o' h1');rw[hblko _ _ hk',←hk,←hk'];exact hsep j o1 b' o' h1 h1' h3'
   ·obtain⟨k,hk,_⟩:=AO.R_blk (hok.has b o h1);rw[hblko _ _ hk]
    rcases hrow b' o' hb' with⟨j',o1',h1',h2',rfl⟩|⟨h1',h2',h3'⟩
    ·obtain⟨k',hk',_⟩:=AO.R_blk (g2.ok.has j' o1' h1');rw[hblk _ _ hk',←hk,←hk']
     exact fun e=>hsep j' o1' b o h1' h1 h3 e.symm
    ·obtain⟨k',hk',_⟩:=AO.R_blk (hok.has b' o' h1');rw[hblko _ _ hk',←hk,←hk'];exact hok.apart b b' o o' h1 h1' hne
  ·have hv:m1.z k i=some v:=hv;refine⟨(g2.ok.fz k i v hv).1,fun b o hb=> ?_⟩
   rcases hrow b o hb with⟨j,o1,h1,h2,rfl⟩|⟨h1,h2,h3⟩
   ·obtain⟨k',hk',_⟩:=AO.R_blk (g2.ok.has j o1 h1);rw[hblk _ _ hk',←hk'];exact(g2.ok.fz k i v hv).2 j o1 h1
   ·obtain⟨k',hk',hlt⟩:=AO.R_blk (hok.has b o h1);rw[hblko _ _ hk'];intro e;cases e
    rcases g2.znew k i v hv with h4|⟨b0,o0,h0,e0⟩|h4
    ·rcases zan h4 with h5|⟨⟨b1,o1,h5,h6,h7⟩,_⟩
     ·exact(hok.fz k i v h5).2 b o h1 hk'
     ·exact hok.apart b1 b o1 o h6 h1 (fun e=>h2 (e▸h5)) (h7.trans hk'.symm)
    ·obtain⟨b1,o2,h5,h6,_⟩:=hren.row b0 o0 h0;rw[hblk0 b0 b1 h5] at e0;exact hok.apart b1 b o2 o h6 h1 (fun e=>h3 b0 o0 h0 (e▸h5)) (e0.trans hk'.symm)
    ·omega
  ·refine⟨(g2.ok.tb k x hk).1,fun b o hb=> ?_⟩
   rcases hrow b o hb with⟨j,o1,h1,h2,rfl⟩|⟨h1,h2,h3⟩
   ·obtain⟨k',hk',_⟩:=AO.R_blk (g2.ok.has j o1 h1);rw[hblk _ _ hk',←hk'];exact(g2.ok.tb k x hk).2 j o1 h1
   ·obtain⟨k',hk',_⟩:=AO.R_blk (hok.has b o h1);rw[hblko _ _ hk',←hk'];exact(hok.tb k x hk).2 b o h1
 refine⟨y,m',rfl,⟨hle,fun b hb=> ?_,hok',g.fr,fun b o hb=> ?_,g.zle,g.znew⟩,znj hρ' (fun _ _ _ h=>h) v1 hv hv1⟩
 ·show(if s.n≤b∧b<s'.n then _ else _)=_;have hb:b<s.n∨s'.n≤b:=hb;rw[if_neg (by omega)]
 ·rcases hrow b o hb with⟨j,o1,h1,h2,rfl⟩|⟨h1,h2,h3⟩
  ·obtain⟨k,hk,_⟩:=AO.R_blk (g2.ok.has j o1 h1);rw[hblk _ _ hk,←hk]
   rcases g.new j o1 h1 with⟨b0,o0,h0,e0⟩|⟨k',e,hk'⟩
   ·exact .inl ⟨b0,o0,h0,e0⟩
   ·exact .inr ⟨k',e,hk'⟩
  ·obtain⟨k,hk,_⟩:=AO.R_blk (hok.has b o h1);exact .inl ⟨b,o,h1,by rw[hblko _ _ hk,hk]⟩
def plainA :AV→Bool
 | .sc _=>true
 | .any=>true
 | .agg l=>plainL l
 | .tup l=>plainL l
 |_=>false
where plainL:List AV→Bool
 |[]=>true
 |x::l=>match plainA x with|true=>plainL l|false=>false
mutual
theorem zih {m m':Mp}:∀{v:AV} {x:Value},plainA v=true→R1 m v x→R1 m' v x
 | .sc _,_,_,h=>h
 | .any,_,_,_=>trivial
 | .agg l,_,hc,⟨l',hl,e⟩=>⟨l',zf6 hc hl,e⟩
 | .tup l,_,hc,⟨l',hl,e⟩=>⟨l',zf6 hc hl,e⟩
 | .ptr _ _,_,hc,_=>by cases hc
 | .sl _ _ _ _,_,hc,_=>by cases hc
 | .so _ _ _ _,_,hc,_=>by cases hc
 | .fn _ _ _,_,hc,_=>by cases hc
 | .ifc _ _,_,hc,_=>by cases hc
 | .lst _ _ _,_,hc,_=>by cases hc
 | .cp _ _,_,hc,_=>by cases hc
theorem zf6 {m m':Mp}:∀{l:List AV} {xs:List Value},plainA.plainL l=true→Rl m l xs→Rl m' l xs
 |[],_,_,h=>h
 |x::l,_,hc,⟨y,ys,e,h1,h2⟩=>by
  unfold plainA.plainL at hc;split at hc
  ·rename_i hx;exact⟨y,ys,e,zih hx h1,zf6 hc h2⟩
  ·cases hc
end
open Classical in
theorem CallOk.lend {P:Program} {f:FuncId} {args args1:List AV} {s:St} {v:AV} (z:List Nat) (hw:Wzl s.h z args1 args) (hc:PureC P f args1 v) (hv:plainA v=true):CallOk P f args s v s:=by
 intro m w args' hR hok hfr
 let m1:Mp:=⟨m.f,zdb m s.h.get z w⟩
 have hok1:Ok m1 (⟨.e,s.n⟩:St).h.get w:=by
  refine⟨fun b o hb=>(by cases hb),fun b b' o o' hb=>(by cases hb),fun k i v hv=>⟨?_,fun b o hb=>(by cases hb)⟩,hok.tbsub fun b o hb=>(by cases hb)⟩
  rcases zan hv with h1|⟨_,h6⟩
  ·exact(hok.fz k i v h1).1
  ·exact h6
 have hR1:Rl m1 args1 args':=Rzl.rl (m:=m1) (zdC hok args1 hw hR);refine Calls.mono (hc ⟨.e,s.n⟩ m1 w args' hR1 hok1 (fun b h1 h2=>absurd (Nat.lt_of_lt_of_le h2 h1) (Nat.lt_irrefl _))) ?_;rintro e w' ⟨y,m',rfl,hg,hy⟩
 let own:Nat→Prop:=fun k=>∃b o,b∈z∧s.h.get b=some o∧blk m b=some k
 let m2:Mp:=⟨m'.f,fun k i=>if own k then m.z k i else m'.z k i⟩
 have hext:∀b,m' b=m b:=fun b=>hg.ext b (by omega)
 have hblk:∀b,blk m2 b=blk m b:=fun b=>by show Option.map _ (m' b)=_;rw[hext b];rfl
 have hle:m.le m2:=⟨fun b x hb=>by show m' b=_;rw[hext b];exact hb,fun k i v hv=>by
  show(if own k then _ else _)=_;by_cases h:own k
  ·rw[if_pos h];exact hv
  ·rw[if_neg h];refine hg.zle k i v ?_
   exact zaS k i v hv⟩
 have hkeep:∀k,k<w.heap.size→w'.heap[k]? =w.heap[k]? :=fun k hk=>hg.fr.block k hk fun b o hb=>by cases hb
 refine⟨y,m2,rfl,⟨Nat.le_refl _,fun b _=>hext b,⟨fun b o hb=> ?_,fun b b' o o' hb hb' hne=> ?_,fun k i v hv=> ?_,hok.tbs (fun k hk _=>hkeep k hk) fun b o hb=> .inl ⟨b,o,hb,hblk b⟩⟩,⟨hg.fr.os,hg.fr.tape,hg.fr.output,hg.fr.size,fun k hk _=>hkeep k hk⟩,fun b o hb=> .inl ⟨b,o,hb,hblk b⟩,hle.z,fun k i v hv=> ?_⟩,zih hv hy⟩
 ·refine AO.R_keep (hok.has b o hb) hle fun k hk=> ?_
  obtain⟨k',hk',hlt⟩:=AO.R_blk (hok.has b o hb);rw[hk] at hk';cases hk';exact hkeep k hlt
 ·rw[hblk,hblk];exact hok.apart b b' o o' hb hb' hne
 ·have hv:(if own k then m.z k i else m'.z k i)=some v:=hv;by_cases h:own k
  ·rw[if_pos h] at hv;obtain⟨b,o,_,h2,h3⟩:=h;exact absurd h3 ((hok.fz k i v hv).2 b o h2)
  ·rw[if_neg h] at hv;refine⟨(hg.ok.fz k i v hv).1,fun b o hb=> ?_⟩;rw[hblk]
   rcases hg.znew k i v hv with h1|⟨b0,o0,h0,_⟩|h1
   ·rcases zan h1 with h2|⟨h2,_⟩
    ·exact(hok.fz k i v h2).2 b o hb
    ·exact absurd h2 h
   ·cases h0
   ·obtain⟨k',hk',hlt⟩:=AO.R_blk (hok.has b o hb);rw[hk'];intro e;cases e;omega
 ·have hv:(if own k then m.z k i else m'.z k i)=some v:=hv;by_cases h:own k
  ·rw[if_pos h] at hv;exact .inl hv
  ·rw[if_neg h] at hv
   rcases hg.znew k i v hv with h1|⟨b0,o0,h0,_⟩|h1
   ·rcases zan h1 with h2|⟨h2,_⟩
    ·exact .inl h2
    ·exact absurd h2 h
   ·cases h0
   ·exact .inr (.inr h1)
theorem KCall.lend {P:Program} {f:FuncId} {args args1:List AV} {s:St} {K:KC} {v:AV} (z:List Nat) (hc:PureC P f args1 v) (hv:plainA v=true) (hw:Wzl s.h z args1 args) (hk:K v s):KCall P f args s K:=⟨v,_,CallOk.lend z hw hc hv,Nat.le_refl _,hk⟩
theorem DCall.lend {P:Program} {f:FuncId} {args args1:List AV} {light:AV→Prop} {heavy:AV→St→Prop} {s:St} {v:AV} (z:List Nat) (hc:PureC P f args1 v) (hv:plainA v=true) (hw:Wzl s.h z args1 args) (hk:heavy v s):DCall P f args light heavy s:=⟨.inr ⟨v,_,CallOk.lend z hw hc hv,hk⟩⟩
end Go.Ex
namespace Go.Ex
open Go
noncomputable def famC :{f:Nat→Nat→Nat//∀a j,f a j=a+j}:=Classical.choice ⟨⟨fun a j=>a+j,fun _ _=>rfl⟩⟩
noncomputable def fam (a j:Nat):Nat:=famC.1 a j
theorem za8 (a j:Nat):fam a j=a+j:=famC.2 a j
def zax (a b:Nat) (g:Nat→Option AO) (rows:List AO):St:=⟨.f a b g (seqT 0 .e rows),b⟩
theorem zcK (a b:Nat) (g:Nat→Option AO) (rows:List AO) (k:Nat):(zax a b g rows).h.get k=if a≤k∧k<b then g (k-a) else rows[k]? :=by
 show(T.f a b g (seqT 0 .e rows)).get k=_;rw[T.get_f,show(seqT 0 .e rows).get k=rows[k]? from zaD rows k]
theorem zaq {a b j:Nat} {g:Nat→Option AO} {t:T AO} (h:j<b-a):(T.f a b g t).get (fam a j)=g j:=by
 rw[za8,T.get_f,if_pos ⟨by omega,by omega⟩,Nat.add_sub_cancel_left]
theorem zcW {a b j:Nat} {g:Nat→Option AO} {t:T AO} {x:Option AO} (h:j<b-a):(T.f a b g t).put (fam a j) x= .f a b (updF g j x) t:=by
 rw[za8,T.put_f,if_pos ⟨by omega,by omega⟩,Nat.add_sub_cancel_left]
def zbn (o:AO):Prop:=match o with| .row c _ _=>cont.contL c=true| .iter _ _=>True
noncomputable def ovG (base:Nat):List (Nat×Nat)→Nat→Nat
 |[],j=>fam base j
 |p::l,j=>match Nat.beq j p.1 with|true=>p.2|false=>ovG base l j
noncomputable def renG (a b base:Nat) (ov:List (Nat×Nat)) (r:List Nat) (k:Nat):Option Nat:=match inR a b k with|true=>some (ovG base ov (Nat.sub k a))|false=>nth r k
theorem zeF {base:Nat} {j:Nat}:∀{ov:List (Nat×Nat)},(ovG base ov j=fam base j∧∀p∈ov,j≠p.1)∨∃(i:Nat) (p:Nat×Nat),ov[i]? =some p∧j=p.1∧ovG base ov j=p.2
 |[]=> .inl ⟨rfl,fun p hp=>by cases hp⟩
 |p::l=>by
  cases h:Nat.beq j p.1 with
  |true=>exact .inr ⟨0,p,rfl,Nat.eq_of_beq_eq_true h,by show(match Nat.beq j p.1 with|true=>p.2|false=>ovG base l j)=_;rw[h]⟩
  |false=>
   have hne:j≠p.1:=fun e=>by rw[e,Nat.beq_refl] at h;cases h
   have e1:ovG base (p::l) j=ovG base l j:=by show(match Nat.beq j p.1 with|true=>p.2|false=>ovG base l j)=_;rw[h]
   rcases zeF (base:=base) (j:=j) (ov:=l) with⟨h1,h2⟩|⟨i,q,h1,h2,h3⟩
   ·exact .inl ⟨e1.trans h1,fun q hq=>by rcases List.mem_cons.1 hq with rfl|hq;exact hne;exact h2 q hq⟩
   ·exact .inr ⟨i+1,q,by simpa using h1,h2,e1.trans h3⟩
def zew (h:T AO) (z:List Nat) (R:Nat→Option Nat):List AO→List Nat→Prop
 |[],r=>match r with|[]=>True|_=>False
 |o1::l,r=>match r with
  |b0::r=>match h.get b0 with|some o=>WOG h z R o1 o∧zew h z R l r|none=>False
  |[]=>False
theorem zev {h:T AO} {z:List Nat} {R:Nat→Option Nat}:∀{rows:List AO} {r:List Nat},zew h z R rows r→rows.length=r.length∧∀(b:Nat) (o1:AO),rows[b]? =some o1→∃b0 o,r[b]? =some b0∧h.get b0=some o∧WOG h z R o1 o
 |[],r,hw=>by
  unfold zew at hw;split at hw
  ·exact⟨rfl,fun b o1 hb=>by simp at hb⟩
  ·exact hw.elim
 |o1::l,r,hw=>by
  unfold zew at hw;split at hw
  ·split at hw
   ·rename_i ho;obtain⟨h1,h2⟩:=hw;obtain⟨h3,h4⟩:=zev h2;refine⟨by simp[h3],fun b o' hb=> ?_⟩
    cases b with
    |zero=>simp at hb;subst hb;exact⟨_,_,rfl,ho,h1⟩
    |succ b=>simpa using h4 b o' (by simpa using hb)
   ·exact hw.elim
  ·exact hw.elim
def outR (a b:Nat):List Nat→Bool
 |[]=>true
 |k::l=>match inR a b k with|true=>false|false=>outR a b l
theorem zfg {a b:Nat}:∀{l:List Nat},outR a b l=true→∀k∈l,¬(a≤k∧k<b)
 |[],_,k,hk=>by cases hk
 |x::l,h,k,hk=>by
  unfold outR at h;split at h
  ·cases h
  ·rename_i hx
   rcases List.mem_cons.1 hk with rfl|hk
   ·intro h2;rw[inR_iff.2 h2] at hx;cases hx
   ·exact zfg h k hk
def snds :List (Nat×Nat)→List Nat
 |[]=>[]
 |p::l=>p.2::snds l
theorem zf2 :∀{l:List (Nat×Nat)} {i:Nat} {p:Nat×Nat},l[i]? =some p→(snds l)[i]? =some p.2
 |[],i,p,h=>by simp at h
 |q::l,0,p,h=>by simp at h;subst h;rfl
 |q::l,i+1,p,h=>by simpa[snds] using zf2 (l:=l) (by simpa using h)
theorem zh3 :∀(l:List (Nat×Nat)),(snds l).length=l.length
 |[]=>rfl
 |_::l=>by simp[snds,zh3 l]
def okG (n0 a b base:Nat) (z:List Nat) (ov:List (Nat×Nat)) (r:List Nat):Bool:=
 match zcp z (snds ov++r) with
 |true=>match outR base (Nat.add base (Nat.sub b a)) (snds ov++(r++z)) with
  |true=>match lowB 0 n0 r with
   |true=>match Nat.ble r.length a with|true=>Nat.ble a b|false=>false
   |false=>false
  |false=>false
 |false=>false
theorem zk5 {n0 a b base:Nat} {z:List Nat} {ov:List (Nat×Nat)} {r:List Nat} (h:okG n0 a b base z ov r=true):zcp z (snds ov++r)=true∧outR base (base+(b-a)) (snds ov++(r++z))=true∧lowB 0 n0 r=true∧r.length≤a∧a≤b:=by
 unfold okG at h;split at h
 ·rename_i h1;split at h
  ·rename_i h2;split at h
   ·rename_i h3;split at h
    ·rename_i h4;exact⟨h1,h2,h3,Nat.le_of_ble_eq_true h4,Nat.le_of_ble_eq_true h⟩
    ·cases h
   ·cases h
  ·cases h
 ·cases h
theorem Ren.ofG {n0 a b base:Nat} {h:T AO} {z:List Nat} {ov:List (Nat×Nat)} {r:List Nat} {g1:Nat→Option AO} {rows:List AO} (hg:okG n0 a b base z ov r=true) (hrows:zew h z (renG a b base ov r) rows r)
  (hfam:∀j o1,j<b-a→g1 j=some o1→(∀p∈ov,j≠p.1)→h.get (fam base j)=some o1∧zbn o1)
  (hov:∀p∈ov,∀o1,p.1<b-a→g1 p.1=some o1→∃o,h.get p.2=some o∧WOG h z (renG a b base ov r) o1 o):Ren h z (renG a b base ov r) (zax a b g1 rows).h.get:=by
 obtain⟨hap,hout,hlow,hlen,hab⟩:=zk5 hg;obtain⟨hinj,hz⟩:=zco hap;have hout:=zfg hout;obtain⟨hl,hget⟩:=zev hrows
 have rin:∀k,a≤k∧k<b→renG a b base ov r k=some (ovG base ov (k-a)):=fun k hk=>by unfold renG;rw[inR_iff.2 hk];rfl
 have rout:∀k,¬(a≤k∧k<b)→renG a b base ov r k=r[k]? :=fun k hk=>by unfold renG;rw[zgY hk,za3]
 have zout:∀k,base≤k∧k<base+(b-a)→k∉z:=fun k hk hm=>hout k (by simp[hm]) hk
 refine⟨fun k o1 hk=> ?_,fun k k' o o' k0 hk hk' h1 h2=> ?_⟩
 ·rw[zcK] at hk;by_cases hr:a≤k∧k<b
  ·rw[if_pos hr] at hk;rw[rin k hr]
   rcases zeF (base:=base) (j:=k-a) (ov:=ov) with⟨e,h2⟩|⟨i,p,hp,h2,e⟩
   ·obtain⟨h3,h4⟩:=hfam (k-a) o1 (by omega) hk h2;refine⟨_,o1,rfl,by rw[e];exact h3,by rw[e,za8];exact zout _ ⟨by omega,by omega⟩,?_⟩
    unfold WOG zbn at*
    cases o1 with
    |row c e q=>exact⟨rfl,rfl, .same rfl h4⟩
    |iter s p=>exact⟨rfl,rfl⟩
   ·obtain⟨o,h3,h4⟩:=hov p (List.mem_of_getElem? hp) o1 (by omega) (by rw[←h2];exact hk);refine⟨_,o,rfl,by rw[e];exact h3,?_,h4⟩;rw[e];exact hz _ (List.mem_append_left _ (List.mem_of_getElem? (zf2 hp)))
  ·rw[if_neg hr] at hk;rw[rout k hr];obtain⟨b0,o,h1,h2,h3⟩:=hget k o1 hk;exact⟨b0,o,h1,h2,hz _ (List.mem_append_right _ (List.mem_of_getElem? h1)),h3⟩
 ·have hr:∀k,(a≤k∧k<b)∨¬(a≤k∧k<b):=fun k=>Classical.em _
  have src:∀k,renG a b base ov r k=some k0→(∃j,k=a+j∧j<b-a∧k0=fam base j)∨(∃(j i:Nat) (p:Nat×Nat),k=a+j∧ov[i]? =some p∧j=p.1∧k0=p.2∧a≤k)∨(r[k]? =some k0∧¬(a≤k∧k<b)):=fun k hk=>by
   rcases hr k with h|h
   ·rw[rin k h] at hk;cases hk
    rcases zeF (base:=base) (j:=k-a) (ov:=ov) with⟨e,h2⟩|⟨i,p,hp,h2,e⟩
    ·exact .inl ⟨k-a,by omega,by omega,e⟩
    ·exact .inr (.inl ⟨k-a,i,p,by omega,hp,h2,e,h.1⟩)
   ·rw[rout k h] at hk;exact .inr (.inr ⟨hk,h⟩)
  have oi:∀(i:Nat) (p:Nat×Nat),ov[i]? =some p→(snds ov++r)[i]? =some p.2:=fun i p hp=>by
   rw[List.getElem?_append_left]
   ·exact zf2 hp
   ·rw[zh3];exact(List.getElem?_eq_some_iff.1 hp).1
  have ri:∀k:Nat,r[k]? =some k0→(snds ov++r)[(snds ov).length+k]? =some k0:=fun k hk=>by
   rw[List.getElem?_append_right (by omega),Nat.add_sub_cancel_left];exact hk
  have lo:∀(i:Nat) (p:Nat×Nat),ov[i]? =some p→i<(snds ov).length:=fun i p hp=>by rw[zh3];exact(List.getElem?_eq_some_iff.1 hp).1
  have fo:∀j,j<b-a→¬(fam base j∈snds ov++(r++z)):=fun j hj hm=>hout _ hm ⟨by rw[za8];omega,by rw[za8];omega⟩
  have om:∀(i:Nat) (p:Nat×Nat),ov[i]? =some p→p.2∈snds ov++(r++z):=fun i p hp=>List.mem_append_left _ (List.mem_of_getElem? (zf2 hp))
  have rm:∀k:Nat,r[k]? =some k0→k0∈snds ov++(r++z):=fun k hk=>List.mem_append_right _ (List.mem_append_left _ (List.mem_of_getElem? hk))
  rcases src k h1 with⟨j,e1,hj,e2⟩|⟨j,i,p,e1,hp,e2,e3,_⟩|⟨h3,h4⟩
  ·rcases src k' h2 with⟨j',e1',hj',e2'⟩|⟨j',i',p',e1',hp',e2',e3',_⟩|⟨h3',h4'⟩
   ·rw[e2',za8,za8] at e2;omega
   ·exact absurd (om i' p' hp') (by rw[←e3',e2];exact fo j hj)
   ·exact absurd (rm k' h3') (by rw[e2];exact fo j hj)
  ·rcases src k' h2 with⟨j',e1',hj',e2'⟩|⟨j',i',p',e1',hp',e2',e3',_⟩|⟨h3',h4'⟩
   ·exact absurd (om i p hp) (by rw[←e3,e2'];exact fo j' hj')
   ·have:=hinj i i' k0 (by rw[oi i p hp,e3]) (by rw[oi i' p' hp',e3']);subst this;rw[hp] at hp';cases hp';omega
   ·have:=hinj i _ k0 (by rw[oi i p hp,e3]) (ri k' h3');have:=lo i p hp;omega
  ·rcases src k' h2 with⟨j',e1',hj',e2'⟩|⟨j',i',p',e1',hp',e2',e3',_⟩|⟨h3',h4'⟩
   ·exact absurd (rm k h3) (by rw[e2'];exact fo j' hj')
   ·have:=hinj i' _ k0 (by rw[oi i' p' hp',e3']) (ri k h3);have:=lo i' p' hp';omega
   ·have:=hinj _ _ k0 (ri k h3) (ri k' h3');omega
theorem zic {n0 a b base:Nat} {z:List Nat} {ov:List (Nat×Nat)} {r:List Nat} (hg:okG n0 a b base z ov r=true):(∀k,k<n0→renG a b base ov r k=some k)∧(∀k,b≤k→renG a b base ov r k=none)∧n0≤b:=by
 obtain⟨hap,hout,hlow,hlen,hab⟩:=zk5 hg;have hlow:=zis hlow
 have hn0:n0≤r.length:=by
  cases Nat.lt_or_ge r.length n0 with
  |inl hlt=>have:=hlow r.length hlt;simp at this
  |inr h=>exact h
 refine⟨fun k hk=> ?_,fun k hk=> ?_,by omega⟩
 ·unfold renG;rw[zgY (by omega),za3];have:=hlow k hk;rw[Nat.zero_add] at this;exact this
 ·unfold renG;rw[zgY (by omega),za3,List.getElem?_eq_none (by omega)]
theorem Weak.ofG {n0 a b base B2:Nat} {t:Tm} {s:St} {g:Nat→Option AO} {th:T AO} (r z:List Nat) (ov:List (Nat×Nat)) {sl:List (Nat×AV)} {n:Nat} {g1:Nat→Option AO} {rows:List AO} (hn:t.n=n) (hh:s.h= .f base B2 g th) (hB:Nat.beq (Nat.sub B2 base) (Nat.sub b a)=true) (hg:okG n0 a b base z ov r=true)
  (hrows:zew s.h z (renG a b base ov r) rows r) (hfam:∀j o1,g1 j=some o1→(∀p∈ov,j≠p.1)→g j=some o1∧zbn o1)
  (hov:∀p∈ov,∀o1,g1 p.1=some o1→∃o,s.h.get p.2=some o∧WOG s.h z (renG a b base ov r) o1 o) (hsl:zi4 s.h z (renG a b base ov r) t sl):Weak n0 t s (slots sl n) (zax a b g1 rows):=by
 obtain⟨h1,h2,h3⟩:=zic hg;refine Weak.gen hn (Ren.ofG hg hrows (fun j o1 hj ho hp=> ?_) fun p hp o1 _ ho=>hov p hp o1 ho) h1 h2 h3 hsl;obtain⟨h4,h5⟩:=hfam j o1 ho hp;have hB:B2-base=b-a:=Nat.eq_of_beq_eq_true hB;rw[hh,zaq (by omega)];exact⟨h4,h5⟩
def HG (P:Program) (n0 a b:Nat) (f:FuncId) (args0:List AV) (g0:Nat→Option AO) (rows0:List AO) (v1:AV) (g1:Nat→Option AO) (rows1:List AO):Prop:=
 ∀m w args',Rl m args0 args'→Ok m (zax a b g0 rows0).h.get w→Above m b→Calls P f args'.toArray w fun e w'=>
  ∃y m',e= .returned y∧Gk n0 (zax a b g0 rows0).h.get (zax a b g1 rows1).h.get m m' w w'∧R1 m' v1 y∧Above m' b
structure HGRet (n0 a b:Nat) (v1:AV) (g1:Nat→Option AO) (rows1:List AO) (v:AV) (s:St):Prop where
 h:Weak n0 ⟨zcr [(0,v)],1⟩ s (slots [(0,v1)] 1) (zax a b g1 rows1)
theorem HG.of {P:Program} (hmix:P.follows .mixedOrders=true) {n0 a b:Nat} {f:FuncId} {args0:List AV} {g0 g1:Nat→Option AO} {rows0 rows1:List AO} {v1:AV} (hn:n0≤b) (h:funK P n0 f args0 (zax a b g0 rows0) (HGRet n0 a b v1 g1 rows1)):HG P n0 a b f args0 g0 rows0 v1 g1 rows1:=by
 intro m w args' hR hok hab;unfold funK at h;split at h
 ·exact h.elim
 ·rename_i fn hfn;split at h
  ·exact h.elim
  ·rename_i c hcb;have h:=zce (Nat.forceK_ok (K:=fun a'=>startK ⟨zfk 0 .e args0,Nat.add a' (Nat.sub fn.ntmps a')⟩ (zax a b g0 rows0) fun t s=>zfy P n0 c t s fun x t s=>match x with| .exit _=>False|_=>retK P t s fn.results.toList (HGRet n0 a b v1 g1 rows1)) h);refine calls_of_wp hfn hcb (wp_mono (zbu hmix c h m _ w (Fit.start hR fn.ntmps) rfl hok hab hn) ?_);rintro e a' w' ⟨x,t',s',m',rfl,hk,hf',hd',hg,ha',hn'⟩
   have hk':retK P t' s' fn.results.toList (HGRet n0 a b v1 g1 rows1):=by
    cases x with
    |normal=>exact hk
    |ret=>exact hk
    |exit i=>exact hk.elim
   have hx:xtE x= .normal∨xtE x= .ret:=by
    cases x with
    |normal=>exact .inl rfl
    |ret=>exact .inr rfl
    |exit i=>exact hk.elim
   obtain⟨l,hl,⟨hwk⟩⟩:=zbm hk';obtain⟨y,hy,hRy⟩:=zca (fn:=fn) hf' hg.ok hl
   have hfit:Fit m' ⟨zcr [(0,zba l)],1⟩ {tmps:= #[y],defers:=[]}:=by
    refine⟨rfl,fun i=> ?_⟩;show R1 m' (match(zcr [(0,zba l)]).get i with|some v=>v|none=> .any) _
    have:(zcr [(0,zba l)]).get i=if i=0 then some (zba l) else none:=by
     show((T.e:T AV).put 0 _).get i=_;rw[T.get_put];split<;>rfl
    rw[this];by_cases h0:i=0
    ·subst h0;rw[if_pos rfl];exact hRy
    ·rw[if_neg h0];trivial
   obtain⟨m2,hf2,hg2,ha2,hn2⟩:=hwk m' _ w' hfit hg.ok ha' hn'
   have hv1:R1 m2 v1 y:=by
    have:=hf2.r 0
    have e:(slots [(0,v1)] 1).get 0=v1:=by
     show(match(((T.e:T AV).put 0 (some v1)).get 0) with|some v=>v|none=> .any)=v1;rw[T.get_put,if_pos rfl]
    rw[e] at this;exact this
   have fin:∃y' m2,Ending.returned y= .returned y'∧Gk n0 (zax a b g0 rows0).h.get (zax a b g1 rows1).h.get m m2 w w'∧R1 m2 v1 y'∧Above m2 b:=⟨y,m2,rfl,hg.trans hg2,hv1,ha2⟩
   rcases hx with hx|hx
   ·rw[hx];exact⟨hd',y,hy,fin⟩
   ·rw[hx];exact⟨hd',y,hy,fin⟩
noncomputable def rhoG (a b n n0:Nat) (r:List Nat) (k:Nat):Nat:=match inR a b k with|true=>fam n (Nat.sub k a)|false=>rho r n0 (Nat.add n (Nat.sub b a)) k
theorem rhoG_fam {a b n n0:Nat} {r:List Nat} {j:Nat} (h:j<b-a):rhoG a b n n0 r (fam a j)=fam n j:=by
 unfold rhoG;rw[za8 a j,inR_iff.2 ⟨by omega,by omega⟩,show Nat.sub (a+j) a=j from Nat.add_sub_cancel_left _ _]
theorem zmr {base j:Nat}:ovG base [] j=fam base j:=rfl
theorem znk {a b base:Nat} {ov:List (Nat×Nat)} {r:List Nat} {j:Nat} (h:j<b-a) (hp:∀p∈ov,j≠p.1):RD (renG a b base ov r) (fam a j)=fam base j:=by
 unfold RD renG;rw[za8 a j,inR_iff.2 ⟨by omega,by omega⟩,show Nat.sub (a+j) a=j from Nat.add_sub_cancel_left _ _]
 rcases zeF (base:=base) (j:=j) (ov:=ov) with⟨e,_⟩|⟨i,p,h1,h2,_⟩
 ·exact e
 ·exact absurd h2 (hp p (List.mem_of_getElem? h1))
theorem RD_ov {a b base:Nat} {ov:List (Nat×Nat)} {r:List Nat} {j n:Nat} (h:j<b-a):RD (renG a b base ((j,n)::ov) r) (fam a j)=n:=by
 unfold RD renG;rw[za8 a j,inR_iff.2 ⟨by omega,by omega⟩,show Nat.sub (a+j) a=j from Nat.add_sub_cancel_left _ _];show ovG base ((j,n)::ov) j=n;unfold ovG;rw[Nat.beq_refl]
theorem RD_ov2 {a b base:Nat} {ov:List (Nat×Nat)} {r:List Nat} {i j n k:Nat} (h:j<b-a) (hij:j≠i):RD (renG a b base ((i,k)::(j,n)::ov) r) (fam a j)=n:=by
 unfold RD renG;rw[za8 a j,inR_iff.2 ⟨by omega,by omega⟩,show Nat.sub (a+j) a=j from Nat.add_sub_cancel_left _ _];show ovG base ((i,k)::(j,n)::ov) j=n;unfold ovG
 cases e:Nat.beq j i with
 |true=>exact absurd (Nat.eq_of_beq_eq_true e) hij
 |false=>unfold ovG;rw[Nat.beq_refl]
theorem zjX {a b base:Nat} {ov:List (Nat×Nat)} {r:List Nat} {j:Nat} (h:j<b-a):RS (renG a b base ov r) (fam a j):=by
 unfold RS renG;rw[za8 a j,inR_iff.2 ⟨by omega,by omega⟩];rfl
def subG (a b n0:Nat) (r:List Nat) (g1:Nat→Option AO) (rows2:List AO) (s:St):St:=
 match s with
 |⟨h,n⟩=>match h with
  | .f A B _ t=>⟨.f n (Nat.add n (Nat.sub b a)) g1 (.f A B (fun _=>none) (putR r n0 (Nat.add n (Nat.sub b a)) 0 rows2 (zbM t r))),Nat.add (Nat.add n (Nat.sub b a)) (Nat.sub a n0)⟩
  |h=>⟨h,n⟩
def okL (a b n0 A B n:Nat) (r:List Nat) (l1:Nat):Bool:=
 match okG 0 a b A [] [] r with
 |true=>match Nat.beq (Nat.sub B A) (Nat.sub b a) with
  |true=>match Nat.ble B n with
   |true=>match Nat.ble n0 r.length with|true=>Nat.ble l1 a|false=>false
   |false=>false
  |false=>false
 |false=>false
theorem CallOk.liftG {P:Program} {n0 a b A B n:Nat} {f:FuncId} {args0 args:List AV} {g0 g1:Nat→Option AO} {t:T AO} {rows0 rows1:List AO} {v1:AV} (r:List Nat) (v2:AV) (rows2:List AO) (hc:HG P n0 a b f args0 g0 rows0 v1 g1 rows1) (hL:okL a b n0 A B n r rows1.length=true)
  (hc0:∀j o,g0 j=some o→zbn o) (hc1:∀j o,g1 j=some o→zbn o)
  (hrows:zew (.f A B g0 t) [] (renG a b A [] r) rows0 r) (hargs:NmPl (RS (renG a b A [] r)) args0∧Wvl (.f A B g0 t) [] (RD (renG a b A [] r)) args0 args)
  (hv:Rn (rhoG a b n n0 r) v1 v2) (hlen:rows2.length=rows1.length) (hrows2:RnOs (rhoG a b n n0 r) rows1 rows2):CallOk P f args ⟨.f A B g0 t,n⟩ v2 (subG a b n0 r g1 rows2 ⟨.f A B g0 t,n⟩):=by
 unfold okL at hL;split at hL
 ·rename_i hg;split at hL
  ·rename_i hB;split at hL
   ·rename_i hBn;split at hL
    ·rename_i hn0;have hB:B-A=b-a:=Nat.eq_of_beq_eq_true hB;have hBn:B≤n:=Nat.le_of_ble_eq_true hBn;have hn0:n0≤r.length:=Nat.le_of_ble_eq_true hn0;have hl1:rows1.length≤a:=Nat.le_of_ble_eq_true hL;obtain⟨hap,hout,_,hlr,hab⟩:=zk5 hg;have hout:=zfg hout
     have rout:∀k,¬(a≤k∧k<b)→renG a b A [] r k=r[k]? :=fun k hk=>by unfold renG;rw[zgY hk,za3]
     refine CallOk.liftGen (z:=[]) (R:=renG a b A [] r) (nA:=b) (rhoG a b n n0 r) (fun B'=>if B'<n+(b-a) then a+(B'-n) else n0+(B'-(n+(b-a)))) hc
      (Ren.ofG hg hrows (fun j o1 hj ho _=>⟨by show(T.f A B g0 t).get _=_;rw[zaq (by omega)];exact ho,hc0 j o1 ho⟩) (fun p hp=>by cases hp)) (zic hg).2.1 hargs ?_ (fun k hk=> ?_) hv (fun K o hK=> ?_)
     ·show n≤n+(b-a)+(a-n0);omega
     ·by_cases hr:a≤k∧k<b
      ·refine .inl ?_
       have e:rhoG a b n n0 r k=n+(k-a):=by unfold rhoG;rw[inR_iff.2 hr];exact za8 _ _
       rw[e];refine⟨Nat.le_add_right _ _,?_,?_⟩
       ·show n+(k-a)<n+(b-a)+(a-n0);omega
       ·show(if n+(k-a)<n+(b-a) then a+(n+(k-a)-n) else _)=k;rw[if_pos (by omega)];omega
      ·have hk2:k<a:=by omega
       have e:rhoG a b n n0 r k=rho r n0 (n+(b-a)) k:=by unfold rhoG;rw[zgY hr];rfl
       rw[e];unfold rho
       cases hlt:Nat.blt k n0 with
       |true=>
        have hlt:=zbr hlt;refine .inr ⟨hlt,?_⟩;rw[rout k hr,List.getElem?_eq_getElem (by omega)];show some _=some (rn r k);unfold rn;rw[za3,List.getElem?_eq_getElem (by omega)]
       |false=>
        have hge:n0≤k:=Nat.le_of_not_lt fun h=>by rw[show Nat.blt k n0=true from Nat.ble_eq_true_of_le h] at hlt;cases hlt
        refine .inl ⟨?_,?_,?_⟩
        ·show n≤n+(b-a)+(k-n0);omega
        ·show n+(b-a)+(k-n0)<n+(b-a)+(a-n0);omega
        ·show(if n+(b-a)+(k-n0)<n+(b-a) then _ else n0+(n+(b-a)+(k-n0)-(n+(b-a))))=k;rw[if_neg (by omega)];omega
     ·have hK:(T.f n (n+(b-a)) g1 (.f A B (fun _=>none) (putR r n0 (n+(b-a)) 0 rows2 (zbM t r)))).get K=some o:=hK;rw[T.get_f] at hK;split at hK
      ·rename_i hin;refine .inl ⟨a+(K-n),o,?_,?_,?_⟩
       ·rw[zcK,if_pos ⟨by omega,by omega⟩,Nat.add_sub_cancel_left];exact hK
       ·have:=hc1 _ o hK;unfold RnO;unfold zbn at this
        cases o with
        |row c e q=>exact⟨rfl,rfl, .inr ⟨rfl,this⟩⟩
        |iter s p=>exact⟨rfl,rfl⟩
       ·unfold rhoG;rw[inR_iff.2 ⟨by omega,by omega⟩,za8]
        show K=n+(a+(K-n)-a)
        omega
      ·rw[T.get_f] at hK;split at hK
       ·cases hK
       ·rename_i hnAB
        rcases zdH hK with⟨j,h1,h2⟩|h1
        ·obtain⟨o1,h3,h4⟩:=ze8 hrows2 h1;have hj:j<rows1.length:=(List.getElem?_eq_some_iff.1 h3).1;refine .inl ⟨j,o1,?_,h4,?_⟩
         ·rw[zcK,if_neg (by omega)];exact h3
         ·rw[h2,Nat.zero_add];unfold rhoG;rw[zgY (by omega)];rfl
        ·obtain⟨h2,h3⟩:=zaB h1;refine .inr ⟨?_,by simp,fun k o0 h0 e=> ?_⟩
         ·show(T.f A B g0 t).get K=_;rw[T.get_f,if_neg hnAB];exact h2
         ·by_cases hr:a≤k∧k<b
          ·unfold renG at e;rw[inR_iff.2 hr] at e
           have e:ovG A [] (k-a)=K:=by injection e
           rw[zmr,za8] at e;exact hnAB ⟨by omega,by omega⟩
          ·rw[rout k hr] at e;exact h3 (List.mem_of_getElem? e)
    ·cases hL
   ·cases hL
  ·cases hL
 ·cases hL
theorem KCall.liftG {P:Program} {n0 a b A B n:Nat} {f:FuncId} {args0 args:List AV} {g0 g1:Nat→Option AO} {t:T AO} {rows0 rows1:List AO} {v1:AV} {K:KC} (r:List Nat) (v2:AV) (rows2:List AO) (hc:HG P n0 a b f args0 g0 rows0 v1 g1 rows1) (hL:okL a b n0 A B n r rows1.length=true)
  (hc0:∀j o,g0 j=some o→zbn o) (hc1:∀j o,g1 j=some o→zbn o)
  (hrows:zew (.f A B g0 t) [] (renG a b A [] r) rows0 r) (hargs:NmPl (RS (renG a b A [] r)) args0∧Wvl (.f A B g0 t) [] (RD (renG a b A [] r)) args0 args)
  (hv:Rn (rhoG a b n n0 r) v1 v2∧rows2.length=rows1.length∧RnOs (rhoG a b n n0 r) rows1 rows2) (hk:(subG a b n0 r g1 rows2 ⟨.f A B g0 t,n⟩).nfK fun s=>K v2 s):KCall P f args ⟨.f A B g0 t,n⟩ K:=by
 have hle:n≤(subG a b n0 r g1 rows2 ⟨.f A B g0 t,n⟩).n:=by show n≤n+(b-a)+(a-n0);omega
 exact⟨v2,_,CallOk.liftG r v2 rows2 hc hL hc0 hc1 hrows hargs hv.1 hv.2.1 hv.2.2,hle,St.nfK_ok hk⟩
def fkOf (g:Nat→Option AO) (rows:List AO):St:=⟨.f 0 200 g (seqT 200 .e rows),220⟩
theorem zga (g:Nat→Option AO) (rows:List AO) (k:Nat):(fkOf g rows).h.get k=if k<200 then g k else rows[k-200]? :=by
 show(T.f 0 200 g (seqT 200 .e rows)).get k=_;rw[T.get_f];by_cases h:k<200
 ·rw[if_pos ⟨Nat.zero_le _,h⟩,if_pos h,Nat.sub_zero]
 ·rw[if_neg (by omega),if_neg h,zh6,if_pos (by omega)];cases rows[k-200]? <;>rfl
def renK (r:List Nat) (k:Nat):Option Nat:=match Nat.blt k 200 with|true=>some k|false=>nth r (Nat.sub k 200)
theorem znB {a b:Nat} (h:¬a<b):Nat.blt a b=false:=by
 cases e:Nat.blt a b with
 |false=>rfl
 |true=>exact absurd (zbr e) h
theorem zeb {r:List Nat} {k:Nat} (h:k<200):renK r k=some k:=by unfold renK;rw[zd4 h]
theorem zfe {r:List Nat} {k:Nat} (h:¬k<200):renK r k=r[k-200]? :=by unfold renK;rw[znB h];exact za3 _ _
theorem RS_K {r:List Nat} {j:Nat} (h:j<200):RS (renK r) (fam 0 j):=by unfold RS;rw[za8,Nat.zero_add,zeb h];rfl
theorem RD_K {r:List Nat} {j:Nat} (h:j<200):RD (renK r) (fam 0 j)=fam 0 j:=by unfold RD;rw[za8,Nat.zero_add,zeb h]
def okK (n0:Nat) (z r:List Nat):Bool:=
 match zcp z r with
 |true=>match outR 0 200 (r++z) with
  |true=>match lowB 200 n0 r with|true=>Nat.ble r.length 20|false=>false
  |false=>false
 |false=>false
theorem okK_ok {n0:Nat} {z r:List Nat} (h:okK n0 z r=true):zcp z r=true∧outR 0 200 (r++z)=true∧lowB 200 n0 r=true∧r.length≤20:=by
 unfold okK at h;split at h
 ·rename_i h1;split at h
  ·rename_i h2;split at h
   ·rename_i h3;exact⟨h1,h2,h3,Nat.le_of_ble_eq_true h⟩
   ·cases h
  ·cases h
 ·cases h
theorem Weak.ofK {n0 B:Nat} {t:Tm} {s:St} {g:Nat→Option AO} {th:T AO} (r z:List Nat) {sl:List (Nat×AV)} {n:Nat} {g1:Nat→Option AO} {rows:List AO} (hn:t.n=n) (hh:s.h= .f 0 B g th) (hB:Nat.beq B 200=true) (hg:okK n0 z r=true)
  (hrows:zew s.h z (renK r) rows r) (hfam:∀j o1,g1 j=some o1→g j=some o1∧zbn o1) (hsl:zi4 s.h z (renK r) t sl):Weak (Nat.add 200 n0) t s (slots sl n) (fkOf g1 rows):=by
 obtain⟨hap,hout,hlow,hlen⟩:=okK_ok hg;obtain⟨hinj,hz⟩:=zco hap;have hout:=zfg hout;have hlow:=zis hlow;obtain⟨hl,hget⟩:=zev hrows;have hB:=Nat.eq_of_beq_eq_true hB;subst hB
 have hn0:n0≤r.length:=by
  cases Nat.lt_or_ge r.length n0 with
  |inl hlt=>have:=hlow r.length hlt;simp at this
  |inr h=>exact h
 refine Weak.gen hn ⟨fun k o1 hk=> ?_,fun k k' o o' k0 hk hk' h1 h2=> ?_⟩ (fun k hk=> ?_) (fun k hk=> ?_) (by show Nat.add 200 n0≤220;show 200+n0≤220;omega) hsl
 ·rw[zga] at hk;by_cases hr:k<200
  ·rw[if_pos hr] at hk;obtain⟨h3,h4⟩:=hfam k o1 hk;refine⟨k,o1,zeb hr,by rw[hh,T.get_f,if_pos ⟨Nat.zero_le _,hr⟩,Nat.sub_zero];exact h3,fun hm=>hout k (List.mem_append_right _ hm) ⟨Nat.zero_le _,hr⟩,?_⟩
   unfold WOG zbn at*
   cases o1 with
   |row c e q=>exact⟨rfl,rfl, .same rfl h4⟩
   |iter s p=>exact⟨rfl,rfl⟩
  ·rw[if_neg hr] at hk;obtain⟨b0,o,h1,h2,h3⟩:=hget _ o1 hk;exact⟨b0,o,(zfe hr).trans h1,h2,hz _ (List.mem_of_getElem? h1),h3⟩
 ·by_cases hr:k<200
  ·rw[zeb hr] at h1;cases h1;by_cases hr':k'<200
   ·rw[zeb hr'] at h2;cases h2;rfl
   ·rw[zfe hr'] at h2;exact absurd ⟨Nat.zero_le _,hr⟩ (hout k (List.mem_append_left _ (List.mem_of_getElem? h2)))
  ·rw[zfe hr] at h1;by_cases hr':k'<200
   ·rw[zeb hr'] at h2;cases h2;exact absurd ⟨Nat.zero_le _,hr'⟩ (hout k' (List.mem_append_left _ (List.mem_of_getElem? h1)))
   ·rw[zfe hr'] at h2;have:=hinj _ _ k0 h1 h2;omega
 ·have hk:k<200+n0:=hk;by_cases hr:k<200
  ·exact zeb hr
  ·have e:200+(k-200)=k:=by omega
   rw[zfe hr,hlow (k-200) (by omega),e]
 ·have hk:220≤k:=hk;rw[zfe (by omega),List.getElem?_eq_none (by omega)]
def HK (P:Program) (n0:Nat) (f:FuncId) (args0:List AV) (g0:Nat→Option AO) (rows0:List AO) (v1:AV) (g1:Nat→Option AO) (rows1:List AO):Prop:=
 ∀m w args',Rl m args0 args'→Ok m (fkOf g0 rows0).h.get w→Above m 220→Calls P f args'.toArray w fun e w'=>
  ∃y m',e= .returned y∧Gk (Nat.add 200 n0) (fkOf g0 rows0).h.get (fkOf g1 rows1).h.get m m' w w'∧R1 m' v1 y∧Above m' 220
structure HKRet (n0:Nat) (v1:AV) (g1:Nat→Option AO) (rows1:List AO) (v:AV) (s:St):Prop where
 h:Weak (Nat.add 200 n0) ⟨zcr [(0,v)],1⟩ s (slots [(0,v1)] 1) (fkOf g1 rows1)
theorem HK.of {P:Program} (hmix:P.follows .mixedOrders=true) {n0:Nat} {f:FuncId} {args0:List AV} {g0 g1:Nat→Option AO} {rows0 rows1:List AO} {v1:AV} (hn:n0≤20) (h:funK P (Nat.add 200 n0) f args0 (fkOf g0 rows0) (HKRet n0 v1 g1 rows1)):HK P n0 f args0 g0 rows0 v1 g1 rows1:=by
 intro m w args' hR hok hab;unfold funK at h;split at h
 ·exact h.elim
 ·rename_i fn hfn;split at h
  ·exact h.elim
  ·rename_i c hcb;have h:=zce (Nat.forceK_ok (K:=fun a'=>startK ⟨zfk 0 .e args0,Nat.add a' (Nat.sub fn.ntmps a')⟩ (fkOf g0 rows0) fun t s=>zfy P (Nat.add 200 n0) c t s fun x t s=>match x with| .exit _=>False|_=>retK P t s fn.results.toList (HKRet n0 v1 g1 rows1)) h);refine calls_of_wp hfn hcb (wp_mono (zbu hmix c h m _ w (Fit.start hR fn.ntmps) rfl hok hab (by show 200+n0≤220;omega)) ?_);rintro e a' w' ⟨x,t',s',m',rfl,hk,hf',hd',hg,ha',hn'⟩
   have hk':retK P t' s' fn.results.toList (HKRet n0 v1 g1 rows1):=by
    cases x with
    |normal=>exact hk
    |ret=>exact hk
    |exit i=>exact hk.elim
   have hx:xtE x= .normal∨xtE x= .ret:=by
    cases x with
    |normal=>exact .inl rfl
    |ret=>exact .inr rfl
    |exit i=>exact hk.elim
   obtain⟨l,hl,⟨hwk⟩⟩:=zbm hk';obtain⟨y,hy,hRy⟩:=zca (fn:=fn) hf' hg.ok hl
   have hfit:Fit m' ⟨zcr [(0,zba l)],1⟩ {tmps:= #[y],defers:=[]}:=by
    refine⟨rfl,fun i=> ?_⟩;show R1 m' (match(zcr [(0,zba l)]).get i with|some v=>v|none=> .any) _
    have:(zcr [(0,zba l)]).get i=if i=0 then some (zba l) else none:=by
     show((T.e:T AV).put 0 _).get i=_;rw[T.get_put];split<;>rfl
    rw[this];by_cases h0:i=0
    ·subst h0;rw[if_pos rfl];exact hRy
    ·rw[if_neg h0];trivial
   obtain⟨m2,hf2,hg2,ha2,hn2⟩:=hwk m' _ w' hfit hg.ok ha' hn'
   have hv1:R1 m2 v1 y:=by
    have:=hf2.r 0
    have e:(slots [(0,v1)] 1).get 0=v1:=by
     show(match(((T.e:T AV).put 0 (some v1)).get 0) with|some v=>v|none=> .any)=v1;rw[T.get_put,if_pos rfl]
    rw[e] at this;exact this
   have fin:∃y' m2,Ending.returned y= .returned y'∧Gk (Nat.add 200 n0) (fkOf g0 rows0).h.get (fkOf g1 rows1).h.get m m2 w w'∧R1 m2 v1 y'∧Above m2 220:=⟨y,m2,rfl,hg.trans hg2,hv1,ha2⟩
   rcases hx with hx|hx
   ·rw[hx];exact⟨hd',y,hy,fin⟩
   ·rw[hx];exact⟨hd',y,hy,fin⟩
def renL (A:Nat) (r:List Nat) (k:Nat):Option Nat:=match Nat.blt k 200 with|true=>some (Nat.add A k)|false=>nth r (Nat.sub k 200)
theorem zdn {A:Nat} {r:List Nat} {k:Nat} (h:k<200):renL A r k=some (A+k):=by unfold renL;rw[zd4 h];rfl
theorem zea {A:Nat} {r:List Nat} {k:Nat} (h:¬k<200):renL A r k=r[k-200]? :=by unfold renL;rw[znB h];exact za3 _ _
theorem RS_L {A:Nat} {r:List Nat} {j:Nat} (h:j<200):RS (renL A r) (fam 0 j):=by unfold RS;rw[za8,Nat.zero_add,zdn h];rfl
theorem RD_L {A:Nat} {r:List Nat} {j:Nat} (h:j<200):RD (renL A r) (fam 0 j)=fam A j:=by unfold RD;rw[za8,Nat.zero_add,zdn h,za8]
def rhoL (A n n0:Nat) (r:List Nat) (k:Nat):Nat:=match Nat.blt k 200 with|true=>Nat.add A k|false=>rho r n0 n (Nat.sub k 200)
theorem rhoL_fam {A n n0 j:Nat} {r:List Nat} (h:j<200):rhoL A n n0 r (fam 0 j)=fam A j:=by
 unfold rhoL;rw[za8,Nat.zero_add,zd4 h,za8];rfl
def subK (n0:Nat) (r:List Nat) (g1:Nat→Option AO) (rows2:List AO) (s:St):St:=
 match s with
 |⟨h,n⟩=>match h with
  | .f A B _ t=>⟨.f A B g1 (putR r n0 n 0 rows2 (zbM t r)),Nat.add n (Nat.sub 20 n0)⟩
  |h=>⟨h,n⟩
def okM (n0 A B n:Nat) (r:List Nat) (l1:Nat):Bool:=
 match zcp [] r with
 |true=>match outR A B r with
  |true=>match Nat.beq (Nat.sub B A) 200 with
   |true=>match Nat.ble B n with
    |true=>match Nat.ble r.length 20 with
     |true=>match Nat.ble n0 r.length with|true=>Nat.ble l1 20|false=>false
     |false=>false
    |false=>false
   |false=>false
  |false=>false
 |false=>false
theorem okM_ok {n0 A B n:Nat} {r:List Nat} {l1:Nat} (h:okM n0 A B n r l1=true):zcp [] r=true∧outR A B r=true∧B-A=200∧B≤n∧r.length≤20∧n0≤r.length∧l1≤20:=by
 unfold okM at h;split at h
 ·rename_i h1;split at h
  ·rename_i h2;split at h
   ·rename_i h3;split at h
    ·rename_i h4;split at h
     ·rename_i h5;split at h
      ·rename_i h6;exact⟨h1,h2,Nat.eq_of_beq_eq_true h3,Nat.le_of_ble_eq_true h4,Nat.le_of_ble_eq_true h5,Nat.le_of_ble_eq_true h6,Nat.le_of_ble_eq_true h⟩
      ·cases h
     ·cases h
    ·cases h
   ·cases h
  ·cases h
 ·cases h
theorem CallOk.liftK {P:Program} {n0 A B n:Nat} {f:FuncId} {args0 args:List AV} {g0 g1:Nat→Option AO} {t:T AO} {rows0 rows1:List AO} {v1:AV} (r:List Nat) (v2:AV) (rows2:List AO) (hc:HK P n0 f args0 g0 rows0 v1 g1 rows1) (hL:okM n0 A B n r rows1.length=true)
  (hc0:∀j o,g0 j=some o→zbn o) (hc1:∀j o,g1 j=some o→zbn o)
  (hrows:zew (.f A B g0 t) [] (renL A r) rows0 r) (hargs:NmPl (RS (renL A r)) args0∧Wvl (.f A B g0 t) [] (RD (renL A r)) args0 args)
  (hv:Rn (rhoL A n n0 r) v1 v2) (hlen:rows2.length=rows1.length) (hrows2:RnOs (rhoL A n n0 r) rows1 rows2):CallOk P f args ⟨.f A B g0 t,n⟩ v2 (subK n0 r g1 rows2 ⟨.f A B g0 t,n⟩):=by
 obtain⟨hap,hout,hAB,hBn,hlr,hn0,hl1⟩:=okM_ok hL;obtain⟨hinj,_⟩:=zco hap;have hout:=zfg hout;obtain⟨hl,hget⟩:=zev hrows
 have hren:Ren (T.f A B g0 t) [] (renL A r) (fkOf g0 rows0).h.get:=by
  refine⟨fun k o1 hk=> ?_,fun k k' o o' k0 hk hk' h1 h2=> ?_⟩
  ·rw[zga] at hk;by_cases hr:k<200
   ·rw[if_pos hr] at hk;refine⟨A+k,o1,zdn hr,?_,by simp,?_⟩
    ·rw[T.get_f,if_pos ⟨by omega,by omega⟩,Nat.add_sub_cancel_left];exact hk
    ·have:=hc0 k o1 hk
     unfold WOG zbn at*
     cases o1 with
     |row c e q=>exact⟨rfl,rfl, .same rfl this⟩
     |iter s p=>exact⟨rfl,rfl⟩
   ·rw[if_neg hr] at hk;obtain⟨b0,o,h1,h2,h3⟩:=hget _ o1 hk;exact⟨b0,o,(zea hr).trans h1,h2,by simp,h3⟩
  ·by_cases hr:k<200
   ·rw[zdn hr] at h1;cases h1;by_cases hr':k'<200
    ·rw[zdn hr'] at h2
     have:A+k'=A+k:=by injection h2
     omega
    ·rw[zea hr'] at h2;exact absurd ⟨by omega,by omega⟩ (hout _ (List.mem_of_getElem? h2))
   ·rw[zea hr] at h1;by_cases hr':k'<200
    ·rw[zdn hr'] at h2;cases h2;exact absurd ⟨by omega,by omega⟩ (hout _ (List.mem_of_getElem? h1))
    ·rw[zea hr'] at h2;have:=hinj _ _ k0 h1 h2;omega
 refine CallOk.liftGen (z:=[]) (R:=renL A r) (nA:=220) (n0:=200+n0) (rhoL A n n0 r) (fun B'=>200+(n0+(B'-n))) hc hren (fun k hk=> ?_) hargs ?_ (fun k hk=> ?_) hv (fun K o hK=> ?_)
 ·rw[zea (by omega),List.getElem?_eq_none (by omega)]
 ·show n≤n+(20-n0);omega
 ·by_cases hr:k<200
  ·refine .inr ⟨by omega,?_⟩;rw[zdn hr];unfold rhoL;rw[zd4 hr];rfl
  ·have e:rhoL A n n0 r k=rho r n0 n (k-200):=by unfold rhoL;rw[znB hr];rfl
   rw[e];unfold rho
   cases hlt:Nat.blt (k-200) n0 with
   |true=>
    have hlt:=zbr hlt;refine .inr ⟨by omega,?_⟩;rw[zea hr,List.getElem?_eq_getElem (by omega)];show some _=some (rn r (k-200));unfold rn;rw[za3,List.getElem?_eq_getElem (by omega)]
   |false=>
    have hge:n0≤k-200:=Nat.le_of_not_lt fun h=>by rw[show Nat.blt (k-200) n0=true from Nat.ble_eq_true_of_le h] at hlt;cases hlt
    refine .inl ⟨?_,?_,?_⟩
    ·show n≤n+(k-200-n0);omega
    ·show n+(k-200-n0)<n+(20-n0);omega
    ·show 200+(n0+(n+(k-200-n0)-n))=k;omega
 ·have hK:(T.f A B g1 (putR r n0 n 0 rows2 (zbM t r))).get K=some o:=hK;rw[T.get_f] at hK;split at hK
  ·rename_i hin;refine .inl ⟨K-A,o,?_,?_,?_⟩
   ·rw[zga,if_pos (by omega)];exact hK
   ·have:=hc1 _ o hK;unfold RnO;unfold zbn at this
    cases o with
    |row c e q=>exact⟨rfl,rfl, .inr ⟨rfl,this⟩⟩
    |iter s p=>exact⟨rfl,rfl⟩
   ·unfold rhoL;rw[zd4 (by omega)]
    show K=A+(K-A)
    omega
  ·rename_i hnAB
   rcases zdH hK with⟨j,h1,h2⟩|h1
   ·obtain⟨o1,h3,h4⟩:=ze8 hrows2 h1;refine .inl ⟨200+j,o1,?_,h4,?_⟩
    ·rw[zga,if_neg (by omega),Nat.add_sub_cancel_left];exact h3
    ·rw[h2,Nat.zero_add];unfold rhoL;rw[znB (by omega),show Nat.sub (200+j) 200=j from Nat.add_sub_cancel_left _ _]
   ·obtain⟨h2,h3⟩:=zaB h1;refine .inr ⟨by rw[T.get_f,if_neg hnAB];exact h2,by simp,fun k o0 h0 e=> ?_⟩;by_cases hr:k<200
    ·rw[zdn hr] at e
     have e:A+k=K:=by injection e
     exact hnAB ⟨by omega,by omega⟩
    ·rw[zea hr] at e;exact h3 (List.mem_of_getElem? e)
theorem KCall.liftK {P:Program} {n0 A B n:Nat} {f:FuncId} {args0 args:List AV} {g0 g1:Nat→Option AO} {t:T AO} {rows0 rows1:List AO} {v1:AV} {K:KC} (r:List Nat) (v2:AV) (rows2:List AO) (hc:HK P n0 f args0 g0 rows0 v1 g1 rows1) (hL:okM n0 A B n r rows1.length=true)
  (hc0:∀j o,g0 j=some o→zbn o) (hc1:∀j o,g1 j=some o→zbn o)
  (hrows:zew (.f A B g0 t) [] (renL A r) rows0 r) (hargs:NmPl (RS (renL A r)) args0∧Wvl (.f A B g0 t) [] (RD (renL A r)) args0 args)
  (hv:Rn (rhoL A n n0 r) v1 v2∧rows2.length=rows1.length∧RnOs (rhoL A n n0 r) rows1 rows2) (hk:(subK n0 r g1 rows2 ⟨.f A B g0 t,n⟩).nfK fun s=>K v2 s):KCall P f args ⟨.f A B g0 t,n⟩ K:=by
 have hle:n≤(subK n0 r g1 rows2 ⟨.f A B g0 t,n⟩).n:=by show n≤n+(20-n0);omega
 exact⟨v2,_,CallOk.liftK r v2 rows2 hc hL hc0 hc1 hrows hargs hv.1 hv.2.1 hv.2.2,hle,St.nfK_ok hk⟩
theorem DCall.liftK {P:Program} {n0 A B n:Nat} {f:FuncId} {args0 args:List AV} {g0 g1:Nat→Option AO} {t:T AO} {rows0 rows1:List AO} {v1:AV} {light:AV→Prop} {heavy:AV→St→Prop} (r:List Nat) (v2:AV) (rows2:List AO) (hc:HK P n0 f args0 g0 rows0 v1 g1 rows1) (hL:okM n0 A B n r rows1.length=true)
  (hc0:∀j o,g0 j=some o→zbn o) (hc1:∀j o,g1 j=some o→zbn o)
  (hrows:zew (.f A B g0 t) [] (renL A r) rows0 r) (hargs:NmPl (RS (renL A r)) args0∧Wvl (.f A B g0 t) [] (RD (renL A r)) args0 args)
  (hv:Rn (rhoL A n n0 r) v1 v2∧rows2.length=rows1.length∧RnOs (rhoL A n n0 r) rows1 rows2) (hk:(subK n0 r g1 rows2 ⟨.f A B g0 t,n⟩).nfK fun s=>heavy v2 s):DCall P f args light heavy ⟨.f A B g0 t,n⟩:=
 ⟨.inr ⟨v2,_,CallOk.liftK r v2 rows2 hc hL hc0 hc1 hrows hargs hv.1 hv.2.1 hv.2.2,St.nfK_ok hk⟩⟩
def adrA :AV→Bool
 | .ptr _ _=>true
 | .sl _ _ _ _=>true
 | .so _ _ _ _=>true
 |v=>plainA v
theorem adr_R {m:Mp} {z':Nat→Nat→Option Value} {v:AV} {x:Value} (hc:adrA v=true) (h:R1 m v x):R1 ⟨m.f,z'⟩ v x:=by
 cases v with
 |ptr b o=>exact h
 |sl b o n c=>exact h
 |so b o n c=>exact h
 |sc v=>exact h
 |any=>trivial
 |agg l=>exact zih (v:= .agg l) hc h
 |tup l=>exact zih (v:= .tup l) hc h
 |fn a b c=>cases hc
 |ifc a b=>cases hc
 |lst a b c=>cases hc
 |cp a b=>cases hc
def zeE (o:AO):Prop:=match o with| .row c _ _=>plainA.plainL c=true| .iter _ _=>True
theorem zmk {n j:Nat}:rho [] 0 n j=n+j:=by
 unfold rho
 cases h:Nat.blt j 0 with
 |true=>exact absurd (zbr h) (Nat.not_lt_zero _)
 |false=>rfl
open Classical in
theorem CallOk.lendC {P:Program} {f:FuncId} {args args1:List AV} {s:St} {v1:AV} {rows1:List AO} (z:List Nat) (v2:AV) (hw:Wzl s.h z args1 args) (hc:HC P 0 f args1 [] v1 rows1) (hv1:adrA v1=true) (hp:∀o∈rows1,zeE o) (hv:Rn (rho [] 0 s.n) v1 v2):CallOk P f args s v2 (subS s [] [] 0 rows1):=by
 intro m w args' hR hok hfr
 let m1:Mp:=⟨fun _=>none,zdb m s.h.get z w⟩
 have hemp:∀b,(zaj []).h.get b=none:=fun b=>by rw[zaD];rfl
 have hok1:Ok m1 (zaj []).h.get w:=by
  refine⟨fun b o hb=>(by rw[hemp] at hb;cases hb),fun b b' o o' hb=>(by rw[hemp] at hb;cases hb),fun k i v hv=>⟨?_,fun b o hb=>(by rw[hemp] at hb;cases hb)⟩,hok.tbsub fun b o hb=>(by rw[hemp] at hb;cases hb)⟩
  rcases zan hv with h1|⟨_,h6⟩
  ·exact(hok.fz k i v h1).1
  ·exact h6
 have hR1:Rl m1 args1 args':=Rzl.rl (m:=m1) (zdC hok args1 hw hR);refine Calls.mono (hc m1 w args' hR1 hok1 (fun b _=>rfl)) ?_;rintro e w' ⟨y,m',rfl,g,hy,ha⟩
 let own:Nat→Prop:=fun k=>∃b o,b∈z∧s.h.get b=some o∧blk m b=some k
 have hfr:∀b,s.n≤b→b<s.n+(rows1.length-0)→m b=none:=hfr
 let m2:Mp:=⟨fun B=>if s.n≤B∧B<s.n+(rows1.length-0) then m' (B-s.n) else m B,fun k i=>if own k then m.z k i else m'.z k i⟩
 have hout:∀b x,m b=some x→m2 b=some x:=fun b x hb=>by
  show(if s.n≤b∧b<s.n+(rows1.length-0) then _ else _)=_;split
  ·rename_i h;rw[hfr b h.1 h.2] at hb;cases hb
  ·exact hb
 have hnew:∀j,j<rows1.length→m2 (s.n+j)=m' j:=fun j hj=>by
  show(if s.n≤s.n+j∧s.n+j<s.n+(rows1.length-0) then m' (s.n+j-s.n) else m (s.n+j))=_;rw[if_pos ⟨by omega,by omega⟩,Nat.add_sub_cancel_left]
 have hzle:Zle m.z m2.z:=fun k i v hv=>by
  show(if own k then _ else _)=_;by_cases h:own k
  ·rw[if_pos h];exact hv
  ·rw[if_neg h];exact g.zle k i v (zaS k i v hv)
 have hle:m.le m2:=⟨hout,hzle⟩
 have hkeep:∀k,k<w.heap.size→w'.heap[k]? =w.heap[k]? :=fun k hk=>g.fr.block k hk fun b o hb=>by rw[hemp] at hb;cases hb
 have hrow:∀b o,(subS s [] [] 0 rows1).h.get b=some o→(∃j,rows1[j]? =some o∧b=s.n+j)∨s.h.get b=some o:=fun b o hb=>by
  rcases zdH hb with⟨j,h1,h2⟩|h1
  ·exact .inl ⟨j,h1,by rw[h2,zmk,Nat.zero_add]⟩
  ·obtain⟨h2,_⟩:=zaB h1;obtain⟨h3,_⟩:=zaB h2;exact .inr h3
 have hlt:∀{j:Nat} {o:AO},rows1[j]? =some o→j<rows1.length:=fun h=>(List.getElem?_eq_some_iff.1 h).1
 have hget:∀{j:Nat} {o:AO},rows1[j]? =some o→(zaj rows1).h.get j=some o:=fun h=>by rw[zaD];exact h
 have hnblk:∀{j:Nat} {o:AO},rows1[j]? =some o→blk m2 (s.n+j)=blk m' j:=fun h=>by unfold blk;rw[hnew _ (hlt h)]
 have hnk:∀{j:Nat} {o:AO},rows1[j]? =some o→∃k,blk m' j=some k∧w.heap.size≤k:=fun h=>by
  rcases g.new _ _ (hget h) with⟨b0,o0,h0,_⟩|h1
  ·rw[hemp] at h0;cases h0
  ·exact h1
 have hoblk:∀{b:Nat} {o:AO},s.h.get b=some o→∃k,blk m b=some k∧blk m2 b=some k∧k<w.heap.size:=fun hb=>by
  obtain⟨k,hk,hlt⟩:=AO.R_blk (hok.has _ _ hb);refine⟨k,hk,?_,hlt⟩;unfold blk at hk⊢
  cases hj:m _ with
  |none=>rw[hj] at hk;cases hk
  |some x=>rw[hj] at hk;rw[hout _ x hj];exact hk
 have hρ:∀b x,(⟨m'.f,fun _ _=>none⟩:Mp) b=some x→m2 (rho [] 0 s.n b)=some x:=fun b x hb=>by
  have hb:m' b=some x:=hb
  have:b<rows1.length:=Nat.lt_of_not_le fun h=>by rw[ha b h] at hb;cases hb
  rw[zmk,hnew b this];exact hb
 refine⟨y,m2,rfl,⟨Nat.le_add_right _ _,fun b hb=> ?_,⟨fun b o hb=> ?_,fun b b' o o' hb hb' hne=> ?_,fun k i v hv=> ?_,hok.tbs (fun k hk _=>hkeep k hk) fun b o hb=> ?_⟩,⟨g.fr.os,g.fr.tape,g.fr.output,g.fr.size,fun k hk _=>hkeep k hk⟩,fun b o hb=> ?_,hzle,fun k i v hv=> ?_⟩,znj hρ (fun _ _ _ h=>(by cases h)) v1 hv (adr_R hv1 hy)⟩
 ·show(if s.n≤b∧b<s.n+(rows1.length-0) then _ else _)=_;have hb:b<s.n∨s.n+(rows1.length-0)≤b:=hb;rw[if_neg (by omega)]
 ·rcases hrow b o hb with⟨j,h1,rfl⟩|h1
  ·have hR:=g.ok.has j o (hget h1);have hpo:=hp o (List.mem_of_getElem? h1)
   cases o with
   |row c e q=>
    obtain⟨k,o,cap,cur,fr,pre,vs,post,q1,q2,q3,q4,q5,q6,q7⟩:=hR;exact⟨k,o,cap,cur,fr,pre,vs,post,(hnew j (hlt h1)).trans q1,q2,q3,q4,q5,zf6 hpo q6,q7⟩
   |iter s p=>
    obtain⟨k,q1,q2⟩:=hR;exact⟨k,(hnew j (hlt h1)).trans q1,q2⟩
  ·refine AO.R_keep (hok.has b o h1) hle fun k hk=> ?_
   obtain⟨k',hk',hlt⟩:=AO.R_blk (hok.has b o h1);rw[hk] at hk';cases hk';exact hkeep k hlt
 ·rcases hrow b o hb with⟨j,h1,rfl⟩|h1
  ·rw[hnblk h1]
   rcases hrow b' o' hb' with⟨j',h1',rfl⟩|h1'
   ·rw[hnblk h1']
    exact g.ok.apart j j' o o' (hget h1) (hget h1') fun e=>hne (by rw[e])
   ·obtain⟨k,hk,hk2⟩:=hnk h1;obtain⟨k',_,hk',hk2'⟩:=hoblk h1';rw[hk,hk'];intro e;cases e;omega
  ·rcases hrow b' o' hb' with⟨j',h1',rfl⟩|h1'
   ·rw[hnblk h1'];obtain⟨k,hk,hk2⟩:=hnk h1';obtain⟨k',_,hk',hk2'⟩:=hoblk h1;rw[hk,hk'];intro e;cases e;omega
   ·obtain⟨k,hk,hk2,_⟩:=hoblk h1;obtain⟨k',hk',hk2',_⟩:=hoblk h1';rw[hk2,hk2',←hk,←hk'];exact hok.apart b b' o o' h1 h1' hne
 ·have hv:(if own k then m.z k i else m'.z k i)=some v:=hv;by_cases h:own k
  ·rw[if_pos h] at hv;obtain⟨b,o,_,h2,h3⟩:=h;exact absurd h3 ((hok.fz k i v hv).2 b o h2)
  ·rw[if_neg h] at hv;refine⟨(g.ok.fz k i v hv).1,fun b o hb=> ?_⟩
   rcases hrow b o hb with⟨j,h1,rfl⟩|h1
   ·rw[hnblk h1];exact(g.ok.fz k i v hv).2 j o (hget h1)
   ·obtain⟨k',hk',hk2,hlt⟩:=hoblk h1;rw[hk2];intro e;cases e
    rcases g.znew k i v hv with h2|⟨b0,o0,h0,_⟩|h2
    ·rcases zan h2 with h3|⟨h3,_⟩
     ·exact(hok.fz k i v h3).2 b o h1 hk'
     ·exact h h3
    ·rw[hemp] at h0;cases h0
    ·omega
 ·rcases hrow b o hb with⟨j,h1,rfl⟩|h1
  ·obtain⟨k,hk,hk2⟩:=hnk h1;exact .inr ⟨k,by rw[hnblk h1,hk],hk2⟩
  ·obtain⟨k,hk,hk2,_⟩:=hoblk h1;exact .inl ⟨b,o,h1,by rw[hk,hk2]⟩
 ·rcases hrow b o hb with⟨j,h1,rfl⟩|h1
  ·obtain⟨k,hk,hk2⟩:=hnk h1;exact .inr ⟨k,by rw[hnblk h1,hk],hk2⟩
  ·obtain⟨k,hk,hk2,_⟩:=hoblk h1;exact .inl ⟨b,o,h1,by rw[hk,hk2]⟩
 ·have hv:(if own k then m.z k i else m'.z k i)=some v:=hv;by_cases h:own k
  ·rw[if_pos h] at hv;exact .inl hv
  ·rw[if_neg h] at hv
   rcases g.znew k i v hv with h1|⟨b0,o0,h0,_⟩|h1
   ·rcases zan h1 with h2|⟨h2,_⟩
    ·exact .inl h2
    ·exact absurd h2 h
   ·rw[hemp] at h0;cases h0
   ·exact .inr (.inr h1)
theorem KCall.lendC {P:Program} {f:FuncId} {args args1:List AV} {s:St} {K:KC} {v1:AV} {rows1:List AO} (z:List Nat) (v2:AV) (hc:HC P 0 f args1 [] v1 rows1) (hv1:adrA v1=true) (hp:∀o∈rows1,zeE o) (hw:Wzl s.h z args1 args) (hv:Rn (rho [] 0 s.n) v1 v2) (hk:(subS s [] [] 0 rows1).nfK fun s=>K v2 s):KCall P f args s K:=
 ⟨v2,_,CallOk.lendC z v2 hw hc hv1 hp hv,Nat.le_add_right _ _,St.nfK_ok hk⟩
theorem DCall.lendC {P:Program} {f:FuncId} {args args1:List AV} {light:AV→Prop} {heavy:AV→St→Prop} {s:St} {v1:AV} {rows1:List AO} (z:List Nat) (v2:AV) (hc:HC P 0 f args1 [] v1 rows1) (hv1:adrA v1=true) (hp:∀o∈rows1,zeE o) (hw:Wzl s.h z args1 args) (hv:Rn (rho [] 0 s.n) v1 v2) (hk:(subS s [] [] 0 rows1).nfK fun s=>heavy v2 s):DCall P f args light heavy s:=
 ⟨.inr ⟨v2,_,CallOk.lendC z v2 hw hc hv1 hp hv,St.nfK_ok hk⟩⟩
end Go.Ex
