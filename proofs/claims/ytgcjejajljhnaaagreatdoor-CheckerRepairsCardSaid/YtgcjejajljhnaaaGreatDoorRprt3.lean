/- Own text, part Rprt 3: walks of the package acl and of its reference, and the plain laws that they lean on; no statement of the seat is here. -/
import Derived.Test.YtgcjejajljhnaaaGreatDoorRprt1
import Derived.Test.YtgcjejajljhnaaaGreatDoorRprt2
import Derived.Lib.Bytealg
set_option linter.all false
namespace Go.Ex
open Go
structure Fit (m:Mp) (t:Tm) (a:Act):Prop where
 n:t.n=a.tmps.size
 r:∀i,R1 m (t.get i) (a.tmps.getD i undef)
section
variable {P : Program} {m m' : Mp} {s s' s'' : St} {w w' : World} {t t' t'' : Tm} {a a' : Act} {o : Oper}
theorem Fit.mono (h:Fit m t a) (hm:m.le m'):Fit m' t a:=⟨h.n,λi=>R1.mono hm _ _ (h.r i)⟩
theorem Fit.ev (h:Fit m t a) (x:Operand):R1 m (Ex.ev t x) (a.eval x):=by
 cases x with
 |tmp i=>exact h.r i
 |const v=>exact rfl
 |global g=>exact rfl
 |func f=>exact rfl
theorem zhr {v:AV} {d:Tmp} (h:t.put (some d) v= .ok t'):d<t.n/\t'.n=t.n/\∀i,t'.get i=if i=d then v else t.get i:=by
 unfold Tm.put at h;simp only at h;split at h
 ·rename_i hlt;cases h;refine⟨zby hlt,rfl,λi=> ?_⟩;unfold Tm.get;rw[ydY];by_cases e:i=d
  ·rw[ygX e,ygX e]
  ·rw[yfX e,yfX e]
 ·cases h
theorem Fit.put {dst:Option Tmp} {v:AV} {x:Value} (h:Fit m t a) (hp:t.put dst v= .ok t') (hv:R1 m v x):Fit m t' (a.put dst x):=by
 cases dst with
 |none=>cases hp;exact h
 |some d=>
  obtain⟨h1,h2,h3⟩:=zhr hp;refine⟨by rw[h2,h.n];simp[Act.put],λi=> ?_⟩;rw[h3];have hsz:=h.n;by_cases e:i=d
  ·subst e;rw[ygX rfl];have hlt:i<a.tmps.size:=Nat.lt_of_lt_of_eq h1 hsz
   have:(a.put (some i) x).tmps.getD i undef=x:=by simp[Act.put,ykY,Array.getElem?_setIfInBounds,hlt]
   rw[this];exact hv
  ·rw[yfX e]
   have:(a.put (some d) x).tmps.getD i undef=a.tmps.getD i undef:=by simp[Act.put,ykY,Array.getElem?_setIfInBounds_ne (Ne.symm e)]
   rw[this];exact h.r i
theorem put_defers (a:Act) (d:Option Tmp) (x:Value):(a.put d x).defers=a.defers:=by cases d<;>rfl
theorem zdw {ops:Array Oper} (h:Fit m t a) {b:Bool} (hg:zcr ops.toList t o=some b):Region.wanted o (yielded ops a.tmps)=b:=by
 revert hg;unfold Region.wanted zcr
 cases o.guard with
 |none=>rintro⟨⟩;rfl
 |some g=>
  obtain⟨j,want⟩:=g;simp only[yielded,ztp,zbc]
  have e:ops.toList[j]? =ops[j]? :=by simp
  rw[e]
  cases hj:ops[j]? with
  |none=>rintro⟨⟩;rfl
  |some q=>
   simp only[Option.bind_some]
   cases hd:q.dst with
   |none=>rintro⟨⟩;rfl
   |some d=>
    simp only[Option.bind_some];have hr:=h.r d;rw[ykY] at hr
    cases hx:a.tmps[d]? with
    |none=>
     rw[hx] at hr;simp only[Option.getD_none] at hr
     cases hv:t.get d with
     |sc v=>
      rw[hv] at hr;have e2:undef=v:=hr;rw[←e2];rintro⟨⟩;rfl
     |any=>rintro⟨⟩
     |_=>rintro⟨⟩;rfl
    |some x=>
     rw[hx] at hr;simp only[ycZ] at hr
     cases hv:t.get d with
     |sc v=>
      rw[hv] at hr;have e2:x=v:=hr;subst e2;cases x<;>(rintro⟨⟩;(rfl))
     |ptr _ _=>rw[hv] at hr;obtain⟨_,_,_,_,rfl⟩:=hr;rintro⟨⟩;rfl
     |sl _ _ _ _=>rw[hv] at hr;obtain⟨_,_,_,_,rfl⟩:=hr;rintro⟨⟩;rfl
     |so _ _ _ _=>rw[hv] at hr;obtain⟨_,_,_,_,_,rfl⟩:=hr;rintro⟨⟩;rfl
     |fn _ _ _=>rw[hv] at hr;obtain⟨_,_,_,_,rfl⟩:=hr;rintro⟨⟩;rfl
     |agg _=>rw[hv] at hr;obtain⟨_,_,rfl⟩:=hr;rintro⟨⟩;rfl
     |tup _=>rw[hv] at hr;obtain⟨_,_,rfl⟩:=hr;rintro⟨⟩;rfl
     |ifc _ _=>rw[hv] at hr;obtain⟨_,_,rfl⟩:=hr;rintro⟨⟩;rfl
     |any=>rintro⟨⟩
     |lst _ _ _=>rw[hv] at hr;obtain⟨_,_,rfl,_⟩:=hr;rintro⟨⟩;rfl
     |cp _ _=>rw[hv] at hr;obtain⟨_,_,_,rfl,_⟩:=hr;rintro⟨⟩;rfl
def xtE :Xt->Exit
 | .normal=> .normal
 | .exit id=> .exit id
 | .ret=> .ret
def Done (m:Mp) (w:World) (s:St) (t':Tm) (s':St) (a':Act) (w':World):Prop:=∃m',Goes s.h.get s'.h.get s.n s'.n m m' w w'/\Fit m' t' a'/\a'.defers=[]
def CodeOk (P:Program) (c:Code) (t:Tm) (s:St) (x:Xt) (t':Tm) (s':St):Prop:=
 ∀m a w Q,Fit m t a->a.defers=[]->Ok m s.h.get w->Fresh m s.n s'.n->(∀a' w',Done m w s t' s' a' w'->Q (xtE x) a' w')->c.wp P Q a w
def CallOk (P:Program) (f:FuncId) (args:List AV) (s:St) (v:AV) (s':St):Prop:=
 ∀m w args',Rl m args args'->Ok m s.h.get w->Fresh m s.n s'.n->Calls P f args'.toArray w λe w'=>∃y m',e= .returned y/\Goes s.h.get s'.h.get s.n s'.n m m' w w'/\R1 m' v y
def zxT (P:Program):Job->Out->Prop
 | .code c t s, .code x t' s'=>s.n<=s'.n/\CodeOk P c t s x t' s'
 | .call f args s, .call v s'=>CallOk P f args s v s'
 |_,_=>True
def RunOk (P:Program) (run:Job->R Out):Prop:=∀j out,run j= .ok out->zxT P j out
theorem zqB {run:Job->R Out} (hrun:RunOk P run) (ops:Array Oper):∀(l:List Oper) (t:Tm) (s:St) (t':Tm) (s':St),opsL P run ops.toList l t s= .ok (t',s')->s.n<=s'.n/\
  ∀m a w Q,Fit m t a->a.defers=[]->Ok m s.h.get w->Fresh m s.n s'.n->(∀a' w',Done m w s t' s' a' w'->Q .normal a' w')->wpList P ops Q l a w
 |[],t,s,t',s',h=>by
  cases h;exact⟨yhX _,λm a w Q hf hd hok _ hQ=>hQ _ _ ⟨m,Goes.refl hok,hf,hd⟩⟩
 |o::l,t,s,t',s',h=>by
  unfold opsL at h
  have key:∀{v:AV} {s1:St},(bd (t.put o.dst v) λt=>opsL P run ops.toList l t s1)= .ok (t',s')->s.n<=s1.n->s.n<=s'.n/\s1.n<=s'.n/\
    ∀m m1 a w w1 x Q,Fit m t a->a.defers=[]->Fresh m s.n s'.n->Goes s.h.get s1.h.get s.n s1.n m m1 w w1->R1 m1 v x->(∀a' w',Done m w s t' s' a' w'->Q .normal a' w')->wpList P ops Q l (a.put o.dst x) w1:=by
   intro v s1 h hle;obtain⟨t1,hp,h⟩:=zaf h;obtain⟨h1,h2⟩:=zqB hrun ops l t1 s1 t' s' h;refine⟨yBX hle h1,h1,λm m1 a w w1 x Q hf hd hfr hg hv hQ=> ?_⟩;have hm:=hg.mle (hfr.left h1);refine h2 m1 (a.put o.dst x) w1 Q ((hf.mono hm).put hp hv) (by rw[put_defers,hd]) hg.ok (hfr.right hg) ?_;rintro a' w' ⟨m',hg',hf',hd'⟩;exact hQ _ _ ⟨m',hg.trans hg',hf',hd'⟩
  split at h
  ·cases h
  ·rename_i hg;split at h
   ·cases h
   ·rename_i v s1 hop;obtain⟨hle,h⟩:=zav h;obtain⟨h1,h2,h3⟩:=key h (zdJ hle);refine⟨h1,λm a w Q hf hd hok hfr hQ=>wpList_step λK hK=> ?_⟩;rw[zdw hf hg,ygX rfl];obtain⟨x,w1,m1,hr,hgo,hv⟩:=zeq hop hf.ev hok (hfr.left h2);have hk:=hK _ _ (h3 m m1 a w w1 x Q hf hd hfr hgo hv hQ);unfold Oper.wp
    rcases hr with hr|⟨hr,rfl⟩
    ·rw[hr];exact hk
    ·rw[hr];exact hk
   ·rename_i f args hop;split at h
    ·cases h
    ·rename_i v s1 hcall;obtain⟨hle,h⟩:=zav h;obtain⟨h1,h2,h3⟩:=key h (zdJ hle);refine⟨h1,λm a w Q hf hd hok hfr hQ=>wpList_step λK hK=> ?_⟩;rw[zdw hf hg,ygX rfl];obtain⟨args',hr,ha⟩:=zeq hop hf.ev hok;have hc:=hrun _ _ hcall m w args' ha hok (hfr.left h2);unfold Oper.wp;rw[hr];refine Calls.mono hc ?_;rintro e w1 ⟨y,m1,rfl,hgo,hv⟩;exact hK _ _ (h3 m m1 a w w1 y Q hf hd hfr hgo hv hQ)
    ·cases h
  ·rename_i hg;obtain⟨h1,h2,h3⟩:=key h (yhX _);refine⟨h1,λm a w Q hf hd hok hfr hQ=>wpList_step λK hK=> ?_⟩;rw[zdw hf hg,yfX yFY];exact hK _ _ (h3 m m a w w undef Q hf hd hfr (Goes.refl hok) rfl hQ)
def LpN (P:Program) (c:Code) (Q:Exit->Act->World->Prop):Nat->Act->World->Prop
 |0,_,_=>False
 |n+1,a,w=>c.wp P (Exit.then (LpN P c Q n) Q) a w
theorem zkK {c:Code} {Q:Exit->Act->World->Prop} {n:Nat} {a:Act} {w:World} (h:LpN P c Q n a w):(Code.loop c).wp P Q a w:=by
 intro b k cs
 have key:∀n a w,LpN P c Q n a w->∃e a' w',Q e a' w'/\Arrives P (lone (b.at a (.code c:: .inLoop c::k)) cs w) b k cs e a' w':=by
  intro n
  induction n with
  |zero=>intro a w h;exact h.elim
  |succ n ih=>
   intro a w h;obtain⟨e,a₁,w₁,hq,harr⟩:=h b (.inLoop c::k) cs
   cases e with
   |normal=>
    obtain⟨e₂,a₂,w₂,hq₂,harr₂⟩:=ih a₁ w₁ hq;exact⟨e₂,a₂,w₂,hq₂, .of_steps (Steps.trans harr (.one step_inLoop)) harr₂⟩
   |exit id=>exact⟨_,a₁,w₁,hq, .pass (x:= .inLoop c) rfl (λ_ _=> .inl (by simp)) harr⟩
   |goto l=>exact⟨_,a₁,w₁,hq, .pass (x:= .inLoop c) rfl (λ_ _=> .inl (by simp)) harr⟩
   |ret=>exact⟨_,a₁,w₁,hq, .pass (x:= .inLoop c) rfl (λ_ _=> .inl (by simp)) harr⟩
   |panic ch=>exact⟨_,a₁,w₁,hq, .pass (x:= .inLoop c) rfl (λ_ _=> .inl (by simp)) harr⟩
   |outgrown=>exact⟨_,a₁,w₁,hq, .pass (x:= .inLoop c) rfl (λ_ _=> .inl (by simp)) harr⟩
 obtain⟨e,a',w',hq,harr⟩:=key n a w h;exact⟨e,a',w',hq, .of_steps (.one step_loop) harr⟩
end
end Go.Ex
namespace Go.Ex
open Go
def zor (P:Program):Prop:=∀run,RunOk P run->∀(ops:Array Oper) (t:Tm) (s:St) (t':Tm) (s':St),zvW P run ops t s= .ok (t',s')->s.n<=s'.n/\∀id,CodeOk P (.region id ops true) t s .normal t' s'
def zgF (P:Program) (ext:Ext):Prop:=∀f args s v s',ext f args s=some (.ok (v,s'))->CallOk P f args s v s'
section
variable {P : Program} {m m' : Mp} {s s' s'' : St} {w w' : World} {t t' t'' : Tm} {a a' : Act} {o : Oper} {run : Job -> R Out}
theorem Done.trans {s1:St} {w1:World} {m1:Mp} (hg:Goes s.h.get s1.h.get s.n s1.n m m1 w w1) (h:Done m1 w1 s1 t' s' a' w'):Done m w s t' s' a' w':=by
 obtain⟨m',hg',hf,hd⟩:=h;exact⟨m',hg.trans hg',hf,hd⟩
theorem CodeOk.seq {c d:Code} {s1:St} {t1:Tm} {x:Xt} (h1:CodeOk P c t s .normal t1 s1) (h2:CodeOk P d t1 s1 x t' s') (hle:s1.n<=s'.n):CodeOk P (.seq c d) t s x t' s':=by
 intro m a w Q hf hd hok hfr hQ;refine wp_seq (h1 m a w _ hf hd hok (hfr.left hle) ?_);rintro a1 w1 ⟨m1,hg,hf1,hd1⟩;show d.wp P Q a1 w1;exact h2 m1 a1 w1 Q hf1 hd1 hg.ok (hfr.right hg) λa' w' hD=>hQ a' w' (Done.trans hg hD)
theorem ztD (hr:RunOk P run) (hdr:zor P) {c:Code} {x:Xt} (hl:∀b,c≠ .loop b) (h:zrO P run c t s= .ok (.code x t' s')):s.n<=s'.n/\CodeOk P c t s x t' s':=by
 have sub:∀{c:Code} {t:Tm} {s:St} {x:Xt} {t':Tm} {s':St},run (.code c t s)= .ok (.code x t' s')->s.n<=s'.n/\CodeOk P c t s x t' s':=λh=>hr _ _ h;have here:∀{c:Code} {x:Xt},(∀(Q:Exit->Act->World->Prop) a w,Q (xtE x) a w->c.wp P Q a w)->CodeOk P c t s x t s:=λhc m a w Q hf hd hok _ hQ=>hc Q a w (hQ a w ⟨m,Goes.refl hok,hf,hd⟩);unfold zrO at h
 cases c with
 |skip=>cases h;exact⟨yhX _,here λQ a w h=>wp_skip h⟩
 |label l=>cases h;exact⟨yhX _,here λQ a w h=>wp_label h⟩
 |exit id=>cases h;exact⟨yhX _,here λQ a w h=>wp_exit h⟩
 |ret=>cases h;exact⟨yhX _,here λQ a w h=>wp_ret h⟩
 |region id ops draw=>
  cases draw with
  |false=>
   obtain⟨r,hr1,h⟩:=zaf h;cases h;obtain⟨h1,h2⟩:=zqB hr ops _ _ _ _ _ hr1;exact⟨h1,λm a w Q hf hd hok hfr hQ=>wp_region_list (h2 m a w Q hf hd hok hfr hQ)⟩
  |true=>
   obtain⟨r,hr1,h⟩:=zaf h;cases h;obtain⟨h1,h2⟩:=hdr run hr ops t s r.1 r.2 hr1;exact⟨h1,h2 id⟩
 |seq b d=>
  simp only at h;split at h
  ·rename_i t1 s1 hb;obtain⟨h1,h2⟩:=sub hb;obtain⟨h3,h4⟩:=sub h;exact⟨yBX h1 h3,h2.seq h4 h3⟩
  ·rename_i hne;obtain⟨h1,h2⟩:=sub h
   have hx:x≠ .normal:=λe=>by
    subst e;exact hne _ _ h
   refine⟨h1,λm a w Q hf hd hok hfr hQ=>wp_seq (h2 m a w _ hf hd hok hfr λa' w' hD=> ?_)⟩
   cases x with
   |normal=>exact absurd rfl hx
   |exit id=>exact hQ a' w' hD
   |ret=>exact hQ a' w' hD
 |cond v b d=>
  simp only at h;split at h
  ·rename_i hv;obtain⟨h1,h2⟩:=sub h;refine⟨h1,λm a w Q hf hd hok hfr hQ=>wp_cond_true ?_ (h2 m a w Q hf hd hok hfr hQ)⟩;have:=hf.ev v;rw[hv] at this;exact this
  ·rename_i hv;obtain⟨h1,h2⟩:=sub h;refine⟨h1,λm a w Q hf hd hok hfr hQ=>wp_cond_false ?_ (h2 m a w Q hf hd hok hfr hQ)⟩;have:=hf.ev v;rw[hv] at this;exact this
  ·cases h
 |block id b=>
  simp only at h;split at h
  ·rename_i i t1 s1 hb;obtain⟨h1,h2⟩:=sub hb;split at h
   ·rename_i he;have he:=yjX he;cases h;refine⟨h1,λm a w Q hf hd hok hfr hQ=>wp_block (h2 m a w _ hf hd hok hfr λa' w' hD=> ?_)⟩;show(if i=id then _ else _);rw[ygX he];exact hQ a' w' hD
   ·rename_i he
    have he':i≠id:=λe=>by
     subst e;rw[ylY] at he;cases he
    cases h;refine⟨h1,λm a w Q hf hd hok hfr hQ=>wp_block (h2 m a w _ hf hd hok hfr λa' w' hD=> ?_)⟩;show(if i=id then _ else _);rw[yfX he'];exact hQ a' w' hD
  ·rename_i hne;obtain⟨h1,h2⟩:=sub h;refine⟨h1,λm a w Q hf hd hok hfr hQ=>wp_block (h2 m a w _ hf hd hok hfr λa' w' hD=> ?_)⟩
   cases x with
   |normal=>exact hQ a' w' hD
   |exit i=>exact absurd h (hne _ _ _)
   |ret=>exact hQ a' w' hD
 |loop b=>exact absurd rfl (hl b)
 |_=>cases h
theorem zlm :∀(l:List AV) (i:Nat) (t:T AV) (j:Nat),(zf2 i t l).get j=if i<=j then(match l[j-i]? with|some v=>some v|none=>t.get j) else t.get j
 |[],i,t,j=>by
  unfold zf2;split<;>simp
 |v::l,i,t,j=>by
  unfold zf2;rw[zlm l (i+1) _ j,ydY];by_cases h:i<=j
  ·rw[ygX h];by_cases e:j=i
   ·subst e;rw[yfX zo,ygX rfl];simp
   ·rw[ygX zo,yfX e,show j-i=(j-(i+1))+1 by omega];simp
  ·rw[yfX h,yfX zo,yfX zo]
theorem Fit.start {args:List AV} {args':List Value} (h:Rl m args args') (n:Nat):Fit m ⟨zf2 0 .e args,Nat.add args.length (Nat.sub n args.length)⟩ {tmps:=args'.toArray++Array.replicate (n-args'.toArray.size) undef,defers:=[]}:=by
 have hl:=h.length;refine⟨by simp[hl],λi=> ?_⟩;show R1 m (match(zf2 0 (.e:T AV) args).get i with|some v=>v|none=> .any) _;rw[zlm,ygX (ymX _),Nat.sub_zero,ykY];by_cases hi:i<args.length
 ·have h1:args[i]? =some args[i]:=ysX hi;obtain⟨y,hy,hr⟩:=Rl.get i _ h h1;rw[h1]
  have:(args'.toArray++Array.replicate (n-args'.toArray.size) undef)[i]? =some y:=by
   rw[Array.getElem?_append_left (by simp;omega)];simpa using hy
  rw[this];exact hr
 ·rw[yyX zo];trivial
def zkW (a:Act):ResultVar->Sem Value
 | .tmp t=>pure (a.tmps.getD t undef)
 | .cell b t=>do loadVar t (←asAddr (a.tmps.getD b undef))
theorem zhk (hf:Fit m t a) (hok:Ok m s.h.get w):∀{l:List ResultVar} {vs:List AV},zfg P t s l= .ok vs->∃ys,(l.mapM (zkW a)).run P w= .ok ys w/\Rl m vs ys
 |[],vs,h=>by cases h;exact⟨[],by simp,rfl⟩
 |r::l,vs,h=>by
  obtain⟨v,hv,h⟩:=zaf h;obtain⟨q,hq,h⟩:=zaf h;cases h;obtain⟨ys,hy,hR⟩:=zhk hf hok hq
  have hone:∃y,(zkW a r).run P w= .ok y w/\R1 m v y:=by
   cases r with
   |tmp i=>cases hv;exact⟨_,rfl,hf.r i⟩
   |cell i ty=>
    have hr:=hf.r i;unfold zqk at hv;simp only at hv;split at hv
    ·rename_i b off hb;rw[hb] at hr;obtain⟨k,o,c,hm,e⟩:=hr;obtain⟨k',o',c',y,hm',hrun,hr'⟩:=znO hv hok;rw[hm] at hm';cases hm';refine⟨y,?_,hr'⟩;show(do loadVar ty (←asAddr (a.tmps.getD i undef)):Sem Value).run P w=_;rw[e];simpa[asAddr] using hrun
    ·cases hv
  obtain⟨y,hy1,hr1⟩:=hone;exact⟨y::ys,by simp only[List.mapM_cons,y2X,hy1,yWX,hy,y6Y],⟨_,_,rfl,hr1,hR⟩⟩
theorem zcB {fn:Func} (hf:Fit m t a) (hok:Ok m s.h.get w) {vs:List AV} (h:zfg P t s fn.results.toList= .ok vs):∃y,(results fn a.tmps).run P w= .ok y w/\R1 m (zbn vs) y:=by
 obtain⟨ys,hrun,hR⟩:=zhk hf hok h
 have hmap:(fn.results.mapM (zkW a)).run P w= .ok ys.toArray w:=by
  have e:fn.results=fn.results.toList.toArray:=rfl;rw[e,List.mapM_toArray,map_eq_pure_bind,y2X,hrun];rfl
 refine⟨if h:ys.toArray.size=1 then ys.toArray[0] else .tuple ys.toArray,?_,?_⟩
 ·have e:results fn a.tmps=(do let vs ←fn.results.mapM (zkW a);pure (if h:vs.size=1 then vs[0] else .tuple vs)):=by
   have e2:(zkW a)=(λ(r:ResultVar)=>match r with| .tmp t=>(pure (a.tmps.getD t undef):Sem Value)| .cell b t=>(do loadVar t (←asAddr (a.tmps.getD b undef)))):=by
    funext r
    cases r<;>rfl
   rw[e2];rfl
  rw[e,y2X,hmap];rfl
 ·have hl:=hR.length
  cases vs with
  |nil=>cases hR;exact⟨[],rfl,rfl⟩
  |cons v vs=>
   cases vs with
   |nil=>
    obtain⟨X,rfl,hX⟩:=hR.one;exact hX
   |cons v2 vs=>
    have:¬ys.toArray.size=1:=by simp[hl]
    rw[dif_neg this];exact⟨ys,hR,rfl⟩
theorem ztI (hr:RunOk P run) {f:FuncId} {args:List AV} {out:Out} (h:zv7 P run f args s= .ok out):zxT P (.call f args s) out:=by
 unfold zv7 at h;split at h
 ·cases h
 ·rename_i fn hf;split at h
  ·cases h
  ·rename_i c hc;split at h
   ·cases h
   ·cases h
   ·rename_i x t1 s1 hx hrun;obtain⟨vs,hvs,h⟩:=zaf h;cases h;intro m w args' hR hok hfr;obtain⟨_,hcode⟩:=hr _ _ hrun;refine calls_of_wp hf hc (hcode m _ w _ (Fit.start hR fn.ntmps) rfl hok hfr ?_);rintro a' w' ⟨m',hg,hf',hd⟩;obtain⟨y,hy,hRy⟩:=zcB (fn:=fn) hf' hg.ok hvs
    cases x with
    |normal=>exact⟨hd,y,hy,y,m',rfl,hg,hRy⟩
    |ret=>exact⟨hd,y,hy,y,m',rfl,hg,hRy⟩
    |exit id=>exact(hx id rfl).elim
   ·cases h
def LoopOk (P:Program) (c:Code) (t:Tm) (s:St) (x:Xt) (t':Tm) (s':St):Prop:=
 s.n<=s'.n/\∃n,∀m a w Q,Fit m t a->a.defers=[]->Ok m s.h.get w->Fresh m s.n s'.n->(∀a' w',Done m w s t' s' a' w'->Q (xtE x) a' w')->LpN P c Q n a w
def zm5 (P:Program) (run:Job->R Out):Prop:=∀c t s x t' s',run (.code (.loop c) t s)= .ok (.code x t' s')->LoopOk P c t s x t' s'
theorem LoopOk.code {c:Code} {x:Xt} (h:LoopOk P c t s x t' s'):s.n<=s'.n/\CodeOk P (.loop c) t s x t' s':=by
 obtain⟨h1,n,h2⟩:=h;exact⟨h1,λm a w Q hf hd hok hfr hQ=>zkK (h2 m a w Q hf hd hok hfr hQ)⟩
theorem zs9 (hr:RunOk P run) (hl:zm5 P run) {c:Code} {x:Xt} (h:zrO P run (.loop c) t s= .ok (.code x t' s')):LoopOk P c t s x t' s':=by
 unfold zrO at h;simp only at h;split at h
 ·rename_i t1 s1 hb;obtain⟨h1,h2⟩:=hr _ _ hb;obtain⟨h3,n,h4⟩:=hl _ _ _ _ _ _ h;refine⟨yBX h1 h3,n+1,λm a w Q hf hd hok hfr hQ=>h2 m a w _ hf hd hok (hfr.left h3) ?_⟩;rintro a1 w1 ⟨m1,hg,hf1,hd1⟩;exact h4 m1 a1 w1 Q hf1 hd1 hg.ok (hfr.right hg) λa' w' hD=>hQ a' w' (Done.trans hg hD)
 ·rename_i hne;obtain⟨h1,h2⟩:=hr _ _ h;refine⟨h1,1,λm a w Q hf hd hok hfr hQ=>h2 m a w _ hf hd hok hfr λa' w' hD=> ?_⟩
  cases x with
  |normal=>exact absurd h (hne _ _)
  |exit id=>exact hQ a' w' hD
  |ret=>exact hQ a' w' hD
theorem znq {ext:Ext} (hext:zgF P ext) (hdr:zor P):∀k,RunOk P (Ex.run P ext k)/\zm5 P (Ex.run P ext k)
 |0=>⟨λ_ _ h=>(by cases h),λ_ _ _ _ _ _ h=>(by cases h)⟩
 |k+1=>by
  obtain⟨ih1,ih2⟩:=znq hext hdr k;have hloops:zm5 P (Ex.run P ext (k+1)):=λc t s x t' s' h=>zs9 ih1 ih2 h;refine⟨λj out h=> ?_,hloops⟩
  cases j with
  |code c t s=>
   cases out with
   |call v s'=>trivial
   |code x t' s'=>
    by_cases hl:∃b,c= .loop b
    ·obtain⟨b,rfl⟩:=hl;exact(hloops b t s x t' s' h).code
    ·exact ztD ih1 hdr (λb e=>hl ⟨b,e⟩) h
  |call f args s=>
   have h':step P ext (Ex.run P ext k) (.call f args s)= .ok out:=h;unfold step at h';simp only at h';split at h'
   ·rename_i r hr;obtain⟨q,rfl,h'⟩:=zaf h';cases h';exact hext f args s q.1 q.2 hr
   ·exact ztI ih1 h'
theorem zqc {ext:Ext} (hext:zgF P ext) (hdr:zor P) (k:Nat):RunOk P (Ex.run P ext k):=(znq hext hdr k).1
theorem Ok.empty (m:Mp) (w:World) (hz:∀k i v,m.z k i=some v->∃cur e fr,w.heap[k]? =some (.cells cur e fr)/\cur[i]? =some v) (ht:ztO w):Ok m (T.e:T AO).get w:=⟨λ_ _ h=>(by cases h),λ_ _ _ _ h=>(by cases h),λk i v h=>⟨hz k i v h,λ_ _ h=>(by cases h)⟩,λk x hk=>⟨ht k x hk,λ_ _ h=>(by cases h)⟩⟩
theorem CallOk.calls {f:FuncId} {args:List Value} {v:Value} {n:Nat} {s':St} (h:CallOk P f (args.map .sc) ⟨.e,n⟩ (.sc v) s') (w:World) (ht:ztO w):Calls P f args.toArray w λe w'=>e= .returned v/\RowKit.Below w.heap.size w w':=by
 refine Calls.mono (h ⟨λ_=>none,λ_ _=>none⟩ w args (Rl.sc args) (Ok.empty _ _ (λ_ _ _ h=>(by cases h)) ht) λ_ _ _=>rfl) ?_;rintro e w' ⟨y,m',rfl,hg,hR⟩;cases hR;exact⟨rfl,hg.fr.os,hg.fr.tape,hg.fr.output,hg.fr.size,λk hk=>hg.fr.block k hk λb o hb=>by cases hb⟩
end
end Go.Ex
namespace Go.Ex
open Go
section
variable {m m' m'' : Mp} {F F' F'' : AH} {w w' w'' : World}
structure G (F F':AH) (m m':Mp) (w w':World):Prop where
 mle:m.le m'
 ok:Ok m' F' w'
 fr:Fr m F w w'
 new:zx9 m m' F F' w
 znew:zyI m m' F w
theorem Goes.g {n n':Nat} (h:Goes F F' n n' m m' w w') (hf:Fresh m n n'):G F F' m m' w w':=⟨h.mle hf,h.ok,h.fr,h.new,h.znew⟩
theorem G.refl (h:Ok m F w):G F F m m w w:=⟨Mp.le_refl _,h,Fr.refl _ _ _,λb o hb=> .inl ⟨b,o,hb,rfl⟩,λ_ _ _ h=> .inl h⟩
theorem G.trans (h:G F F' m m' w w') (h':G F' F'' m' m'' w' w''):G F F'' m m'' w w'':=by
 refine⟨Mp.le_trans h.mle h'.mle,h'.ok,⟨h'.fr.os.trans h.fr.os,h'.fr.tape.trans h.fr.tape,h'.fr.output.trans h.fr.output,yBX h.fr.size h'.fr.size,λk hk hn=> ?_⟩,λb o hb=> ?_,λk i v hv=> ?_⟩
 ·rw[h'.fr.block k (ywY hk h.fr.size) λb o hb e=> ?_,h.fr.block k hk hn]
  rcases h.new b o hb with⟨b0,o0,h0,e0⟩|⟨k0,e0,hk0⟩
  ·exact hn b0 o0 h0 (e0.symm.trans e)
  ·rw[e0] at e;cases e;omega
 ·rcases h'.new b o hb with⟨b0,o0,h0,e0⟩|⟨k0,e0,hk0⟩
  ·rcases h.new b0 o0 h0 with⟨b1,o1,h1,e1⟩|⟨k1,e1,hk1⟩
   ·exact .inl ⟨b1,o1,h1,e0.trans e1⟩
   ·exact .inr ⟨k1,e0.trans e1,hk1⟩
  ·exact .inr ⟨k0,e0,yBX h.fr.size hk0⟩
 ·rcases h'.znew k i v hv with h1|⟨b0,o0,h0,e0⟩|h1
  ·exact h.znew k i v h1
  ·rcases h.new b0 o0 h0 with⟨b1,o1,h1,e1⟩|⟨k1,e1,hk1⟩
   ·exact .inr (.inl ⟨b1,o1,h1,e1.symm.trans e0⟩)
   ·rw[e1] at e0;cases e0;exact .inr (.inr hk1)
  ·exact .inr (.inr (yBX h.fr.size h1))
theorem Ok.sub (h:Ok m F w) (hs:∀b o,F' b=some o->F b=some o):Ok m F' w:=⟨λb o hb=>h.has b o (hs b o hb),λb b' o o' hb hb'=>h.apart b b' o o' (hs _ _ hb) (hs _ _ hb'),λk i v hv=>⟨(h.fz k i v hv).1,λb o hb=>(h.fz k i v hv).2 b o (hs b o hb)⟩,h.tbsub λb o hb=>⟨b,o,hs b o hb,rfl⟩⟩
theorem G.sub (h:G F F' m m' w w') (hs:∀b o,F'' b=some o->F' b=some o):G F F'' m m' w w':=⟨h.mle,h.ok.sub hs,h.fr,λb o hb=>h.new b o (hs b o hb),h.znew⟩
def orH (X F:AH):AH:=λb=>match X b with|some o=>some o|none=>F b
theorem zhz {X F:AH} {b:Nat} {o:AO} (h:X b=some o):orH X F b=some o:=by simp[orH,h]
theorem zhA {X F:AH} {b:Nat} (h:X b=none):orH X F b=F b:=by simp[orH,h]
theorem zda {X F:AH} {b:Nat} {o:AO} (h:orH X F b=some o):X b=some o∨(X b=none/\F b=some o):=by
 unfold orH at h
 cases hx:X b with
 |none=>rw[hx] at h;exact .inr ⟨rfl,h⟩
 |some o'=>rw[hx] at h;cases h;exact .inl rfl
theorem G.frame {FL X:AH} (hok:Ok m FL w) (hX:∀b o,X b=some o->FL b=some o) (hF:∀b o,F b=some o->FL b=some o) (hd:∀b o,F b=some o->X b=none) (hg:G F F' m m' w w'):
  G FL (orH X F') m m' w w'/\∀b o,F' b=some o->X b=none:=by
 have key:∀b o b' o',F' b=some o->X b'=some o'->blk m' b≠blk m' b':=by
  intro b o b' o' hb hb' e;obtain⟨k,hk,hlt⟩:=y5X (hok.has b' o' (hX _ _ hb'));have hk':=zrY hg.mle hk
  rcases hg.new b o hb with⟨b0,o0,h0,e0⟩|⟨k',e',hge⟩
  ·have hne:b0≠b':=λe1=>by
    subst e1;rw[hd b0 o0 h0] at hb';cases hb'
   exact hok.apart b0 b' o0 o' (hF _ _ h0) (hX _ _ hb') hne (by rw[←e0,e,hk',hk])
  ·rw[e',hk'] at e;cases e;omega
 have keepX:∀b o,X b=some o->o.R m' w' b/\blk m' b=blk m b:=by
  intro b o hb;have hR:=hok.has b o (hX _ _ hb);obtain⟨k,hk,hlt⟩:=y5X hR;refine⟨yMZ hR hg.mle λk' hk'=> ?_,by rw[zrY hg.mle hk,hk]⟩;rw[hk] at hk';cases hk';refine hg.fr.block k hlt λb0 o0 h0 e=> ?_
  have hne:b0≠b:=λe1=>by
   subst e1;rw[hd b0 o0 h0] at hb;cases hb
  exact hok.apart b0 b o0 o (hF _ _ h0) (hX _ _ hb) hne (by rw[e,hk])
 have hdis:∀b o,F' b=some o->X b=none:=λb o hb=>by
  cases hx:X b with
  |none=>rfl
  |some o'=>exact absurd rfl (key b o b o' hb hx)
 refine⟨⟨hg.mle,⟨λb o hb=> ?_,λb b' o o' hb hb' hne=> ?_,λk i v hv=>⟨(hg.ok.fz k i v hv).1,λb o hb=> ?_⟩,hok.tbs (λk hk hn=>hg.fr.block k hk λb o hb=>hn b o (hF b o hb)) λb o hb=> ?_⟩,⟨hg.fr.os,hg.fr.tape,hg.fr.output,hg.fr.size,λk hk hn=>hg.fr.block k hk λb o hb=>hn b o (hF b o hb)⟩,λb o hb=> ?_,λk i v hv=> ?_⟩,hdis⟩
 ·rcases zda hb with hb|⟨_,hb⟩
  ·exact(keepX b o hb).1
  ·exact hg.ok.has b o hb
 ·rcases zda hb with hb|⟨_,hb⟩<;>rcases zda hb' with hb'|⟨_,hb'⟩
  ·rw[(keepX b o hb).2,(keepX b' o' hb').2];exact hok.apart b b' o o' (hX _ _ hb) (hX _ _ hb') hne
  ·exact Ne.symm (key b' o' b o hb' hb)
  ·exact key b o b' o' hb hb'
  ·exact hg.ok.apart b b' o o' hb hb' hne
 ·rcases zda hb with hb|⟨_,hb⟩
  ·rw[(keepX b o hb).2];obtain⟨k1,hk1,hlt⟩:=y5X (hok.has b o (hX _ _ hb))
   rcases hg.znew k i v hv with h1|⟨b0,o0,h0,e0⟩|h1
   ·exact(hok.fz k i v h1).2 b o (hX _ _ hb)
   ·intro e
    have hne:b0≠b:=λe1=>by
     subst e1;rw[hd b0 o0 h0] at hb;cases hb
    exact hok.apart b0 b o0 o (hF _ _ h0) (hX _ _ hb) hne (by rw[e,e0])
   ·rw[hk1];intro e;cases e;omega
  ·exact(hg.ok.fz k i v hv).2 b o hb
 ·rcases zda hb with hb|⟨_,hb⟩
  ·exact .inl ⟨b,o,hX _ _ hb,(keepX b o hb).2⟩
  ·rcases hg.new b o hb with⟨b0,o0,h0,e0⟩|h
   ·exact .inl ⟨b0,o0,hF _ _ h0,e0⟩
   ·exact .inr h
 ·rcases zda hb with hb|⟨_,hb⟩
  ·exact .inl ⟨b,o,hX _ _ hb,(keepX b o hb).2⟩
  ·rcases hg.new b o hb with⟨b0,o0,h0,e0⟩|h
   ·exact .inl ⟨b0,o0,hF _ _ h0,e0⟩
   ·exact .inr h
 ·rcases hg.znew k i v hv with h1|⟨b0,o0,h0,e0⟩|h1
  ·exact .inl h1
  ·exact .inr (.inl ⟨b0,o0,hF _ _ h0,e0⟩)
  ·exact .inr (.inr h1)
end
section
variable {P : Program} {s s' : St} {t t' : Tm} {o : Oper} {run : Job -> R Out}
theorem zd8 :∀{l:List Operand},(∀x∈l,ev t x=ev t' x)->evs t l=evs t' l
 |[],_=>rfl
 |x::l,h=>by
  show ev t x::evs t l=ev t' x::evs t' l;rw[h x (by simp),zd8 λy hy=>h y (by simp[hy])]
theorem zhU :∀{l:List (Nat×Operand)},(∀x∈l.map (·.2),ev t x=ev t' x)->evp t l=evp t' l
 |[],_=>rfl
 |p::l,h=>by
  show(p.1,ev t p.2)::evp t l=(p.1,ev t' p.2)::evp t' l;rw[h p.2 (by simp),zhU λy hy=>h y (by simp[hy])]
theorem zhV {x:Option Operand} (h:∀y,x=some y->ev t y=ev t' y):evo t x=evo t' x:=by
 cases x with
 |none=>rfl
 |some y=>show some _=some _;rw[h y rfl]
theorem zjy (h:∀x∈o.op.operands,ev t x=ev t' x):zaR P t s o=zaR P t' s o:=by
 unfold zaR;rw[zd8 (t:=t) (t':=t') λx hx=>h x (by simpa using hx)]
 cases hs:zjV o.op with
 |true=>rfl
 |false=>
  rw[execOp_congr (ρ:=λx=>zuI (ev t x).val) (ρ':=λx=>zuI (ev t' x).val) o (λcs b e=>by rw[e] at hs;cases hs) λx hx=>by simp only[h x hx]]
theorem zmu (h:∀x∈o.op.operands,ev t x=ev t' x):za7 P t s o=za7 P t' s o:=by
 have hp:=zjy (P:=P) (s:=s) h;unfold za7 comp;cases hop:o.op<;>rw[hop] at h<;>simp only[Op.operands] at h
 case build ty ps=>simp only[zhU (l:=ps.toList) λx hx=>h x (by simpa using hx)]
 case buildSlice ty n ps=>simp only[zhU (l:=ps.toList) λx hx=>h x (by simpa using hx)]
 case makeFunc f a b=>simp only[zd8 (l:=a.toList) λx hx=>h x (by simp at hx⊢;exact .inl hx),zd8 (l:=b.toList) λx hx=>h x (by simp at hx⊢;exact .inr hx)]
 case slice ty x lo hi mx=>
  simp only[h x (by simp),zhV (x:=lo) λy e=>h y (by simp[e]),zhV (x:=hi) λy e=>h y (by simp[e]),zhV (x:=mx) λy e=>h y (by simp[e])]
 case call c=>
  have hargs:evs t c.args.toList=evs t' c.args.toList:=zd8 λx hx=>h x (by simp[Call.operands];exact .inr (by simpa using hx));show zij P t s o c=zij P t' s o c;unfold zij
  cases hc:c.callee with
  |value f=>
   have hf:=h f (by simp[Call.operands,hc]);simp only[hf,hargs]
  |builtin b=>simp only[hargs,hp]
  |invoke r name=>
   have hf:=h r (by simp[Call.operands,hc]);simp only[hf,hargs]
 case binOp op xt x y yt=>simp only[zr0,h x (by simp),h y (by simp),hp]
 case unOp op xt x=>simp only[unA,h x (by simp),hp]
 case convert a b x=>simp only[zmT,h x (by simp),hp]
 case pick c a b=>simp only[h c (by simp),h a (by simp),h b (by simp)]
 all_goals((simp_all;done))
theorem zjR {ops:Array Oper} {x:Operand} (h:∀d∈o.looksAt ops,t.get d=t'.get d) (hx:x∈o.op.operands):ev t x=ev t' x:=by
 cases x with
 |tmp d=>exact h d (yUX _ (List.mem_filterMap.2 ⟨.tmp d,by simpa using hx,rfl⟩))
 |_=>rfl
theorem guard_congr {ops:Array Oper} (h:∀d∈o.looksAt ops,t.get d=t'.get d):zcr ops.toList t o=zcr ops.toList t' o:=by
 unfold zcr
 cases hg:o.guard with
 |none=>rfl
 |some g=>
  obtain⟨j,want⟩:=g;simp only[ztp,zbc]
  have e:ops.toList[j]? =ops[j]? :=by simp
  rw[e]
  cases hj:ops[j]? with
  |none=>rfl
  |some q=>
   simp only
   cases hd:q.dst with
   |none=>rfl
   |some d=>
    simp only;rw[h d (y6X _ (by simp[hg,hj,hd]))]
end
end Go.Ex
namespace Go.Ex
open Go
theorem zhC :∀(l:List Nat) (k:Nat),zgC l k=l.getD k 0
 |[],_=>by simp[zgC]
 |a::l,0=>by simp[zgC]
 |a::l,k+1=>by simp[zgC,zhC l k]
theorem zdK (m i:Nat):bit m i=m.testBit i:=by
 have h:bit m i=true↔m.testBit i=true:=by
  unfold bit;rw[Nat.beq_eq];show(m>>>i)%2=1↔_;rw[Nat.shiftRight_eq_div_pow,yfY,decide_eq_true_iff]
 exact yhZ.2 h
theorem zhI :∀{l:List Edge} {acc:List Nat} {j:Nat},bit (zdd l acc) j=true->∃e∈l,Region.binds .any e=true/\(j=e.on∨bit (zgC acc e.on) j=true)
 |[],acc,j,h=>by
  rw[zdK] at h;simp[zdd] at h
 |e::l,acc,j,h=>by
  unfold zdd at h;split at h
  ·rename_i hb;rw[zdK] at h;have h':(((2^e.on|||zgC acc e.on)|||zdd l acc).testBit j)=true:=h;rw[y7Z,y7Z,yVZ,yXY,yXY,decide_eq_true_iff] at h'
   rcases h' with(h'|h')|h'
   ·exact⟨e,by simp,hb, .inl h'.symm⟩
   ·exact⟨e,by simp,hb, .inr (by rw[zdK];exact h')⟩
   ·obtain⟨e',he,h2⟩:=zhI (l:=l) (acc:=acc) (j:=j) (by rw[zdK];exact h');exact⟨e',by simp[he],h2⟩
  ·obtain⟨e',he,h2⟩:=zhI (l:=l) (acc:=acc) (j:=j) h;exact⟨e',by simp[he],h2⟩
theorem ziE :∀(l:List Oper) (acc:List Nat),∃r,zjJ l acc=acc++r/\r.length=l.length/\∀k o,l[k]? =some o->r[k]? =some (zdd o.after.toList (acc++r.take k))
 |[],acc=>⟨[],by simp[zjJ],rfl,λk o h=>by simp at h⟩
 |o::l,acc=>by
  obtain⟨r,h1,h2,h3⟩:=ziE l (acc++[zdd o.after.toList acc]);refine⟨zdd o.after.toList acc::r,by simp[zjJ,h1],by simp[h2],λk o' h=> ?_⟩
  cases k with
  |zero=>simp at h;subst h;simp
  |succ k=>
   have:=h3 k o' (by simpa using h);simpa using this
def maskAt (ops:Array Oper) (i:Nat):Nat:=zgC (zjJ ops.toList []) i
theorem zs7 {ops:Array Oper} {i j:Nat} {o:Oper} (ho:ops[i]? =some o) (h:bit (maskAt ops i) j=true):∃e∈o.after.toList,Region.binds .any e=true/\(j=e.on∨bit (maskAt ops e.on) j=true):=by
 obtain⟨r,h1,h2,h3⟩:=ziE ops.toList [];have hr:=h3 i o (by simpa using ho)
 unfold maskAt at*
 rw[h1] at h⊢;simp only[yAY] at h hr⊢;rw[zhC,ymZ,hr] at h;simp only[ycZ] at h;obtain⟨e,he,hb,hj⟩:=zhI h;refine⟨e,he,hb,hj.imp_right λhj=> ?_⟩;rw[zhC,ymZ] at hj⊢;by_cases hlt:e.on<i
 ·rw[yNX,ygX hlt] at hj;exact hj
 ·rw[yNX,yfX hlt,zdK] at hj;simp at hj
theorem hasT_iff {d:Tmp}:∀{l:List Tmp},zuk d l=true↔d∈l
 |[]=>by simp[zuk]
 |e::l=>by
  unfold zuk
  cases h:Nat.beq d e with
  |true=>have:=yjX h;simp[this]
  |false=>
   have hne:d≠e:=λe'=>by subst e';rw[ylY] at h;cases h
   simp[hasT_iff (l:=l),hne]
theorem zeC {j:Nat}:∀{l:List Edge},zpi j l=true->∀e∈l,Region.binds .any e=true->e.on<j
 |[],_,e,he,_=>by simp at he
 |a::l,h,e,he,hb=>by
  unfold zpi at h
  rcases yAX.1 he with rfl|he
  ·rw[hb] at h;simp only at h;split at h
   ·rename_i hlt;exact zby hlt
   ·cases h
  ·split at h
   ·split at h
    ·exact zeC h e he hb
    ·cases h
   ·exact zeC h e he hb
theorem zeS {looks:Oper->List Tmp} {y:Oper} {my:Nat}:∀{l:List Oper} {i:Nat},zk2 looks i y my l=true->∀k x,l[k]? =some x->zoL looks (i+k) x y my=true
 |[],_,_,k,x,h=>by simp at h
 |a::l,i,h,k,x,hk=>by
  unfold zk2 at h;split at h
  ·rename_i hp
   cases k with
   |zero=>simp at hk;subst hk;exact hp
   |succ k=>
    have:=zeS h k x (by simpa using hk)
    rwa [show i+(k+1)=i.succ+k by omega]
  ·cases h
theorem zf8 {looks:Oper->List Tmp} {ms:List Nat}:∀{l:List Oper} {j:Nat} {before:List Oper},ztr looks ms j before l=true->∀k y,l[k]? =some y->zpi (j+k) y.after.toList=true/\zk2 looks 0 y (zgC ms (j+k)) (before++l.take k)=true
 |[],_,_,_,k,y,h=>by simp at h
 |a::l,j,before,h,k,y,hk=>by
  unfold ztr at h;split at h
  ·rename_i hp;rw[ykX] at hp
   cases k with
   |zero=>simp at hk;subst hk;simpa using hp
   |succ k=>
    have:=zf8 h k y (by simpa using hk);rw[show j+(k+1)=j.succ+k by omega];simpa using this
  ·cases h
theorem zep {looks:Oper->List Tmp} {i my:Nat} {x y:Oper} (h:zoL looks i x y my=true):
  (∀d,x.dst=some d->y.dst≠some d)/\(bit my i=false->(∀d,x.dst=some d->d∉looks y)/\(∀d,y.dst=some d->d∉looks x)):=by
 unfold zoL at h
 cases hx:x.dst with
 |none=>
  refine⟨λd e=>(by cases e),λhb=>⟨λd e=>(by cases e),λd e=> ?_⟩⟩;rw[hx,e] at h;simp only[hb,y4Y,y1X] at h;intro hm;rw[hasT_iff.2 hm] at h;cases h
 |some d=>
  cases hy:y.dst with
  |none=>
   refine⟨λd' e e'=>(by cases e'),λhb=>⟨λd' e=> ?_,λd e=>(by cases e)⟩⟩;cases e;rw[hx,hy] at h;simp only[hb,y4Y,y1X] at h;intro hm;rw[hasT_iff.2 hm] at h;cases h
  |some e=>
   rw[hx,hy] at h;simp only[ykX,y1X] at h;obtain⟨h1,h2⟩:=h
   have hne:d≠e:=λe'=>by subst e';rw[ylY] at h1;cases h1
   refine⟨λd' e1 e2=>by cases e1;cases e2;exact hne rfl,λhb=> ?_⟩;rw[hb] at h2;simp only[y4Y,ykX,y1X] at h2;refine⟨λd' e1 hm=> ?_,λd' e1 hm=> ?_⟩
   ·cases e1;rw[hasT_iff.2 hm] at h2;cases h2.1
   ·cases e1;rw[hasT_iff.2 hm] at h2;cases h2.2
def Op1 (P:Program) (t:Tm) (s:St) (o:Oper) (v:AV) (s':St):Prop:=za7 P t s o= .ok (.val v s')∨∃f args,za7 P t s o= .ok (.enter f args)/\CallOk P f args s v s'
def zsl (P:Program) (h:T AO) (ty:TypeId) (b off:Nat) (v:AV):Prop:=∃v',zcw P ⟨h,0⟩ ty b off= .ok v'/\(avEq v' v=true∨v'=v)
theorem zli {P:Program} {h:T AO} {ty:TypeId} {b off:Nat} {v:AV} (hl:ziH P h ty b off v=true):zsl P h ty b off v:=by
 unfold ziH at hl;split at hl
 ·rename_i v' hv';exact⟨v',hv', .inl hl⟩
 ·cases hl
theorem zhB {P:Program} {ty:TypeId} {b off mask:Nat} {v:AV}:∀{l:List (Nat×T AO)},zqF P ty b off v mask l=true->∀p∈l,bit mask p.1=false->ziH P p.2 ty b off v=true
 |[],_,p,hp,_=>by simp at hp
 |(i,g)::l,h,p,hp,hb=>by
  unfold zqF at h
  rcases yAX.1 hp with rfl|hp
  ·rw[hb] at h;simp only at h;split at h
   ·rename_i hl;exact hl
   ·cases h
  ·split at h
   ·exact zhB h p hp hb
   ·split at h
    ·exact zhB h p hp hb
    ·cases h
theorem zk7 {P:Program} {h:T AO} {mask:Nat}:∀{l:List (Nat×TypeId×Nat×Nat×AV)},zs4 P h mask l=true->∀p∈l,bit mask p.1=false->ziH P h p.2.1 p.2.2.1 p.2.2.2.1 p.2.2.2.2=true
 |[],_,p,hp,_=>by simp at hp
 |(i,ty,b,off,v)::l,h,p,hp,hb=>by
  unfold zs4 at h;split at h
  ·rename_i hc
   rcases yAX.1 hp with rfl|hp
   ·rw[hb,y4Y] at hc;exact hc
   ·exact zk7 h p hp hb
  ·cases h
def zxU (P:Program) (ty:TypeId) (b off:Nat) (v:AV) (mask:Nat) (l:List (Nat×T AO)):Prop:=∀p∈l,bit mask p.1=false->zsl P p.2 ty b off v
def ztP (P:Program) (h:T AO) (mask:Nat) (l:List (Nat×TypeId×Nat×Nat×AV)):Prop:=∀p∈l,bit mask p.1=false->zsl P h p.2.1 p.2.2.1 p.2.2.2.1 p.2.2.2.2
def zgE (P:Program) (ops:List Oper) (d:DS) (j:Nat) (o:Oper) (mask:Nat) (d':DS):Prop:=
 ∃t' v,d.t.put o.dst v= .ok t'/\(
  (zcr ops d.t o=some false/\v=AV.undef/\d'=⟨t',d.h,d.n,d.pend,d.hv,d.lds⟩)∨
  (zcr ops d.t o=some true/\(
   (∃s,Op1 P d.t ⟨.e,d.n⟩ o v s/\s.n=d.n/\d'=⟨t',d.h,d.n,d.pend,d.hv,d.lds⟩)∨
   (∃s ao,Op1 P d.t ⟨.e,d.n⟩ o v s/\s.n=d.n+1/\s.h.get d.n=some ao/\d'=⟨t',d.h,s.n,(j,d.n,ao)::d.pend,d.hv,d.lds⟩)∨
   (∃ty x b off,o.op= .load ty x/\ev d.t x= .ptr b off/\zcw P ⟨d.h,0⟩ ty b off= .ok v/\zxU P ty b off v mask d.hv/\d'=⟨t',d.h,d.n,d.pend,d.hv,(j,ty,b,off,v)::d.lds⟩)∨
   (∃s',zre mask d.hv=true/\Op1 P d.t ⟨merge d.h (zbD mask d.pend),d.n⟩ o v s'/\d.n<=s'.n/\ztP P s'.h mask d.lds/\d'=⟨t',s'.h,s'.n,zcn mask d.pend,(j,d.h)::d.hv,d.lds⟩))))
section
variable {P : Program} {run : Job -> R Out} {ops : List Oper} {d d' : DS} {j mask : Nat} {o : Oper}
theorem zhs {dst:Option Tmp} {v:AV} (h:zwp d dst v= .ok d'):∃t',d.t.put dst v= .ok t'/\d'=⟨t',d.h,d.n,d.pend,d.hv,d.lds⟩:=by
 obtain⟨t',h1,h2⟩:=zaf h;cases h2;exact⟨t',h1,rfl⟩
theorem zln {s s':St} {v:AV} (hhv:zre mask d.hv=true) (ho:Op1 P d.t s o v s') (h:zrf P d j o mask v s'= .ok d'):∃t',d.t.put o.dst v= .ok t'/\zre mask d.hv=true/\Op1 P d.t s o v s'/\d.n<=s'.n/\ztP P s'.h mask d.lds/\d'=⟨t',s'.h,s'.n,zcn mask d.pend,(j,d.h)::d.hv,d.lds⟩:=by
 obtain⟨h1,h⟩:=zav h;rw[ykX] at h1;obtain⟨t',h2,e⟩:=zhs h;exact⟨t',h2,hhv,ho,zdJ h1.1,λp hp hb=>zli (zk7 h1.2 p hp hb),e⟩
theorem zsw (hr:RunOk P run) (h:zuQ P run ops d j o mask= .ok d'):zgE P ops d j o mask d':=by
 have hard:zcr ops d.t o=some true->zxm P run d j o mask ⟨merge d.h (zbD mask d.pend),d.n⟩= .ok d'->zgE P ops d j o mask d':=by
  intro hg h;obtain⟨hhv,h⟩:=zav h;split at h
  ·cases h
  ·rename_i v s' ho;obtain⟨t',ht,h1,h2,h3,h4,e⟩:=zln hhv (.inl ho) h;exact⟨t',v,ht, .inr ⟨hg, .inr (.inr (.inr ⟨s',h1,h2,h3,h4,e⟩))⟩⟩
  ·rename_i f args ho;split at h
   ·cases h
   ·rename_i v s' hc;obtain⟨t',ht,h1,h2,h3,h4,e⟩:=zln hhv (.inr ⟨f,args,ho,hr _ _ hc⟩) h;exact⟨t',v,ht, .inr ⟨hg, .inr (.inr (.inr ⟨s',h1,h2,h3,h4,e⟩))⟩⟩
   ·cases h
 unfold zuQ at h;split at h
 ·cases h
 ·rename_i hg;obtain⟨t',ht,e⟩:=zhs h;exact⟨t',_,ht, .inl ⟨hg,rfl,e⟩⟩
 ·rename_i hg;split at h
  ·rename_i ty x hl
   have hop:o.op= .load ty x:=by
    unfold zuj at hl;split at hl
    ·rename_i he;cases hl;exact he
    ·cases hl
   unfold zxi at h;split at h
   ·rename_i b off hx;obtain⟨v,hv,h⟩:=zaf h;obtain⟨hold,h⟩:=zav h;obtain⟨t',ht,e⟩:=zhs h;exact⟨t',v,ht, .inr ⟨hg, .inr (.inr (.inl ⟨ty,x,b,off,hop,hx,hv,λp hp hb=>zli (zhB hold p hp hb),e⟩))⟩⟩
   ·cases h
  ·split at h
   ·rename_i v s ho;unfold zug at h;split at h
    ·rename_i hn;obtain⟨t',ht,e⟩:=zhs h;exact⟨t',v,ht, .inr ⟨hg, .inl ⟨s, .inl ho,yjX hn,e⟩⟩⟩
    ·obtain⟨hn,h⟩:=zav h;obtain⟨ao,hao,h⟩:=zaf h;obtain⟨t',ht,e⟩:=zhs h;exact⟨t',v,ht, .inr ⟨hg, .inr (.inl ⟨s,ao, .inl ho,yjX hn,zcf hao,e⟩)⟩⟩
   ·exact hard hg h
theorem zog (hr:RunOk P run) {ms:List Nat}:∀{rest:List Oper} {j:Nat} {d d':DS},zvV P run ops ms j rest d= .ok d'->∃D:Nat->DS,D j=d/\D (j+rest.length)=d'/\∀k o,rest[k]? =some o->zgE P ops (D (j+k)) (j+k) o (zgC ms (j+k)) (D (j+k+1))
 |[],j,d,d',h=>by cases h;exact⟨λ_=>d,rfl,rfl,λk o h=>by simp at h⟩
 |o::rest,j,d,d',h=>by
  obtain⟨d1,h1,h⟩:=zaf h;obtain⟨D,e1,e2,e3⟩:=zog hr h;refine⟨λi=>if i=j then d else D i,by simp,?_,λk o' hk=> ?_⟩
  ·show(if j+(o::rest).length=j then d else D (j+(o::rest).length))=d';rw[yfX (by simp),←e2]
   congr 1
   simp only[yGX];omega
  ·cases k with
   |zero=>
    simp at hk;subst hk;simp only[yvZ,ygX];rw[yfX zo,e1];exact zsw hr h1
   |succ k=>
    have:=e3 k o' (by simpa using hk);show zgE P ops (if j+(k+1)=j then d else D (j+(k+1))) (j+(k+1)) o' (zgC ms (j+(k+1))) (if j+(k+1)+1=j then d else D (j+(k+1)+1));rw[yfX zo,yfX zo,show j+(k+1)=j.succ+k by omega];exact this
end
end Go.Ex
namespace Go.Ex
open Go
theorem znX {mask:Nat}:∀{l:List (Nat×T AO)},zre mask l=true->∀p∈l,bit mask p.1=true
 |[],_,p,hp=>by simp at hp
 |(i,g)::l,h,p,hp=>by
  unfold zre at h;split at h
  ·rename_i hb
   rcases yAX.1 hp with rfl|hp
   ·exact hb
   ·exact znX h p hp
  ·cases h
theorem inPend_mem {mask:Nat} {p:Nat×Nat×AO}:∀{l:List (Nat×Nat×AO)},p∈zbD mask l↔p∈l/\bit mask p.1=true
 |[]=>by simp[zbD]
 |(i,q)::l=>by
  unfold zbD;split
  ·rename_i hb;rw[yAX,yAX,inPend_mem (l:=l)];constructor
   ·rintro(rfl|h)
    ·exact⟨.inl rfl,hb⟩
    ·exact⟨.inr h.1,h.2⟩
   ·rintro⟨rfl|h,h2⟩
    ·exact .inl rfl
    ·exact .inr ⟨h,h2⟩
  ·rename_i hb;rw[yAX,inPend_mem (l:=l)];constructor
   ·rintro⟨h,h2⟩;exact⟨.inr h,h2⟩
   ·rintro⟨rfl|h,h2⟩
    ·rw[hb] at h2;cases h2
    ·exact⟨h,h2⟩
theorem zbK {mask:Nat} {p:Nat×Nat×AO}:∀{l:List (Nat×Nat×AO)},p∈zcn mask l↔p∈l/\bit mask p.1=false
 |[]=>by simp[zcn]
 |(i,q)::l=>by
  unfold zcn;split
  ·rename_i hb;rw[yAX,zbK (l:=l)];constructor
   ·rintro⟨h,h2⟩;exact⟨.inr h,h2⟩
   ·rintro⟨rfl|h,h2⟩
    ·rw[hb] at h2;cases h2
    ·exact⟨h,h2⟩
  ·rename_i hb;rw[yAX,yAX,zbK (l:=l)];constructor
   ·rintro(rfl|h)
    ·exact⟨.inl rfl,hb⟩
    ·exact⟨.inr h.1,h.2⟩
   ·rintro⟨rfl|h,h2⟩
    ·exact .inl rfl
    ·exact .inr ⟨h,h2⟩
theorem zfv {h:T AO} {b:Nat} {o:AO}:∀{l:List (Nat×Nat×AO)},(merge h l).get b=some o->(∃j,(j,b,o)∈l)∨(h.get b=some o/\∀p∈l,p.2.1≠b)
 |[],hb=> .inr ⟨hb,by simp⟩
 |p::l,hb=>by
  have hb':((merge h l).put p.2.1 (some p.2.2)).get b=some o:=hb;rw[ydY] at hb';by_cases e:b=p.2.1
  ·rw[ygX e] at hb';cases hb';exact .inl ⟨p.1,by simp[e]⟩
  ·rw[yfX e] at hb'
   rcases zfv hb' with⟨j,hj⟩|⟨h1,h2⟩
   ·exact .inl ⟨j,by simp[hj]⟩
   ·refine .inr ⟨h1,λq hq=> ?_⟩
    rcases yAX.1 hq with rfl|hq
    ·exact Ne.symm e
    ·exact h2 q hq
theorem ztV {a b:Value} (h:vEq a b=true):a=b:=by
 unfold vEq at h;split at h
 ·rw[yiY] at h;rw[h]
 ·rw[ykX,yiY,yiY] at h;rw[h.1,h.2]
 ·rename_i x y;rw[yiY] at h;obtain⟨⟨dx⟩⟩:=x;obtain⟨⟨dy⟩⟩:=y;simp only at h;rw[h]
 ·rfl
 ·rfl
 ·rfl
 ·rfl
 ·cases h
mutual
theorem zr6 {m:Mp}:∀{a b:AV} {x:Value},avEq a b=true->R1 m a x->R1 m b x
 | .sc a, .sc b,x,h,hr=>by
  have:=ztV h;subst this;exact hr
 | .ptr a b, .ptr c d,x,h,hr=>by
  have h':(Nat.beq a c&&Nat.beq b d)=true:=h;rw[ykX] at h';rw[←yjX h'.1,←yjX h'.2];exact hr
 | .sl a b c d, .sl e f g i,x,h,hr=>by
  have h':(Nat.beq a e&&Nat.beq b f&&Nat.beq c g&&Nat.beq d i)=true:=h;simp only[ykX] at h';rw[←yjX h'.1.1.1,←yjX h'.1.1.2,←yjX h'.1.2,←yjX h'.2];exact hr
 | .so a b c d, .so e f g i,x,h,hr=>by
  have h':(Nat.beq a e&&Nat.beq b f&&Nat.beq c g&&Nat.beq d i)=true:=h;simp only[ykX] at h';rw[←yjX h'.1.1.1,←yjX h'.1.1.2,←yjX h'.1.2,←yjX h'.2];exact hr
 | .agg l, .agg l',x,h,hr=>by
  obtain⟨q,hq,e⟩:=hr;exact⟨q,zoq h hq,e⟩
 | .sc _, .ptr _ _,_,h,_| .sc _, .sl _ _ _ _,_,h,_| .sc _, .so _ _ _ _,_,h,_| .sc _, .fn _ _ _,_,h,_| .sc _, .agg _,_,h,_| .sc _, .tup _,_,h,_| .sc _, .ifc _ _,_,h,_=>by cases h
 | .ptr _ _, .sc _,_,h,_| .ptr _ _, .sl _ _ _ _,_,h,_| .ptr _ _, .so _ _ _ _,_,h,_| .ptr _ _, .fn _ _ _,_,h,_| .ptr _ _, .agg _,_,h,_| .ptr _ _, .tup _,_,h,_| .ptr _ _, .ifc _ _,_,h,_=>by cases h
 | .sl _ _ _ _, .sc _,_,h,_| .sl _ _ _ _, .ptr _ _,_,h,_| .sl _ _ _ _, .so _ _ _ _,_,h,_| .sl _ _ _ _, .fn _ _ _,_,h,_| .sl _ _ _ _, .agg _,_,h,_| .sl _ _ _ _, .tup _,_,h,_| .sl _ _ _ _, .ifc _ _,_,h,_=>by cases h
 | .so _ _ _ _, .sc _,_,h,_| .so _ _ _ _, .ptr _ _,_,h,_| .so _ _ _ _, .sl _ _ _ _,_,h,_| .so _ _ _ _, .fn _ _ _,_,h,_| .so _ _ _ _, .agg _,_,h,_| .so _ _ _ _, .tup _,_,h,_| .so _ _ _ _, .ifc _ _,_,h,_=>by cases h
 | .agg _, .sc _,_,h,_| .agg _, .ptr _ _,_,h,_| .agg _, .sl _ _ _ _,_,h,_| .agg _, .so _ _ _ _,_,h,_| .agg _, .fn _ _ _,_,h,_| .agg _, .tup _,_,h,_| .agg _, .ifc _ _,_,h,_=>by cases h
 | .fn _ _ _,b,_,h,_=>by cases b<;>cases h
 | .tup _,b,_,h,_=>by cases b<;>cases h
 | .ifc _ _,b,_,h,_=>by cases b<;>cases h
 | .any,b,_,h,_=>by cases b<;>cases h
 | .lst _ _ _,b,_,h,_=>by cases b<;>cases h
 | .cp _ _,b,_,h,_=>by cases b<;>cases h
 | .sc _, .any,_,h,_| .sc _, .lst _ _ _,_,h,_| .sc _, .cp _ _,_,h,_=>by cases h
 | .ptr _ _, .any,_,h,_| .ptr _ _, .lst _ _ _,_,h,_| .ptr _ _, .cp _ _,_,h,_=>by cases h
 | .sl _ _ _ _, .any,_,h,_| .sl _ _ _ _, .lst _ _ _,_,h,_| .sl _ _ _ _, .cp _ _,_,h,_=>by cases h
 | .so _ _ _ _, .any,_,h,_| .so _ _ _ _, .lst _ _ _,_,h,_| .so _ _ _ _, .cp _ _,_,h,_=>by cases h
 | .agg _, .any,_,h,_| .agg _, .lst _ _ _,_,h,_| .agg _, .cp _ _,_,h,_=>by cases h
theorem zoq {m:Mp}:∀{a b:List AV} {x:List Value},avEq.avsEq a b=true->Rl m a x->Rl m b x
 |[],[],_,_,hr=>hr
 |[],_::_,_,h,_=>by cases h
 |_::_,[],_,h,_=>by cases h
 |a::l,b::l',_,h,⟨y,ys,e,h1,h2⟩=>by
  have h':(avEq a b&&avEq.avsEq l l')=true:=h;rw[ykX] at h';exact⟨y,ys,e,zr6 h'.1 h1,zoq h'.2 h2⟩
end
structure Tr (P:Program) (ops:Array Oper) (op:Nat->Oper) (D:Nat->DS):Prop where
 hop:∀j,j<ops.size->ops[j]? =some (op j)
 step:∀j,j<ops.size->zgE P ops.toList (D j) j (op j) (maskAt ops j) (D (j+1))
 back:∀j,j<ops.size->∀e∈(op j).after.toList,Region.binds .any e=true->e.on<j
 dst:∀i j,i<j->j<ops.size->∀d,(op i).dst=some d->(op j).dst≠some d
 rd:∀i j,i<j->j<ops.size->bit (maskAt ops j) i=false->(∀d,(op i).dst=some d->d∉(op j).looksAt ops)/\(∀d,(op j).dst=some d->d∉(op i).looksAt ops)
 pend0:(D 0).pend=[]
theorem Tr.of {P:Program} {run:Job->R Out} (hr:RunOk P run) {ops:Array Oper} {t t':Tm} {s s':St} (h:zvW P run ops t s= .ok (t',s')):∃op D,Tr P ops op D/\D 0=⟨t,s.h,s.n,[],[],[]⟩/\t'=(D ops.size).t/\s'=⟨merge (D ops.size).h (D ops.size).pend,(D ops.size).n⟩:=by
 obtain⟨hd,h⟩:=zav h;obtain⟨d,hl,h⟩:=zaf h;cases h;obtain⟨D,h0,h1,h2⟩:=zog hr hl;simp only[ylX,y0Z] at h1 h2
 have hop:∀j,j<ops.size->ops[j]? =some ((ops[j]?).getD default):=λj hj=>by simp[hj]
 have hop':∀j,j<ops.size->ops.toList[j]? =some ((ops[j]?).getD default):=λj hj=>by simp[hj]
 have chk:∀j,j<ops.size->_:=λj hj=>zf8 hd j _ (hop' j hj);simp only[ylX,yAY] at chk
 have pr:∀i j,i<j->j<ops.size->zoL (Oper.looksAt ops) i ((ops[i]?).getD default) ((ops[j]?).getD default) (maskAt ops j)=true:=λi j hi hj=>by
  have:=zeS (chk j hj).2 i ((ops[i]?).getD default) (by rw[yNX,ygX hi];exact hop' i zo);unfold maskAt;simpa using this
 refine⟨λj=>(ops[j]?).getD default,D,⟨hop,λj hj=>h2 j _ (hop' j hj),λj hj=>zeC (chk j hj).1,λi j hi hj=>(zep (pr i j hi hj)).1,λi j hi hj=>(zep (pr i j hi hj)).2,by rw[h0]⟩,h0,by rw[h1],by rw[h1]⟩
def Hv (D:Nat->DS) (j:Nat):Prop:=(D (j+1)).hv≠(D j).hv
def Lb (D:Nat->DS) (j b:Nat) (o:AO):Prop:=¬Hv D j/\(D (j+1)).pend=(j,b,o)::(D j).pend
section
variable {P : Program} {run : Job -> R Out} {ops : Array Oper} {op : Nat -> Oper} {D : Nat -> DS}
theorem Tr.light (H:Tr P ops op D) {j:Nat} (hj:j<ops.size) (h:¬Hv D j):(D (j+1)).h=(D j).h/\(((D (j+1)).n=(D j).n/\(D (j+1)).pend=(D j).pend)∨∃ao,(D (j+1)).n=(D j).n+1/\(D (j+1)).pend=(j,(D j).n,ao)::(D j).pend):=by
 unfold Hv at h;obtain⟨t',v,hput,⟨hg,rfl,e⟩|⟨hg,⟨s,ho,hn,e⟩|⟨s,ao,ho,hn,hb,e⟩|⟨ty,x,b,off,hop,hx,hl,hold,e⟩|⟨s',hhv,ho,hn,hnew,e⟩⟩⟩:=H.step j hj<;>rw[e] at h⊢
 ·exact⟨rfl, .inl ⟨rfl,rfl⟩⟩
 ·exact⟨rfl, .inl ⟨rfl,rfl⟩⟩
 ·exact⟨rfl, .inr ⟨ao,hn,rfl⟩⟩
 ·exact⟨rfl, .inl ⟨rfl,rfl⟩⟩
 ·exact absurd (y9Y _ _) h
theorem Tr.heavy (H:Tr P ops op D) {j:Nat} (hj:j<ops.size) (h:Hv D j):zre (maskAt ops j) (D j).hv=true/\(D (j+1)).hv=(j,(D j).h)::(D j).hv/\ztP P (D (j+1)).h (maskAt ops j) (D j).lds/\(D (j+1)).pend=zcn (maskAt ops j) (D j).pend/\(D j).n<=(D (j+1)).n:=by
 unfold Hv at h;obtain⟨t',v,hput,⟨hg,rfl,e⟩|⟨hg,⟨s,ho,hn,e⟩|⟨s,ao,ho,hn,hb,e⟩|⟨ty,x,b,off,hop,hx,hl,hold,e⟩|⟨s',hhv,ho,hn,hnew,e⟩⟩⟩:=H.step j hj<;>rw[e] at h⊢
 ·exact absurd rfl h
 ·exact absurd rfl h
 ·exact absurd rfl h
 ·exact absurd rfl h
 ·exact⟨hhv,rfl,hnew,rfl,hn⟩
theorem Tr.put (H:Tr P ops op D) {j:Nat} (hj:j<ops.size):∃v,(D j).t.put (op j).dst v= .ok (D (j+1)).t:=by
 obtain⟨t',v,hput,⟨hg,rfl,e⟩|⟨hg,⟨s,ho,hn,e⟩|⟨s,ao,ho,hn,hb,e⟩|⟨ty,x,b,off,hop,hx,hl,hold,e⟩|⟨s',hhv,ho,hn,hnew,e⟩⟩⟩:=H.step j hj<;>rw[e]<;>exact⟨_,hput⟩
theorem Tr.lds (H:Tr P ops op D) {j:Nat} (hj:j<ops.size) {p:Nat×TypeId×Nat×Nat×AV} (hp:p∈(D j).lds):p∈(D (j+1)).lds:=by
 obtain⟨t',v,hput,⟨hg,rfl,e⟩|⟨hg,⟨s,ho,hn,e⟩|⟨s,ao,ho,hn,hb,e⟩|⟨ty,x,b,off,hop,hx,hl,hold,e⟩|⟨s',hhv,ho,hn,hnew,e⟩⟩⟩:=H.step j hj<;>rw[e]
 ·exact hp
 ·exact hp
 ·exact hp
 ·exact ycY _ hp
 ·exact hp
theorem Tr.hvs (H:Tr P ops op D) {j:Nat} (hj:j<ops.size):(Hv D j/\(D (j+1)).hv=(j,(D j).h)::(D j).hv)∨(¬Hv D j/\(D (j+1)).hv=(D j).hv):=by
 by_cases h:Hv D j
 ·exact .inl ⟨h,(H.heavy hj h).2.1⟩
 ·exact .inr ⟨h,Classical.not_not.1 h⟩
theorem Tr.n1 (H:Tr P ops op D) {j:Nat} (hj:j<ops.size):(D j).n<=(D (j+1)).n:=by
 by_cases h:Hv D j
 ·exact(H.heavy hj h).2.2.2.2
 ·rcases(H.light hj h).2 with⟨h,_⟩|⟨_,h,_⟩<;>omega
theorem Tr.nle (H:Tr P ops op D):∀k j,j+k<=ops.size->(D j).n<=(D (j+k)).n
 |0,j,_=>yhX _
 |k+1,j,h=>yBX (H.nle k j zo) (H.n1 zo)
theorem Tr.nl (H:Tr P ops op D) {i j:Nat} (h:j<=i) (hi:i<=ops.size):(D j).n<=(D i).n:=by
 have:=H.nle (i-j) j zo
 rwa [show j+(i-j)=i by omega] at this
theorem Tr.lb (H:Tr P ops op D) {j b:Nat} {o:AO} (hj:j<ops.size) (h:Lb D j b o):b=(D j).n/\(D (j+1)).n=b+1:=by
 obtain⟨h1,h2⟩:=h
 rcases(H.light hj h1).2 with⟨_,h3⟩|⟨ao,h3,h4⟩
 ·rw[h3] at h2;exact absurd h2 (Ne.symm (y9Y _ _))
 ·rw[h4] at h2;cases h2;exact⟨rfl,h3⟩
theorem Tr.lb_one (H:Tr P ops op D) {i j b:Nat} {o o':AO} (hi:i<ops.size) (hj:j<ops.size) (h:Lb D i b o) (h':Lb D j b o'):i=j:=by
 obtain⟨h1,h2⟩:=H.lb hi h;obtain⟨h3,h4⟩:=H.lb hj h'
 rcases Nat.lt_trichotomy i j with hlt|rfl|hlt
 ·have:=H.nl (show i+1<=j from hlt) zo;omega
 ·rfl
 ·have:=H.nl (show j+1<=i from hlt) zo;omega
theorem Tr.hv_mem (H:Tr P ops op D) {i:Nat} (h:Hv D i):∀c,i<c->c<=ops.size->(i,(D i).h)∈(D c).hv
 |0,h1,_=>zo
 |c+1,h1,h2=>by
  by_cases e:i=c
  ·subst e;rw[(H.heavy zo h).2.1];simp
  ·have ih:=H.hv_mem h c zo zo
   rcases H.hvs (j:=c) zo with⟨_,e2⟩|⟨_,e2⟩<;>rw[e2]
   ·exact ycY _ ih
   ·exact ih
theorem Tr.lds_mem (H:Tr P ops op D) {i:Nat} {p:Nat×TypeId×Nat×Nat×AV} (h:p∈(D i).lds):∀k,i+k<=ops.size->p∈(D (i+k)).lds
 |0,_=>h
 |k+1,h2=>H.lds (j:=i+k) zo (H.lds_mem h k zo)
theorem Tr.first (H:Tr P ops op D) (c:Nat):∀k,c+k<=ops.size->(D (c+k)).h=(D c).h∨∃i,c<=i/\i<c+k/\Hv D i/\(D i).h=(D c).h
 |0,_=> .inl rfl
 |k+1,h=>by
  rcases H.first c k zo with ih|⟨i,h1,h2,h3⟩
  ·by_cases hv:Hv D (c+k)
   ·exact .inr ⟨c+k,zo,zo,hv,ih⟩
   ·exact .inl ((H.light (j:=c+k) zo hv).1.trans ih)
  ·exact .inr ⟨i,h1,zo,h3⟩
theorem Tr.last (H:Tr P ops op D) (c:Nat):∀k,c+k<=ops.size->(D (c+k)).h=(D c).h∨∃i,c<=i/\i<c+k/\Hv D i/\(D (c+k)).h=(D (i+1)).h
 |0,_=> .inl rfl
 |k+1,h=>by
  by_cases hv:Hv D (c+k)
  ·exact .inr ⟨c+k,zo,zo,hv,rfl⟩
  ·have e:=(H.light (j:=c+k) zo hv).1
   rcases H.last c k zo with ih|⟨i,h1,h2,h3,h4⟩
   ·exact .inl (e.trans ih)
   ·exact .inr ⟨i,h1,zo,h3,e.trans h4⟩
theorem Tr.pends (H:Tr P ops op D) (c:Nat) (j b:Nat) (o:AO):∀k,c+k<=ops.size->(∀i,c<=i->i<c+k->¬Hv D i)->(D (c+k)).h=(D c).h/\((j,b,o)∈(D (c+k)).pend↔(j,b,o)∈(D c).pend∨(c<=j/\j<c+k/\Lb D j b o))
 |0,_,_=>⟨rfl,by constructor;exact .inl;rintro(h|h);exact h;omega⟩
 |k+1,h,hn=>by
  obtain⟨ih1,ih2⟩:=H.pends c j b o k zo λi h1 h2=>hn i h1 zo;have hv:=hn (c+k) zo zo;obtain⟨e1,e2⟩:=H.light (j:=c+k) zo hv;refine⟨e1.trans ih1,?_⟩;show(j,b,o)∈(D (c+k+1)).pend↔_
  rcases e2 with⟨_,e2⟩|⟨ao,e3,e2⟩
  ·rw[e2,ih2];constructor
   ·rintro(h|⟨h1,h2,h3⟩)
    ·exact .inl h
    ·exact .inr ⟨h1,zo,h3⟩
   ·rintro(h|⟨h1,h2,h3⟩)
    ·exact .inl h
    ·by_cases e:j=c+k
     ·subst e;rw[h3.2] at e2;exact absurd e2 (y9Y _ _)
     ·exact .inr ⟨h1,zo,h3⟩
  ·rw[e2,yAX,ih2];constructor
   ·rintro(h|h|⟨h1,h2,h3⟩)
    ·cases h;exact .inr ⟨zo,zo,hv,e2⟩
    ·exact .inl h
    ·exact .inr ⟨h1,zo,h3⟩
   ·rintro(h|⟨h1,h2,h3⟩)
    ·exact .inr (.inl h)
    ·by_cases e:j=c+k
     ·subst e;have:=h3.2;rw[e2] at this;cases this;exact .inl rfl
     ·exact .inr (.inr ⟨h1,zo,h3⟩)
theorem Tr.pend_old (H:Tr P ops op D) {j b:Nat} {o:AO}:∀c,c<=ops.size->(j,b,o)∈(D c).pend->j<c/\Lb D j b o
 |0,_,h=>by rw[H.pend0] at h;simp at h
 |c+1,hc,h=>by
  by_cases hv:Hv D c
  ·rw[(H.heavy zo hv).2.2.2.1,zbK] at h;obtain⟨h1,h2⟩:=H.pend_old c zo h.1;exact⟨zo,h2⟩
  ·rcases(H.pends c j b o 1 zo λi h1 h2=>by rwa [show i=c by omega]).2.1 h with h|⟨h1,h2,h3⟩
   ·obtain⟨h1,h2⟩:=H.pend_old c zo h;exact⟨zo,h2⟩
   ·exact⟨zo,h3⟩
theorem Tr.pend_stay (H:Tr P ops op D) {i b:Nat} {o:AO} (hl:Lb D i b o):∀c,i<c->c<=ops.size->(∀k,i<k->k<c->Hv D k->bit (maskAt ops k) i=false)->(i,b,o)∈(D c).pend
 |0,h,_,_=>zo
 |c+1,h,hc,hk=>by
  by_cases e:i=c
  ·subst e;rw[hl.2];simp
  ·have ih:=H.pend_stay hl c zo zo λk h1 h2=>hk k h1 zo;by_cases hv:Hv D c
   ·rw[(H.heavy zo hv).2.2.2.1,zbK];exact⟨ih,hk c zo zo hv⟩
   ·exact(H.pends c i b o 1 zo λk h1 h2=>by rwa [show k=c by omega]).2.2 (.inl ih)
end
end Go.Ex
namespace Go.Ex
open Go
section
variable {t t' t1 : Tm} {dst : Option Tmp} {v : AV} {d : Tmp}
theorem zw4 (h:t.put dst v= .ok t'):t'.n=t.n:=by
 cases dst with
 |none=>cases h;rfl
 |some d=>exact(zhr h).2.1
theorem zhq (h:t.put dst v= .ok t') (hd:dst≠some d):t'.get d=t.get d:=by
 cases dst with
 |none=>cases h;rfl
 |some e=>
  rw[(zhr h).2.2 d,yfX];intro e';exact hd (by rw[e'])
theorem zt9 (h:t.put (some d) v= .ok t'):t'.get d=v:=by
 rw[(zhr h).2.2 d,ygX rfl]
theorem zsO (h:t.put dst v= .ok t') (hn:t1.n=t.n):∃t2,t1.put dst v= .ok t2:=by
 cases dst with
 |none=>exact⟨t1,rfl⟩
 |some d=>
  have hlt:=(zhr h).1;unfold Tm.put;simp only;split
  ·exact⟨_,rfl⟩
  ·rename_i hb;rw[hn] at hb
   have:Nat.blt d t.n=true:=by
    rw[Nat.blt_eq];exact hlt
   rw[this] at hb;cases hb
end
section
variable {P : Program} {run : Job -> R Out} {ops : Array Oper} {op : Nat -> Oper} {D : Nat -> DS} {L : Nat -> Prop} {t : Tm} {i : Nat}
theorem Tr.tn (H:Tr P ops op D):∀k,k<=ops.size->(D k).t.n=(D 0).t.n
 |0,_=>rfl
 |k+1,h=>by
  obtain⟨v,hp⟩:=H.put (j:=k) zo;rw[zw4 hp];exact H.tn k zo
theorem Tr.tsame (H:Tr P ops op D) {d:Tmp} (i:Nat):∀k,i+k<=ops.size->(∀j,i<=j->j<i+k->(op j).dst≠some d)->(D (i+k)).t.get d=(D i).t.get d
 |0,_,_=>rfl
 |k+1,h,hn=>by
  obtain⟨v,hp⟩:=H.put (j:=i+k) zo;exact(zhq hp (hn (i+k) zo zo)).trans (H.tsame i k zo λj h1 h2=>hn j h1 zo)
structure Tp (ops:Array Oper) (op:Nat->Oper) (D:Nat->DS) (L:Nat->Prop) (t:Tm):Prop where
 n:t.n=(D 0).t.n
 un:∀j,j<ops.size->¬L j->∀d,(op j).dst=some d->t.get d=(D 0).t.get d
 li:∀d,(∀j,j<ops.size->(op j).dst=some d->L j)->t.get d=(D ops.size).t.get d
theorem ziZ {mask j:Nat} (h:bit mask j=true->False):bit mask j=false:=by
 cases h':bit mask j with
 |false=>rfl
 |true=>exact(h h').elim
theorem Tp.look (ht:Tp ops op D L t) (H:Tr P ops op D) (hi:i<ops.size) (hL:¬L i) (hcl:∀k,k<ops.size->L k->∀j,bit (maskAt ops k) j=true->L j) (hm:∀j,bit (maskAt ops i) j=true->L j):∀d∈(op i).looksAt ops,t.get d=(D i).t.get d:=by
 intro d hd;by_cases hc:∃j,j<ops.size/\¬L j/\(op j).dst=some d
 ·obtain⟨j,hj,hLj,hdj⟩:=hc
  have hij:i<=j:=by
   apply yrZ;intro hlt;exact(H.rd j i zo hi (ziZ λh=>hLj (hm j h))).1 d hdj hd
  rw[ht.un j hj hLj d hdj];have:=H.tsame (d:=d) 0 i zo λk h1 h2 e=>H.dst k j zo hj d e hdj;rw[ylX] at this;exact this.symm
 ·have hall:∀j,j<ops.size->(op j).dst=some d->L j:=λj hj e=>yrZ λh=>hc ⟨j,hj,h,e⟩;rw[ht.li d hall]
  have:=H.tsame (d:=d) i (ops.size-i) zo λk h1 h2 e=>by
   have hk:=hall k zo e;have hne:i≠k:=λe'=>hL (e'▸hk);exact(H.rd i k zo zo (ziZ λh=>hL (hcl k zo hk i h))).2 d e hd
  rwa [show i+(ops.size-i)=ops.size by omega] at this
theorem Tp.put (ht:Tp ops op D L t) (H:Tr P ops op D) (hi:i<ops.size) {v:AV} (hp:(D i).t.put (op i).dst v= .ok (D (i+1)).t):∃t1,t.put (op i).dst v= .ok t1/\Tp ops op D (λj=>L j∨j=i) t1:=by
 obtain⟨t1,h1⟩:=zsO hp (ht.n.trans (H.tn i zo).symm);refine⟨t1,h1,⟨(zw4 h1).trans ht.n,λj hj hLj d hd=> ?_,λd hd=> ?_⟩⟩
 ·have hne:(op i).dst≠some d:=by
   intro e
   rcases Nat.lt_trichotomy i j with h|h|h
   ·exact H.dst i j h hj d e hd
   ·exact hLj (.inr h.symm)
   ·exact H.dst j i h hi d hd e
  rw[zhq h1 hne];exact ht.un j hj (λh=>hLj (.inl h)) d hd
 ·by_cases e:(op i).dst=some d
  ·rw[e] at h1 hp;rw[zt9 h1];have:=H.tsame (d:=d) (i+1) (ops.size-(i+1)) zo λk hk1 hk2 e'=>H.dst i k zo zo d e e';rw[show i+1+(ops.size-(i+1))=ops.size by omega] at this;rw[this,zt9 hp]
  ·rw[zhq h1 e];refine ht.li d λj hj hd'=> ?_
   rcases hd j hj hd' with h|rfl
   ·exact h
   ·exact absurd hd' e
end
structure Stg (ops:Array Oper) (op:Nat->Oper) (D:Nat->DS) (m0:Mp) (F0:AH) (w0:World) (L:Nat->Prop) (a:Act) (w:World) (c:Nat) (m:Mp) (t:Tm) (X:AH):Prop where
 hc:c<=ops.size
 h1:∀i,i<c->Hv D i->L i
 h2:∀i,c<=i->i<ops.size->Hv D i->¬L i
 cl:∀i,i<ops.size->L i->∀j,bit (maskAt ops i) j=true->L j
 tp:Tp ops op D L t
 fit:Fit m t a
 de:a.defers=[]
 xs:∀b o,X b=some o↔∃j,j<ops.size/\L j/\Lb D j b o/\(j<c->(j,b,o)∈(D c).pend)
 dis:∀b o,(D c).h.get b=some o->X b=none
 g:G F0 (orH X (D c).h.get) m0 m w0 w
 ext:∀b,b<(D 0).n∨(D ops.size).n<=b->m b=m0 b
 fr:∀j,j<ops.size->¬L j->Fresh m (D j).n (D (j+1)).n
section
variable {P : Program} {run : Job -> R Out} {ops : Array Oper} {op : Nat -> Oper} {D : Nat -> DS} {L : Nat -> Prop} {t : Tm} {i c : Nat} {m0 m m1 : Mp} {F0 X X' : AH} {w0 w w1 : World} {a : Act} {Q : Exit -> Act -> World -> Prop}
theorem Stg.next (S:Stg ops op D m0 F0 w0 L a w c m t X) (H:Tr P ops op D) (hi:i<ops.size) (hm:∀j,bit (maskAt ops i) j=true->L j) {v:AV} (hput:(D i).t.put (op i).dst v= .ok (D (i+1)).t)
  {x:Value} {c':Nat} (hx:R1 m1 v x) (hg:G (orH X (D c).h.get) (orH X' (D c').h.get) m m1 w w1) (hext:MExt m m1 (D i).n (D (i+1)).n) (hc':c'<=ops.size)
  (h1:∀k,k<c'->Hv D k->L k∨k=i) (h2:∀k,c'<=k->k<ops.size->Hv D k->¬(L k∨k=i))
  (hX:∀b o,X' b=some o↔∃j,j<ops.size/\(L j∨j=i)/\Lb D j b o/\(j<c'->(j,b,o)∈(D c').pend)) (hdis:∀b o,(D c').h.get b=some o->X' b=none):
  ∃t1,Stg ops op D m0 F0 w0 (λj=>L j∨j=i) (a.put (op i).dst x) w1 c' m1 t1 X':=by
 obtain⟨t1,hp,htp⟩:=S.tp.put H hi hput;refine⟨t1,⟨hc',h1,h2,λk hk hLk j hb=> ?_,htp,(S.fit.mono hg.mle).put hp hx,by rw[put_defers,S.de],hX,hdis,S.g.trans hg,λb hb=> ?_,λj hj hLj b hb1 hb2=> ?_⟩⟩
 ·rcases hLk with h|rfl
  ·exact .inl (S.cl k hk h j hb)
  ·exact .inl (hm j hb)
 ·have e1:=H.nl (show 0<=i by omega) zo;have e2:=H.nl (show i+1<=ops.size by omega) (yhX _);rw[hext b zo];exact S.ext b hb
 ·have hne:j≠i:=λe=>hLj (.inr e)
  have e:m1 b=m b:=by
   apply hext
   rcases Nat.lt_or_gt_of_ne hne with h|h
   ·have:=H.nl (show j+1<=i from h) zo;omega
   ·have:=H.nl (show i+1<=j from h) zo;omega
  rw[e];exact S.fr j hj (λh=>hLj (.inl h)) b hb1 hb2
theorem Stg.same (S:Stg ops op D m0 F0 w0 L a w c m t X) (H:Tr P ops op D) (hi:i<ops.size) (hm:∀j,bit (maskAt ops i) j=true->L j) {v:AV} (hput:(D i).t.put (op i).dst v= .ok (D (i+1)).t)
  {x:Value} (hx:R1 m1 v x) (hg:G (orH X (D c).h.get) (orH X (D c).h.get) m m1 w w1) (hext:MExt m m1 (D i).n (D (i+1)).n) (hnh:¬Hv D i) (hnb:∀b o,¬Lb D i b o):
  ∃t1,Stg ops op D m0 F0 w0 (λj=>L j∨j=i) (a.put (op i).dst x) w1 c m1 t1 X:=by
 refine S.next H hi hm hput hx hg hext S.hc (λk h1 h2=> .inl (S.h1 k h1 h2)) (λk h1 h2 h3 h4=> ?_) (λb o=> ?_) S.dis
 ·rcases h4 with h4|rfl
  ·exact S.h2 k h1 h2 h3 h4
  ·exact hnh h3
 ·rw[S.xs b o];constructor
  ·rintro⟨j,q1,q2,q3⟩;exact⟨j,q1, .inl q2,q3⟩
  ·rintro⟨j,q1,q2|rfl,q3⟩
   ·exact⟨j,q1,q2,q3⟩
   ·exact absurd q3.1 (hnb b o)
theorem zi7 {o:Oper} {s s':St} {v:AV} {K:Act->World->Prop} (ho:ops[i]? =some o) (hg:zcr ops.toList t o=some true) (hf:Fit m t a) (hok:Ok m s.h.get w) (hfr:Fresh m s.n s'.n) (h:Op1 P t s o v s')
  (hK:∀x w' m',Goes s.h.get s'.h.get s.n s'.n m m' w w'->R1 m' v x->K (a.put o.dst x) w'):wpOp P ops Q i K a w:=by
 unfold wpOp;rw[ho];simp only;rw[zdw hf hg,ygX rfl];refine .inl ?_;unfold Oper.wp
 rcases h with hop|⟨f,args,hop,hcall⟩
 ·obtain⟨x,w1,m1,hrn,hgo,hv⟩:=zeq hop hf.ev hok hfr;have hk:=hK x w1 m1 hgo hv
  rcases hrn with hrn|⟨hrn,rfl⟩
  ·rw[hrn];exact hk
  ·rw[hrn];exact hk
 ·obtain⟨args',hrn,ha⟩:=zeq hop hf.ev hok;have hc:=hcall m w args' ha hok hfr;rw[hrn];refine Calls.mono hc ?_;rintro e w1 ⟨y,m1,rfl,hgo,hv⟩;exact hK _ _ _ hgo hv
theorem Op1.congr {t t':Tm} {s s':St} {o:Oper} {v:AV} (h:Op1 P t s o v s') (he:∀x∈o.op.operands,ev t' x=ev t x):Op1 P t' s o v s':=by
 unfold Op1 at*
 rw[zmu he];exact h
theorem zsU (F:AH):orH F (λ_=>none)=F:=by
 funext b
 unfold orH;cases F b<;>rfl
theorem Stg.step (S:Stg ops op D m0 F0 w0 L a w c m t X) (H:Tr P ops op D) (hi:i<ops.size) (hL:¬L i) (hm:∀j,bit (maskAt ops i) j=true->L j) {K:Act->World->Prop}
  (hK:∀a' w' c' m' t' X',Stg ops op D m0 F0 w0 (λj=>L j∨j=i) a' w' c' m' t' X'->K a' w'):wpOp P ops Q i K a w:=by
 have hlook:=S.tp.look H hi hL S.cl hm;have hev:∀x∈(op i).op.operands,ev t x=ev (D i).t x:=λx hx=>zjR hlook hx;have hgd:=guard_congr (o:=op i) hlook;have ho:=H.hop i hi;obtain⟨t',v,hput,hs⟩:=H.step i hi
 rcases hs with⟨hg,rfl,e⟩|⟨hg,⟨s,hop,hn,e⟩|⟨s,ao,hop,hn,hb,e⟩|⟨ty,x,b,off,hop,hx,hl,hold,e⟩|⟨s',hhv,hop,hn,hnew,e⟩⟩
 ·--left out
  have ht:(D (i+1)).t=t':=by rw[e]
  rw[←ht] at hput;obtain⟨t1,S'⟩:=S.same (m1:=m) (w1:=w) (x:=undef) H hi hm hput rfl (G.refl S.g.ok) (λ_ _=>rfl) (λh=>h (by rw[e])) (λb o h=>y9Y _ _ (h.2.symm.trans (by rw[e])));unfold wpOp;rw[ho];simp only;rw[zdw S.fit (hgd.trans hg),yfX yFY];exact hK _ _ _ _ _ _ S'
 ·--no block
  have ht:(D (i+1)).t=t':=by rw[e]
  have hn1:(D (i+1)).n=(D i).n:=by rw[e]
  rw[←ht] at hput;refine zi7 (s:=⟨.e,(D i).n⟩) (s':=s) ho (hgd.trans hg) S.fit (S.g.ok.sub λb o h=>(by cases h)) (λb h1 h2=>absurd h2 (by rw[hn];exact Nat.not_lt.2 h1)) (Op1.congr hop hev) ?_;intro x w1 m1 hgo hx
  have hG:=(hgo.g λb h1 h2=>absurd h2 (by rw[hn];exact Nat.not_lt.2 h1)).sub (F'':=λ_=>none) λb o h=>by cases h
  obtain⟨hG2,_⟩:=G.frame (FL:=orH X (D c).h.get) (X:=orH X (D c).h.get) S.g.ok (λ_ _ h=>h) (λb o h=>by cases h) (λb o h=>by cases h) hG;rw[zsU] at hG2;have hx1:=hgo.ext;rw[hn] at hx1;obtain⟨t1,S'⟩:=S.same H hi hm hput hx hG2 (by rw[hn1];exact hx1) (λh=>h (by rw[e])) (λb o h=>y9Y _ _ (h.2.symm.trans (by rw[e])));exact hK _ _ _ _ _ _ S'
 ·--a block beside
  have ht:(D (i+1)).t=t':=by rw[e]
  have hn1:(D (i+1)).n=s.n:=by rw[e]
  have hnh:¬Hv D i:=λh=>h (by rw[e])
  have hlb:Lb D i (D i).n ao:=⟨hnh,by rw[e]⟩
  have hfr:Fresh m (D i).n s.n:=by
   have:=S.fr i hi hL
   rwa [hn1] at this
  rw[←ht] at hput;refine zi7 (s:=⟨.e,(D i).n⟩) (s':=s) ho (hgd.trans hg) S.fit (S.g.ok.sub λb o h=>(by cases h)) hfr (Op1.congr hop hev) ?_;intro x w1 m1 hgo hx
  have hG:=(hgo.g hfr).sub (F'':=λb=>if b=(D i).n then some ao else none) λb o h=>by
   split at h
   ·rename_i e';cases h;rw[e'];exact hb
   ·cases h
  obtain⟨hG2,hd2⟩:=G.frame (FL:=orH X (D c).h.get) (X:=orH X (D c).h.get) S.g.ok (λ_ _ h=>h) (λb o h=>by cases h) (λb o h=>by cases h) hG;have hno:orH X (D c).h.get (D i).n=none:=hd2 (D i).n ao (by simp)
  have hXn:X (D i).n=none:=by
   cases h:X (D i).n with
   |none=>rfl
   |some o=>rw[zhz h] at hno;cases hno
  have hHn:(D c).h.get (D i).n=none:=by rw[zhA hXn] at hno;exact hno
  have heq:orH (orH X (D c).h.get) (λb=>if b=(D i).n then some ao else none)=orH (λb=>if b=(D i).n then some ao else X b) (D c).h.get:=by
   funext b
   by_cases eb:b=(D i).n
   ·subst eb;rw[zhA hno,zhz (o:=ao) (by simp)];simp
   ·cases h:X b with
    |none=>
     rw[zhA (X:=λb=>if b=(D i).n then some ao else X b) (by simp[eb,h])]
     cases h2:(D c).h.get b with
     |none=>rw[zhA (by rw[zhA h,h2])];simp[eb]
     |some o=>rw[zhz (by rw[zhA h,h2])]
    |some o=>rw[zhz (zhz h),zhz (o:=o) (by simp[eb,h])]
  rw[heq] at hG2
  obtain⟨t1,S'⟩:=S.next H hi hm hput hx hG2 (by rw[hn1];exact hgo.ext) S.hc (λk q1 q2=> .inl (S.h1 k q1 q2)) (λk q1 q2 q3 q4=>by
    rcases q4 with q4|rfl
    ·exact S.h2 k q1 q2 q3 q4
    ·exact hnh q3) (λb o=>by
    constructor
    ·intro hq;by_cases eb:b=(D i).n
     ·subst eb;simp at hq;subst hq;exact⟨i,hi, .inr rfl,hlb,λhic=>H.pend_stay hlb c hic S.hc λk q1 q2 q3=>ziZ λq4=>hL (S.cl k (ywY q2 S.hc) (S.h1 k q2 q3) i q4)⟩
     ·simp only[yfX eb] at hq;obtain⟨j,q1,q2,q3⟩:=(S.xs b o).1 hq;exact⟨j,q1, .inl q2,q3⟩
    ·rintro⟨j,q1,q2|rfl,q3,q4⟩
     ·have hq:=(S.xs b o).2 ⟨j,q1,q2,q3,q4⟩
      have eb:b≠(D i).n:=λe'=>by rw[e',hXn] at hq;cases hq
      simp only[yfX eb];exact hq
     ·have q5:=q3.2;rw[hlb.2] at q5;cases q5
      simp) (λb o hq=>by
    have eb:b≠(D i).n:=λe'=>by rw[e',hHn] at hq;cases hq
    simp only[yfX eb]
    exact S.dis b o hq)
  exact hK _ _ _ _ _ _ S'
 ·--a load
  have ht:(D (i+1)).t=t':=by rw[e]
  have hn1:(D (i+1)).n=(D i).n:=by rw[e]
  rw[←ht] at hput
  have hnow:∃v',zcw P ⟨(D c).h,0⟩ ty b off= .ok v'/\(avEq v' v=true∨v'=v):=by
   rcases yeY i c with hic|hic
   ·have hrec:(i,ty,b,off,v)∈(D (i+1)).lds:=by rw[e];simp
    have hh:(D (i+1)).h=(D i).h:=by rw[e]
    rcases H.last (i+1) (c-(i+1)) (by have:=S.hc;omega) with hsame|⟨k,q1,q2,q3,q4⟩
    ·rw[show i+1+(c-(i+1))=c by omega,hh] at hsame;rw[hsame];exact⟨v,hl, .inr rfl⟩
    ·rw[show i+1+(c-(i+1))=c by omega] at q4;have hkc:k<c:=zo;have hks:k<ops.size:=ywY hkc S.hc;have hin:=H.lds_mem hrec (k-(i+1)) zo;rw[show i+1+(k-(i+1))=k by omega] at hin;obtain⟨v',w1,w2⟩:=(H.heavy hks q3).2.2.1 _ hin (ziZ λq5=>hL (S.cl k hks (S.h1 k hkc q3) i q5));rw[q4];exact⟨v',w1,w2⟩
   ·rcases H.first c (i-c) zo with hsame|⟨k,q1,q2,q3,q4⟩
    ·rw[show c+(i-c)=i by omega] at hsame;rw[←hsame];exact⟨v,hl, .inr rfl⟩
    ·have hks:k<ops.size:=zo;obtain⟨v',w1,w2⟩:=hold _ (H.hv_mem q3 i zo zo) (ziZ λq5=>S.h2 k q1 hks q3 (hm k q5));rw[←q4];exact⟨v',w1,w2⟩
  obtain⟨v',hl',hv'⟩:=hnow
  have hxt:ev t x= .ptr b off:=by rw[hev x (by rw[hop];simp[Op.operands]),hx]
  have hone:za7 P t ⟨(D c).h,0⟩ (op i)= .ok (.val v' ⟨(D c).h,0⟩):=by
   unfold za7 comp;rw[hop];simp only[zqY,hxt,ret,hl',bd]
  have hok:Ok m (D c).h.get w:=S.g.ok.sub λb o hq=>by rw[zhA (S.dis b o hq)];exact hq
  refine zi7 (s:=⟨(D c).h,0⟩) (s':=⟨(D c).h,0⟩) ho (hgd.trans hg) S.fit hok (λb h1 h2=>absurd h2 (ypX _)) (.inl hone) ?_;intro y w1 m1 hgo hy;obtain⟨hG2,_⟩:=G.frame (FL:=orH X (D c).h.get) (X:=X) S.g.ok (λ_ _ h=>zhz h) (λb o h=>by rw[zhA (S.dis b o h)];exact h) S.dis (hgo.g λb h1 h2=>absurd h2 (ypX _))
  have hy':R1 m1 v y:=by
   rcases hv' with hv'|rfl
   ·exact zr6 hv' hy
   ·exact hy
  obtain⟨t1,S'⟩:=S.same H hi hm hput hy' hG2 (λb _=>hgo.ext b (.inr (ymX _))) (λh=>h (by rw[e])) (λb o h=>y9Y _ _ (h.2.symm.trans (by rw[e])));exact hK _ _ _ _ _ _ S'
 ·--on the whole memory
  have ht:(D (i+1)).t=t':=by rw[e]
  have hn1:(D (i+1)).n=s'.n:=by rw[e]
  have hh1:(D (i+1)).h=s'.h:=by rw[e]
  have hp1:(D (i+1)).pend=zcn (maskAt ops i) (D i).pend:=by rw[e]
  have hhi:Hv D i:=λh=>y9Y (i,(D i).h) (D i).hv (by rw[e] at h;exact h);rw[←ht] at hput;have hci:c<=i:=yNZ λh=>hL (S.h1 i h hhi);have hbetween:∀k,c<=k->k<i->¬Hv D k:=λk q1 q2 q3=>S.h2 k q1 zo q3 (hm k (znX hhv _ (H.hv_mem q3 i q2 zo)));have hpd:=λj b o=>H.pends c j b o (i-c) zo λk q1 q2=>hbetween k q1 zo;have hci2:c+(i-c)=i:=zo
  have hsameH:(D i).h=(D c).h:=by have:=(hpd 0 0 (.iter .empty 0)).1;rwa [hci2] at this
  have hin:∀j b o,(j,b,o)∈zbD (maskAt ops i) (D i).pend->X b=some o:=by
   intro j b o hq;obtain⟨q1,q2⟩:=inPend_mem.1 hq;obtain⟨q3,q4⟩:=H.pend_old i zo q1;refine(S.xs b o).2 ⟨j,zo,hm j q2,q4,λq5=> ?_⟩;have:=(hpd j b o).2;rw[hci2] at this
   rcases this.1 q1 with q6|⟨q6,_⟩
   ·exact q6
   ·omega
  have hFsub:∀b o,(merge (D i).h (zbD (maskAt ops i) (D i).pend)).get b=some o->orH X (D c).h.get b=some o:=by
   intro b o hq
   rcases zfv hq with⟨j,hj⟩|⟨q1,_⟩
   ·exact zhz (hin j b o hj)
   ·rw[hsameH] at q1;rw[zhA (S.dis b o q1)];exact q1
  have hok:Ok m (merge (D i).h (zbD (maskAt ops i) (D i).pend)).get w:=S.g.ok.sub hFsub
  have hfr:Fresh m (D i).n s'.n:=by
   have:=S.fr i hi hL
   rwa [hn1] at this
  refine zi7 (s:=⟨merge (D i).h (zbD (maskAt ops i) (D i).pend),(D i).n⟩) (s':=s') ho (hgd.trans hg) S.fit hok hfr (hop.congr hev) ?_;intro y w1 m1 hgo hy
  classical
  let X':AH:=λb=>if ∃p,p∈zbD (maskAt ops i) (D i).pend/\p.2.1=b then none else X b
  have hX'n:∀b,(∃p,p∈zbD (maskAt ops i) (D i).pend/\p.2.1=b)->X' b=none:=λb h=>ygX h;have hX's:∀b,¬(∃p,p∈zbD (maskAt ops i) (D i).pend/\p.2.1=b)->X' b=X b:=λb h=>yfX h
  have hX'sub:∀b o,X' b=some o->X b=some o/\¬(∃p,p∈zbD (maskAt ops i) (D i).pend/\p.2.1=b):=by
   intro b o hq;by_cases hp:∃p,p∈zbD (maskAt ops i) (D i).pend/\p.2.1=b
   ·rw[hX'n b hp] at hq;cases hq
   ·rw[hX's b hp] at hq;exact⟨hq,hp⟩
  have hXn:∀b,X b=none->X' b=none:=by
   intro b hq;by_cases hp:∃p,p∈zbD (maskAt ops i) (D i).pend/\p.2.1=b
   ·exact hX'n b hp
   ·rw[hX's b hp];exact hq
  obtain⟨hG2,hd2⟩:=G.frame (FL:=orH X (D c).h.get) (X:=X') S.g.ok (λb o h=>zhz (hX'sub b o h).1) hFsub (λb o hq=>by
   rcases zfv hq with⟨j,hj⟩|⟨q1,_⟩
   ·exact hX'n b ⟨_,hj,rfl⟩
   ·rw[hsameH] at q1
    exact hXn b (S.dis b o q1)) (hgo.g hfr)
  rw[←hh1] at hG2
  obtain⟨t1,S'⟩:=S.next (c':=i+1) H hi hm hput hy hG2 (by rw[hn1];exact hgo.ext) zo (λk q1 q2=>by
    rcases yeY k c with q3|q3
    ·exact .inl (S.h1 k q3 q2)
    ·rcases Nat.lt_or_eq_of_le (Nat.lt_succ_iff.1 q1) with q4|q4
     ·exact absurd q2 (hbetween k q3 q4)
     ·exact .inr q4) (λk q1 q2 q3 q4=>by
    rcases q4 with q4|q4
    ·exact S.h2 k zo q2 q3 q4
    ·omega) (λb o=>by
    constructor
    ·intro hq;obtain⟨q1,q2⟩:=hX'sub b o hq;obtain⟨j,q3,q4,q5,q6⟩:=(S.xs b o).1 q1;refine⟨j,q3, .inl q4,q5,λq7=> ?_⟩;have hne:j≠i:=λe'=>hL (e'▸q4)
     have hmem:(j,b,o)∈(D i).pend:=by
      have:=(hpd j b o).2;rw[hci2] at this;refine this.2 ?_
      rcases yeY j c with q8|q8
      ·exact .inl (q6 q8)
      ·exact .inr ⟨q8,zo,q5⟩
     rw[hp1,zbK];exact⟨hmem,ziZ λq8=>q2 ⟨_,inPend_mem.2 ⟨hmem,q8⟩,rfl⟩⟩
    ·rintro⟨j,q3,q4|rfl,q5,q6⟩
     ·rw[hX's b ?_]
      ·refine(S.xs b o).2 ⟨j,q3,q4,q5,λq7=> ?_⟩;have hmem:=q6 zo;rw[hp1,zbK] at hmem;have:=(hpd j b o).2;rw[hci2] at this
       rcases this.1 hmem.1 with q8|⟨q8,_⟩
       ·exact q8
       ·omega
      ·rintro⟨⟨j',b',o'⟩,q8,q9⟩;simp only at q9;subst q9;obtain⟨r1,r2⟩:=inPend_mem.1 q8;obtain⟨r3,r4⟩:=H.pend_old i zo r1;have:j=j':=H.lb_one q3 zo q5 r4;subst this;have hmem:=q6 zo;rw[hp1,zbK] at hmem;have r5:bit (maskAt ops i) j=true:=r2;rw[hmem.2] at r5;cases r5
     ·exact absurd hhi q5.1) (by rw[hh1];exact hd2)
  exact hK _ _ _ _ _ _ S'
end
end Go.Ex
namespace Go.Ex
open Go
def unl (l:List Bool):Nat:=(l.filter (! ·)).length
theorem zl3 :∀(l:List Bool) (i:Nat),l[i]? =some false->unl (l.set i true)+1=unl l
 |[],i,h=>by simp at h
 |b::l,0,h=>by
  simp at h;subst h;simp[unl]
 |b::l,i+1,h=>by
  have ih:=zl3 l i (by simpa using h)
  unfold unl at*
  simp only[y4Z,List.filter_cons]
  cases b with
  |true=>simpa using ih
  |false=>simp only[yGZ,if_true,yGX];omega
theorem zuM :∀(l:List Bool) (i:Nat),l[i]? =some false->0<unl l:=λl i h=>by have:=zl3 l i h;omega
def InL (listed:Array Bool) (j:Nat):Prop:=listed[j]? =some true
section
variable {P : Program} {run : Job -> R Out} {ops : Array Oper} {op : Nat -> Oper} {D : Nat -> DS} {m0 : Mp} {F0 : AH} {w0 : World} {Q : Exit -> Act -> World -> Prop}
theorem zhm (H:Tr P ops op D) {listed:Array Bool} (hs:listed.size=ops.size) {i:Nat}:i∈Region.ready .any ops listed↔i<ops.size/\¬InL listed i/\∀e∈(op i).after.toList,Region.binds .any e=true->InL listed e.on:=by
 unfold Region.ready;rw[yVY,yBY];constructor
 ·rintro⟨h1,h2⟩;rw[ykX,H.hop i h1] at h2;obtain⟨h3,h4⟩:=h2;refine⟨h1,λh=> ?_,λe he hb=> ?_⟩
  ·unfold InL at h;rw[ykY,h] at h3;cases h3
  ·simp only[yyZ,ycZ,Array.all_eq_true'] at h4;have:=h4 e (by simpa using he);rw[hb] at this;simp only[Bool.not_true,y4Y] at this;unfold InL;rw[ykY] at this
   cases hx:listed[e.on]? with
   |none=>rw[hx] at this;cases this
   |some b=>rw[hx] at this;simp only[ycZ] at this;rw[this]
 ·rintro⟨h1,h2,h3⟩;refine⟨h1,?_⟩;rw[ykX,H.hop i h1];constructor
  ·have hlt:i<listed.size:=zo;rw[ykY,y5Y hlt];unfold InL at h2;rw[y5Y hlt] at h2
   cases hb:listed[i] with
   |true=>rw[hb] at h2;exact absurd rfl h2
   |false=>rfl
  ·simp only[yyZ,ycZ,Array.all_eq_true'];intro e he
   cases hb:Region.binds .any e with
   |false=>rfl
   |true=>
    have:=h3 e (by simpa using he) hb;unfold InL at this;rw[ykY,this];rfl
theorem zi0 (H:Tr P ops op D) {listed:Array Bool} (hs:listed.size=ops.size) (hr:Region.ready .any ops listed=[]):∀n j,j<n->j<ops.size->InL listed j
 |0,_,h,_=>zo
 |n+1,j,h,hj=>by
  apply yrZ;intro hn
  have:j∈Region.ready .any ops listed:=(zhm H hs).2 ⟨hj,hn,λe he hb=>by
   have hlt:=H.back j hj e he hb
   exact zi0 H hs hr n e.on zo zo⟩
  rw[hr] at this;simp at this
theorem drawn (H:Tr P ops op D)
  (hQ:∀a w c m t X L,(∀j,j<ops.size->L j)->Stg ops op D m0 F0 w0 L a w c m t X->Q .normal a w):
  ∀fuel (listed:Array Bool) (a:Act) (w:World),listed.size=ops.size->unl listed.toList=fuel->(∃c m t X,Stg ops op D m0 F0 w0 (InL listed) a w c m t X)->wpAny P .any ops Q fuel listed a w
 |0,listed,a,w,hs,hu,⟨c,m,t,X,S⟩=>by
  have hall:∀j,j<ops.size->InL listed j:=by
   intro j hj;unfold InL;have hlt:j<listed.size:=zo;rw[y5Y hlt]
   cases hb:listed[j] with
   |true=>rfl
   |false=>
    have:=zuM listed.toList j (by simp[hlt,hb]);omega
  refine⟨?_,hQ a w c m t X _ hall S⟩
  cases hl:Region.ready .any ops listed with
  |nil=>rfl
  |cons i l=>
   have:=(zhm (i:=i) H hs).1 (by rw[hl];simp);exact absurd (hall i this.1) this.2.1
 |fuel+1,listed,a,w,hs,hu,⟨c,m,t,X,S⟩=>by
  refine⟨λhl=>hQ a w c m t X _ (λj hj=>zi0 H hs hl ops.size j hj hj) S,λi hi=> ?_⟩;obtain⟨h1,h2,h3⟩:=(zhm H hs).1 hi;have hlt:i<listed.size:=zo
  have hf:listed.toList[i]? =some false:=by
   unfold InL at h2;rw[y5Y hlt] at h2
   cases hb:listed[i] with
   |true=>rw[hb] at h2;exact absurd rfl h2
   |false=>simp[hlt,hb]
  have heq:InL (listed.setIfInBounds i true)=λj=>InL listed j∨j=i:=by
   funext j
   unfold InL;by_cases e:j=i
   ·subst e;simp[hlt]
   ·rw[Array.getElem?_setIfInBounds_ne (Ne.symm e)];simp[e]
  refine S.step H h1 h2 (λj hb=> ?_) λa' w' c' m' t' X' S'=> ?_
  ·obtain⟨e,he,hbd,rfl|hb2⟩:=zs7 (H.hop i h1) hb
   ·exact h3 e he hbd
   ·exact S.cl e.on (by have:=H.back i h1 e he hbd;omega) (h3 e he hbd) j hb2
  ·refine drawn H hQ fuel _ a' w' (by simpa using hs) ?_ ⟨c',m',t',X',by rw[heq];exact S'⟩;have:=zl3 listed.toList i hf;simp only[Array.toList_setIfInBounds];omega
end
theorem zfF {P:Program} (hmix:P.follows .mixedOrders=true) {ops:Array Oper} {op:Nat->Oper} {D:Nat->DS} {t:Tm} {s:St} (H:Tr P ops op D) (h0:D 0=⟨t,s.h,s.n,[],[],[]⟩):
  s.n<=(D ops.size).n/\∀id,CodeOk P (.region id ops true) t s .normal (D ops.size).t ⟨merge (D ops.size).h (D ops.size).pend,(D ops.size).n⟩:=by
 have hn0:(D 0).n=s.n:=by rw[h0]
 have hh0:(D 0).h=s.h:=by rw[h0]
 have ht0:(D 0).t=t:=by rw[h0]
 have hle:s.n<=(D ops.size).n:=by
  have:=H.nl (ymX ops.size) (yhX _)
  rwa [hn0] at this
 refine⟨hle,λid m a w Q hf hd hok hfr hQ=>wp_region_any hmix ?_⟩;have hfr':Fresh m s.n (D ops.size).n:=hfr;refine drawn (m0:=m) (F0:=s.h.get) (w0:=w) H ?_ ops.size _ a _ (by simp) ?_ ⟨0,m,t,λ_=>none,?_⟩
 ·intro a' w' c m1 t1 X L hall S;have hnoh:∀k,c<=k->k<c+(ops.size-c)->¬Hv D k:=λk q1 q2 q3=>S.h2 k q1 (by have:=S.hc;omega) q3 (hall k (by have:=S.hc;omega));have hpd:=λj b o=>H.pends c j b o (ops.size-c) (by have:=S.hc;omega) hnoh
  have hcs:c+(ops.size-c)=ops.size:=by have:=S.hc;omega
  rw[hcs] at hpd
  have hg:=S.g.sub (F'':=(merge (D ops.size).h (D ops.size).pend).get) λb o hb=>by
   rcases zfv hb with⟨j,hj⟩|⟨q1,_⟩
   ·obtain⟨q2,q3⟩:=H.pend_old ops.size (yhX _) hj;refine zhz ((S.xs b o).2 ⟨j,q2,hall j q2,q3,λq4=> ?_⟩)
    rcases(hpd j b o).2.1 hj with q5|⟨q5,_⟩
    ·exact q5
    ·omega
   ·rw[(hpd 0 0 (.iter .empty 0)).1] at q1;rw[zhA (S.dis b o q1)];exact q1
  refine hQ a' w' ⟨m1,⟨hle,λb hb=>S.ext b (by rw[hn0];exact hb),hg.ok,hg.fr,hg.new,hg.mle.z,hg.znew⟩,?_,S.de⟩;have hget:∀d,t1.get d=(D ops.size).t.get d:=λd=>S.tp.li d λj hj _=>hall j hj;exact⟨by rw[←S.fit.n,S.tp.n,H.tn ops.size (yhX _)],λi=>by rw[←hget];exact S.fit.r i⟩
 ·have:∀n,unl (List.replicate n false)=n:=λn=>by simp[unl]
  simpa using this ops.size
 ·have hnot:∀j,¬InL (Array.replicate ops.size false) j:=λj h=>by
   unfold InL at h;rw[Array.getElem?_replicate] at h;split at h<;>cases h
  have hmono:∀j,j<=ops.size->s.n<=(D j).n/\(D j).n<=(D ops.size).n:=λj hj=>by
   have h1:=H.nl (ymX j) hj;have h2:=H.nl hj (yhX _);rw[hn0] at h1;exact⟨h1,h2⟩
  refine⟨ymX _,λi h=>absurd h (ypX _),λi _ _ _=>hnot i,λi _ h=>absurd h (hnot i),⟨by rw[ht0],λj _ _ d _=>by rw[ht0],λd hd'=> ?_⟩,hf,hd,λb o=>⟨λh=>(by cases h),λ⟨j,_,h,_⟩=>absurd h (hnot j)⟩,λ_ _ _=>rfl,?_,λb _=>rfl,λj hj _ b hb1 hb2=>hfr' b (yBX (hmono j zo).1 hb1) (ywY hb2 (hmono (j+1) zo).2)⟩
  ·have:=H.tsame (d:=d) 0 ops.size zo λj _ h2 e=>hnot j (hd' j zo e);rw[ylX] at this;rw[this,ht0]
  ·rw[hh0];exact(Goes.drew (n:=0) hok).g λb _ h=>absurd h (ypX _)
theorem zmR {P:Program} (hmix:P.follows .mixedOrders=true):zor P:=by
 intro run hr ops t s t' s' h;obtain⟨op,D,H,h0,rfl,rfl⟩:=Tr.of hr h;exact zfF hmix H h0
theorem zqd {P:Program} (hmix:P.follows .mixedOrders=true) {ext:Ext} (hext:zgF P ext) {k:Nat} {f:FuncId} {args:List Value} {v:Value} {n:Nat} {s':St} (h:Ex.run P ext k (.call f (args.map .sc) ⟨.e,n⟩)= .ok (.call (.sc v) s')) (w:World) (ht:ztO w):Calls P f args.toArray w λe w'=>e= .returned v/\RowKit.Below w.heap.size w w':=
 CallOk.calls (zqc hext (zmR hmix) k _ _ h) w ht
end Go.Ex
namespace Go.Ex
open Go
def sameA :AV->AV->Bool
 | .sc a, .sc b=>vEq a b
 | .ptr a b, .ptr c d=>Nat.beq a c&&Nat.beq b d
 | .sl a b c d, .sl e f g h=>Nat.beq a e&&Nat.beq b f&&Nat.beq c g&&Nat.beq d h
 | .so a b c d, .so e f g h=>Nat.beq a e&&Nat.beq b f&&Nat.beq c g&&Nat.beq d h
 | .agg l, .agg l'=>sames l l'
 | .tup l, .tup l'=>sames l l'
 | .ifc t v, .ifc t' v'=>Nat.beq t t'&&sameA v v'
 |_,_=>false
where sames:List AV->List AV->Bool
 |[],[]=>true
 |a::l,b::l'=>sameA a b&&sames l l'
 |_,_=>false
mutual
theorem zfb :∀{a b:AV},sameA a b=true->a=b
 | .sc a, .sc b,h=>by rw[ztV h]
 | .ptr a b, .ptr c d,h=>by
  have h':(Nat.beq a c&&Nat.beq b d)=true:=h;rw[ykX] at h';rw[yjX h'.1,yjX h'.2]
 | .sl a b c d, .sl e f g i,h=>by
  have h':(Nat.beq a e&&Nat.beq b f&&Nat.beq c g&&Nat.beq d i)=true:=h;simp only[ykX] at h';rw[yjX h'.1.1.1,yjX h'.1.1.2,yjX h'.1.2,yjX h'.2]
 | .so a b c d, .so e f g i,h=>by
  have h':(Nat.beq a e&&Nat.beq b f&&Nat.beq c g&&Nat.beq d i)=true:=h;simp only[ykX] at h';rw[yjX h'.1.1.1,yjX h'.1.1.2,yjX h'.1.2,yjX h'.2]
 | .agg l, .agg l',h=>by rw[zej h]
 | .tup l, .tup l',h=>by rw[zej h]
 | .ifc t v, .ifc t' v',h=>by
  have h':(Nat.beq t t'&&sameA v v')=true:=h;rw[ykX] at h';rw[yjX h'.1,zfb h'.2]
 | .sc _, .ptr _ _,h| .sc _, .sl _ _ _ _,h| .sc _, .so _ _ _ _,h| .sc _, .fn _ _ _,h| .sc _, .agg _,h| .sc _, .tup _,h| .sc _, .ifc _ _,h=>by cases h
 | .ptr _ _, .sc _,h| .ptr _ _, .sl _ _ _ _,h| .ptr _ _, .so _ _ _ _,h| .ptr _ _, .fn _ _ _,h| .ptr _ _, .agg _,h| .ptr _ _, .tup _,h| .ptr _ _, .ifc _ _,h=>by cases h
 | .sl _ _ _ _, .sc _,h| .sl _ _ _ _, .ptr _ _,h| .sl _ _ _ _, .so _ _ _ _,h| .sl _ _ _ _, .fn _ _ _,h| .sl _ _ _ _, .agg _,h| .sl _ _ _ _, .tup _,h| .sl _ _ _ _, .ifc _ _,h=>by cases h
 | .so _ _ _ _, .sc _,h| .so _ _ _ _, .ptr _ _,h| .so _ _ _ _, .sl _ _ _ _,h| .so _ _ _ _, .fn _ _ _,h| .so _ _ _ _, .agg _,h| .so _ _ _ _, .tup _,h| .so _ _ _ _, .ifc _ _,h=>by cases h
 | .agg _, .sc _,h| .agg _, .ptr _ _,h| .agg _, .sl _ _ _ _,h| .agg _, .so _ _ _ _,h| .agg _, .fn _ _ _,h| .agg _, .tup _,h| .agg _, .ifc _ _,h=>by cases h
 | .tup _, .sc _,h| .tup _, .ptr _ _,h| .tup _, .sl _ _ _ _,h| .tup _, .so _ _ _ _,h| .tup _, .fn _ _ _,h| .tup _, .agg _,h| .tup _, .ifc _ _,h=>by cases h
 | .ifc _ _, .sc _,h| .ifc _ _, .ptr _ _,h| .ifc _ _, .sl _ _ _ _,h| .ifc _ _, .so _ _ _ _,h| .ifc _ _, .fn _ _ _,h| .ifc _ _, .agg _,h| .ifc _ _, .tup _,h=>by cases h
 | .fn _ _ _,b,h=>by cases b<;>cases h
theorem zej :∀{a b:List AV},sameA.sames a b=true->a=b
 |[],[],_=>rfl
 |[],_::_,h=>by cases h
 |_::_,[],h=>by cases h
 |a::l,b::l',h=>by
  have h':(sameA a b&&sameA.sames l l')=true:=h;rw[ykX] at h';rw[zfb h'.1,zej h'.2]
end
def zwT :AO->AO->Bool
 | .row c e s, .row c' e' s'=>Nat.beq e e'&&Nat.beq s s'&&sameA.sames c c'
 |_,_=>false
theorem zsB {a b:AO} (h:zwT a b=true):a=b:=by
 cases a with
 |row c e s=>
  cases b with
  |row c' e' s'=>
   have h':(Nat.beq e e'&&Nat.beq s s'&&sameA.sames c c')=true:=h;simp only[ykX] at h';rw[yjX h'.1.1,yjX h'.1.2,zej h'.2]
  |iter _ _=>cases h
 |iter _ _=>cases h
def zcg (h:T AO):List (Nat×AO)->T AO
 |[]=>h
 |p::l=>(zcg h l).put p.1 (some p.2)
def zgx (h:T AO):List (Nat×AO)->T AO
 |[]=>h
 |p::l=>(zgx h l).put p.1 none
def hasAll (h:T AO):List (Nat×AO)->Bool
 |[]=>true
 |p::l=>match h.get p.1 with
  |some o=>match zwT o p.2 with|true=>hasAll h l|false=>false
  |none=>false
structure Chunk where
 f:FuncId
 n:Nat
 args:List AV
 pre:List (Nat×AO)
 v:AV
 n':Nat
 post:List (Nat×AO)
def Chunk.Ok (P:Program) (c:Chunk):Prop:=CallOk P c.f c.args ⟨zcg .e c.pre,c.n⟩ c.v ⟨zcg .e c.post,c.n'⟩
def Chunk.fits (c:Chunk) (f:FuncId) (args:List AV) (s:St):Bool:=
 match Nat.beq f c.f with
 |true=>match Nat.beq s.n c.n with
  |true=>match sameA.sames args c.args with
   |true=>hasAll s.h c.pre
   |false=>false
  |false=>false
 |false=>false
def zvP :List Chunk->Ext
 |[],_,_,_=>none
 |c::l,f,args,s=>match c.fits f args s with|true=>some (.ok (c.v,⟨zcg (zgx s.h c.pre) c.post,c.n'⟩))|false=>zvP l f args s
theorem ziD {h:T AO}:∀{l:List (Nat×AO)} {b:Nat},(zcg h l).get b=match(zcg .e l).get b with|some o=>some o|none=>h.get b
 |[],b=>rfl
 |p::l,b=>by
  show((zcg h l).put p.1 (some p.2)).get b=match((zcg .e l).put p.1 (some p.2)).get b with|some o=>some o|none=>h.get b
  rw[ydY,ydY];by_cases e:b=p.1
  ·rw[ygX e,ygX e]
  ·rw[yfX e,yfX e,ziD]
theorem zgc {h:T AO}:∀{l:List (Nat×AO)} {b:Nat} {o:AO},(zgx h l).get b=some o->h.get b=some o/\(zcg .e l).get b=none
 |[],b,o,hb=>⟨hb,rfl⟩
 |p::l,b,o,hb=>by
  have hb':((zgx h l).put p.1 none).get b=some o:=hb;rw[ydY] at hb';by_cases e:b=p.1
  ·rw[ygX e] at hb';cases hb'
  ·rw[yfX e] at hb';obtain⟨h1,h2⟩:=zgc hb';refine⟨h1,?_⟩;show((zcg .e l).put p.1 (some p.2)).get b=none;rw[ydY,yfX e,h2]
theorem zf4 {h:T AO}:∀{l:List (Nat×AO)} {b:Nat} {o:AO},hasAll h l=true->(zcg .e l).get b=some o->h.get b=some o
 |[],b,o,_,hb=>by cases hb
 |p::l,b,o,hh,hb=>by
  unfold hasAll at hh;split at hh
  ·rename_i o' ho';split at hh
   ·rename_i hs;have hb':((zcg .e l).put p.1 (some p.2)).get b=some o:=hb;rw[ydY] at hb';by_cases e:b=p.1
    ·rw[ygX e] at hb';cases hb';rw[e,ho',zsB hs]
    ·rw[yfX e] at hb';exact zf4 hh hb'
   ·cases hh
  ·cases hh
section
variable {P : Program} {m m' : Mp} {F F' F'' : AH} {n n' : Nat} {w w' : World}
theorem Goes.sub (h:Goes F F' n n' m m' w w') (hs:∀b o,F'' b=some o->F' b=some o):Goes F F'' n n' m m' w w':=⟨h.le,h.ext,h.ok.sub hs,h.fr,λb o hb=>h.new b o (hs b o hb),h.zle,h.znew⟩
theorem CallOk.sub {f:FuncId} {args:List AV} {s s' s'':St} {v:AV} (h:CallOk P f args s v s') (hn:s''.n=s'.n) (hs:∀b o,s''.h.get b=some o->s'.h.get b=some o):CallOk P f args s v s'':=by
 intro m w args' hR hok hfr;refine Calls.mono (h m w args' hR hok (by rw[←hn];exact hfr)) ?_;rintro e w' ⟨y,m',rfl,hg,hv⟩;rw[←hn] at hg;exact⟨y,m',rfl,hg.sub hs,hv⟩
theorem Chunk.Ok.at {c:Chunk} (h:c.Ok P) {args:List AV} {s:St} (hfit:c.fits c.f args s=true):CallOk P c.f args s c.v ⟨zcg (zgx s.h c.pre) c.post,c.n'⟩:=by
 unfold Chunk.fits at hfit;rw[ylY] at hfit;simp only at hfit;split at hfit
 ·rename_i hn;split at hfit
  ·rename_i ha;have hn:=yjX hn;have ha:=zej ha;subst ha;intro m w args' hR hok hfr;have hpre:∀b o,(zcg .e c.pre).get b=some o->s.h.get b=some o:=λb o=>zf4 hfit
   have hfr':Fresh m c.n c.n':=by rw[←hn];exact hfr
   refine Calls.mono (h m w args' hR (hok.sub hpre) hfr') ?_;rintro e w' ⟨y,m',rfl,hg,hv⟩;refine⟨y,m',rfl,?_,hv⟩
   obtain⟨hG,_⟩:=G.frame (FL:=s.h.get) (X:=(zgx s.h c.pre).get) hok (λb o hb=>(zgc hb).1) hpre (λb o hb=>by
    cases hc:(zgx s.h c.pre).get b with
    |none=>rfl
    |some o'=>
     have:=(zgc hc).2;rw[hb] at this
     cases this) (hg.g hfr')
   have hG':=hG.sub (F'':=(zcg (zgx s.h c.pre) c.post).get) λb o hb=>by
    rw[ziD] at hb
    cases hp:(zcg .e c.post).get b with
    |none=>
     rw[hp] at hb;exact zhz hb
    |some o'=>
     rw[hp] at hb;cases hb;rw[zhA ?_]
     ·exact hp
     ·rename_i hdis;exact hdis b o hp
   exact⟨by rw[hn];exact hg.le,by rw[hn];exact hg.ext,hG'.ok,hG'.fr,hG'.new,hG'.mle.z,hG'.znew⟩
  ·cases hfit
 ·cases hfit
theorem ztl :∀{l:List Chunk},(∀c∈l,c.Ok P)->zgF P (zvP l)
 |[],_,_,_,_,_,_,h=>by cases h
 |c::l,hl,f,args,s,v,s',h=>by
  unfold zvP at h;split at h
  ·rename_i hf;cases h
   have e:f=c.f:=by
    unfold Chunk.fits at hf;split at hf
    ·rename_i he;exact yjX he
    ·cases hf
   subst e;exact(hl c (by simp)).at hf
  ·exact ztl (λc hc=>hl c (by simp[hc])) f args s v s' h
def Chunk.check (P:Program) (ext:Ext) (k:Nat) (c:Chunk):Bool:=
 match Ex.run P ext k (.call c.f c.args ⟨zcg .e c.pre,c.n⟩) with
 | .ok (.call v s)=>match sameA v c.v with
  |true=>match Nat.beq s.n c.n' with
   |true=>hasAll s.h c.post
   |false=>false
  |false=>false
 |_=>false
theorem Chunk.ok_of_check (hmix:P.follows .mixedOrders=true) {ext:Ext} (hext:zgF P ext) {k:Nat} {c:Chunk} (h:c.check P ext k=true):c.Ok P:=by
 unfold Chunk.check at h;split at h
 ·rename_i v s hr;split at h
  ·rename_i hv;split at h
   ·rename_i hn;have hc:=zqc hext (zmR hmix) k _ _ hr;have e:=zfb hv;subst e;exact CallOk.sub hc (yjX hn).symm λb o hb=>zf4 h hb
   ·cases h
  ·cases h
 ·cases h
structure Memo where
 f:FuncId
 args:List AV
 v:AV
def scs :List AV->Option (List Value)
 |[]=>some []
 | .sc v::l=>match scs l with|some l=>some (v::l)|none=>none
 |_=>none
theorem zt2 :∀{l:List AV} {vs:List Value},scs l=some vs->l=vs.map .sc
 |[],_,h=>by cases h;rfl
 | .sc v::l,_,h=>by
  unfold scs at h;split at h
  ·rename_i l' hl;cases h;rw[zt2 hl];rfl
  ·cases h
 | .ptr _ _::_,_,h| .sl _ _ _ _::_,_,h| .so _ _ _ _::_,_,h| .fn _ _ _::_,_,h| .agg _::_,_,h| .tup _::_,_,h| .ifc _ _::_,_,h=>by cases h
def Memo.Ok (P:Program) (c:Memo):Prop:=∀s,CallOk P c.f c.args s c.v s
def zx3 :List Memo->Ext
 |[],_,_,_=>none
 |c::l,f,args,s=>match Nat.beq f c.f with
  |true=>match sameA.sames args c.args with
   |true=>some (.ok (c.v,s))
   |false=>zx3 l f args s
  |false=>zx3 l f args s
theorem zvQ :∀{l:List Memo},(∀c∈l,c.Ok P)->zgF P (zx3 l)
 |[],_,_,_,_,_,_,h=>by cases h
 |c::l,hl,f,args,s,v,s',h=>by
  have ih:=zvQ (l:=l) (λc hc=>hl c (by simp[hc])) f args s v s';unfold zx3 at h;split at h
  ·rename_i he;split at h
   ·rename_i ha;cases h;rw[yjX he,zej ha];exact hl c (by simp) s
   ·exact ih h
  ·exact ih h
theorem CallOk.of_below {f:FuncId} {args:List Value} {v:Value} {s:St} (h:∀w,ztO w->Calls P f args.toArray w λe w'=>e= .returned v/\RowKit.Below w.heap.size w w'):CallOk P f (args.map .sc) s (.sc v) s:=by
 intro m w args' hR hok hfr;rw[Rl.of_sc hR];refine Calls.mono (h w λk x hk=>(hok.tb k x hk).1) ?_;rintro e w' ⟨rfl,hb⟩;refine⟨v,m,rfl,⟨yhX _,λ_ _=>rfl,⟨λb o ho=> ?_,hok.apart,λk i v hv=> ?_,hok.tbs (λk hk _=>hb.block k hk) λb o ho=> .inl ⟨b,o,ho,rfl⟩⟩,⟨hb.os,hb.tape,hb.output,hb.size,λk hk _=>hb.block k hk⟩,λb o ho=> .inl ⟨b,o,ho,rfl⟩,λ_ _ _ h=>h,λ_ _ _ h=> .inl h⟩,rfl⟩
 ·have hR:=hok.has b o ho;refine yMZ hR (Mp.le_refl _) λk hk=> ?_;obtain⟨k',hk',hlt⟩:=y5X hR;rw[hk] at hk';cases hk';exact hb.block k hlt
 ·obtain⟨⟨cur,e,fr,hw,hi⟩,hn⟩:=hok.fz k i v hv;exact⟨⟨cur,e,fr,(hb.block k (yHY.1 hw).1).trans hw,hi⟩,hn⟩
def Memo.check (P:Program) (ext:Ext) (k:Nat) (c:Memo):Bool:=
 match scs c.args with
 |some _=>match c.v with
  | .sc _=>match Ex.run P ext k (.call c.f c.args ⟨.e,0⟩) with
   | .ok (.call v _)=>sameA v c.v
   |_=>false
  |_=>false
 |none=>false
theorem Memo.ok_of_check (hmix:P.follows .mixedOrders=true) {ext:Ext} (hext:zgF P ext) {k:Nat} {c:Memo} (h:c.check P ext k=true):c.Ok P:=by
 obtain⟨f,args,v⟩:=c;unfold Memo.check at h;split at h
 ·rename_i vs hvs;have e:=zt2 hvs;simp only at e;subst e;split at h
  ·rename_i v' hv';simp only at hv';subst hv';split at h
   ·rename_i v2 s hr;have e2:=zfb h;simp only at e2;subst e2;intro s;exact CallOk.of_below λw=>CallOk.calls (zqc hext (zmR hmix) k _ _ hr) w
   ·cases h
  ·cases h
 ·cases h
def zuq (a b:Ext):Ext:=λf args s=>match a f args s with|some r=>some r|none=>b f args s
theorem extAnd_ok {a b:Ext} (ha:zgF P a) (hb:zgF P b):zgF P (zuq a b):=λf args s v s' h=>by
 unfold zuq at h;split at h
 ·rename_i r hr;cases h;exact ha f args s v s' hr
 ·exact hb f args s v s' h
def zyT (P:Program) (ext:Ext) (k:Nat) (f:FuncId) (args:List Value) (v:Value):Bool:=
 match Ex.run P ext k (.call f (args.map .sc) ⟨.e,0⟩) with
 | .ok (.call u _)=>sameA u (.sc v)
 |_=>false
theorem calls_of_bang (hmix:P.follows .mixedOrders=true) {ext:Ext} (hext:zgF P ext) {k:Nat} {f:FuncId} {args:List Value} {v:Value} (h:zyT P ext k f args v=true) (w:World) (ht:ztO w):Calls P f args.toArray w λe w'=>e= .returned v/\RowKit.Below w.heap.size w w':=by
 unfold zyT at h;split at h
 ·rename_i u s hr;have e:=zfb h;subst e;exact zqd hmix hext hr w ht
 ·cases h
end
end Go.Ex
namespace Go.Ex
open Go
def zyL (P:Program) (f0:FuncId):Prop:=∀(s:ByteArray) (c:Int) (w:World),Calls P f0 #[.string s, .int .u8 c] w λe w'=>e= .returned (.int .i64 (Lib.indexByte s.data.toList (UInt8.ofNat c.toNat)))/\w'=w
def zup (f0:FuncId):Ext:=λf args s=>
 match Nat.beq f f0 with
 |true=>match args with
  |[.sc (.string b), .sc (.int .u8 c)]=>some (.ok (.sc (.int .i64 (Lib.indexByte b.data.toList (UInt8.ofNat c.toNat))),s))
  |_=>none
 |false=>none
theorem extIdx_ok {P:Program} {f0:FuncId} (h:zyL P f0):zgF P (zup f0):=λf args s v s' he=>by
 unfold zup at he;split at he
 ·rename_i hf;have hf:=yjX hf;subst hf;split at he
  ·rename_i b c;cases he
   exact CallOk.of_below (args:=[.string b, .int .u8 c]) λw _=>(h b c w).mono λe w' ⟨h1,h2⟩=>⟨h1,by subst h2;exact RowKit.Below.refl _ _⟩
  ·cases he
 ·cases he
abbrev ai (n:Nat):AV:= .sc (.int .i64 (.ofNat n))
abbrev ab (b:Bool):AV:= .sc (.bool b)
abbrev ay (l:List UInt8):AV:= .sc (.string ⟨l.toArray⟩)
end Go.Ex
abbrev yvY:=@Go.Ex.CallOk.of_below
abbrev yOY:=@Go.Ex.calls_of_bang
abbrev yZZ:=@Go.Ex.Chunk.ok_of_check
abbrev y6Z:=@Go.Ex.Memo.ok_of_check
