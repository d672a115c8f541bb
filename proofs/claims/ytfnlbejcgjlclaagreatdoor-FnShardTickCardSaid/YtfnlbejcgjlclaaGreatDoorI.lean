/- Laws of the plain functions: what is drawn is good, and the law answers true of it. -/
import Derived.Test.YtfnlbejcgjlclaaGreatDoorH
set_option linter.all false
namespace Go.Ev
open Go Go.Lib
section
section
variable{n:Nat}{R:Type}{Q:R->Prop}
theorem j9{p:Prop}[Decidable p]{x y:Option R}(a:p->Ok x Q)(e:¬ p->Ok y Q):Ok (cond (decide p) x y) Q:=cc (λh=>a (ef h)) λh=>e (of_decide_eq_false h)
theorem Wr{a:Int}(e:-9000000000000000000<=a)(j:a<=9000000000000000000):fO .i64 a=-a:=by
 unfold fO;rw[IntKind.wrap_i64];omega
theorem amd(x:Int):pD n x=some (decide (In x)):=by
 unfold pD;rw[vf,ak]
theorem kX{x:Int}{a b:Int}{f:Bool->Option R}(h:Ok (f (decide (a<=x/\x<=b))) Q):Ok (ae (bj n x a b) f) Q:=by
 rw[vf];exact h
theorem H0{x:Int}{f:Bool->Option R}(h:Ok (f (decide (In x))) Q):Ok (ae (pD n x) f) Q:=by
 rw[amd];exact h
theorem afl{x d:Int}(hx:0<=x/\x<2^62)(a:0<d/\d<=1000000):Ok (KZ n x d) λ_=>True:=by
 unfold KZ;refine xp a.1 hx.1 hx.2 (xq a.1 hx.1 (cw (λ_=>az trivial) λ_=>ok_eq (λ_=>?_) λ_=>az trivial));exact xq (by omega) (Jh hx.1 (by omega)) (ok_eq (λ_=>az trivial) λ_=>az trivial)
def pT(x:Int×Int):Prop:=In x.1
theorem wM:In 0:=by omega
theorem yv{e:Int}:pT (0,e):=wM
theorem ao5{a b c:Int}(C:In a):Ok (Qy n a b c) pT:=by
 unfold Qy UX;refine ok_eq (λ_=>az yv) λ_=>?_;refine aW (P:=λx=>In x.1) ?_ λx hx=>cd (cc (λ_=>az hx) λ_=>az yv);refine H0 (cd (j9 (λ_=>?_) λ_=>az wM));refine kX (cd (j9 (λe=>?_) λ_=>az wM));refine kX (cd (j9 (λD=>?_) λ_=>az wM));refine cw (λh0=>?_) λh0=>?_
 ·rw[Wr (by omega) (by omega)];have u:0<=-a*b:=Oz (by omega) e.1;have A:-a*b<=1000000000000*1000000:=ak3 (by omega) e.2 e.1 (by omega);rw[oW (by omega)];refine aW (afl (by omega) (by omega)) λy _=>H0 (cd (j9 (λj=>az j) λ_=>az wM))
 ·have u:0<=a*b:=Oz h0 e.1;have A:a*b<=1000000000000*1000000:=ak3 (by omega) e.2 e.1 (by omega);rw[oW (by omega)];refine aW (afl (by omega) (by omega)) λy _=>H0 (cd (j9 (λj=>az j) λ_=>az wM))
theorem aih{x y T:Int}(hx:0<x)(h:y<=T/x):x*y<=T:=by
 have a:x*y<=x*(T/x):=aaU h (by omega);have e:x*(T/x)<=T:=Int.mul_ediv_self_le (by omega);omega
theorem S7{a b x y:Int}(h0:0<x)(j:x<=1000000000000)(u:a*b=x*y\/a*b=-(x*y))(e:0<=y):Ok (ae (j5 .i64 1000000000000 x) λq=>cond (av q y) (some (0,2)) (some (cR .i64 a b,(0:Int)))) pT:=by
 refine xp h0 (by omega) (by omega) (cw (λ_=>az yv) λh=>az ?_);have A:=aih h0 h;have C:0<=x*y:=Oz (by omega) e;show In _;rw[oW (by omega)];omega
theorem S8{a b:Int}(h:a=0):Ok (some (cR .i64 a b,(0:Int))) pT:=az (by
 subst h
 show In _
 have:(0:Int)*b=0:=Int.zero_mul b
 rw[oW (by omega),this]
 omega)
theorem aqH{a b:Int}(u:In a)(x:In b):Ok (Q5 n a b) pT:=by
 unfold Q5;rw[Wr (a:=a) (by omega) (by omega),Wr (a:=b) (by omega) (by omega)];refine cw (λh0=>cw (λj=>?_) λj=>?_) λh0=>cw (λj=>?_) λj=>?_
 ·exact cw (λe=>S7 e (by omega) (.inl (Int.neg_mul_neg a b).symm) (by omega)) λe=>S8 (by omega)
 ·exact cw (λe=>S7 e (by omega) (.inr (by rw[Int.neg_mul,Int.neg_neg])) (by omega)) λe=>S8 (by omega)
 ·exact cw (λe=>S7 e (by omega) (.inr (by rw[Int.mul_neg,Int.neg_neg])) (by omega)) λe=>S8 (by omega)
 ·exact cw (λe=>S7 e (by omega) (.inl rfl) (by omega)) λe=>S8 (by omega)
theorem aqI{op a b:Int}(j:In a)(u:In b):Ok (Q6 n op a b) pT:=by
 have e:∀x:Int,Ok (ae (pD n x) λy=>cond (ay y) (some (0,2)) (some (x,(0:Int)))) pT:=λx=>H0 (cd (j9 (λh=>az h) λ_=>az yv));unfold Q6;refine ok_eq (λ_=>e _) λ_=>ok_eq (λ_=>e _) λ_=>ok_eq (λ_=>aW (aqH j u) λy A=>az A) λ_=>ok_eq (λ_=>?_) λ_=>?_
 ·exact cw (λ_=>e _) λ_=>e _
 ·exact cw (λ_=>e _) λ_=>e _
theorem ad3{marks:List Mark}(h:Bp marks=true){i:Nat}(hi:i<marks.length):af marks (i:Int)=some (gM marks i)/\(0<=(gM marks i).aC/\(gM marks i).aC<=1000000000)/\0<=(gM marks i).cg/\(gM marks i).cg<=1000000:=by
 have e:gM marks i=marks[i]:=by rw[gM,iR,cT hi];rfl
 exact⟨db hi _,by rw[e];exact(Ke h).1 _ (bI hi)⟩
theorem ani{x:Int}{marks:List Mark}(hx:0<=x/\x<=1000000000000)(h:Bp marks=true)(U:2^41<=n):Ok (Vx n x marks) pT:=by
 have Y:=(Ke h).2.2;have C:∀m i:Nat,∀j:Int,i<=marks.length->marks.length<m+i->0<=j->j<=1000000000000->Ok (og n m x marks j i λe=>some (e,0)) pT:=by
  intro m
  induction m with
  |zero=>intro i s F H;omega
  |succ m I=>
   intro i s F H J M
   rw[og]
   refine cw (λhi=>?_) λhi=>az (by show In _;omega)
   rw[aJ] at hi
   obtain⟨N,b1,b2⟩:=ad3 h (show i<marks.length by omega)
   have next:∀A,0<=A->A<=1000000000000->Ok (og n m x marks A ((i+1:Nat):Int) λe=>some (e,0)) pT:=λA y g2=>I (i+1) A (by omega) (by omega) y g2
   have add:∀d:Int,0<=d->d<=1000000000000->(0<(gM marks i).cg->d<=1000000000000/(gM marks i).cg)->Ok (cond (av 1000000000000 (aq .i64 s (cR .i64 d (gM marks i).cg))) (some (0,2)) (og n m x marks (aq .i64 s (cR .i64 d (gM marks i).cg)) ((i+1:Nat):Int) λe=>some (e,0))) pT:=λd y g2 P=>by
    have Z:0<=d*(gM marks i).cg:=Oz y b2.1
    have Fg:d*(gM marks i).cg<=1000000000000:=by
     by_cases c:0<(gM marks i).cg
     ·have:=aih c (P c);rwa[Int.mul_comm] at this
     ·have:(gM marks i).cg=0:=by omega
      rw[this,Int.mul_zero];omega
    rw[oW (by omega),js (by omega) (by omega) (by omega) (by omega)];exact cw (λ_=>az yv) λ_=>next _ (by omega) (by omega)
   have last:∀d:Int,0<=d->d<=1000000000000->Ok (cond (av 0 (gM marks i).cg) (ae (j5 .i64 1000000000000 (gM marks i).cg) λq=>cond (av q d) (some (0,2)) (cond (av 1000000000000 (aq .i64 s (cR .i64 d (gM marks i).cg))) (some (0,2)) (og n m x marks (aq .i64 s (cR .i64 d (gM marks i).cg)) ((i+1:Nat):Int) λe=>some (e,0)))) (cond (av 1000000000000 (aq .i64 s (cR .i64 d (gM marks i).cg))) (some (0,2)) (og n m x marks (aq .i64 s (cR .i64 d (gM marks i).cg)) ((i+1:Nat):Int) λe=>some (e,0)))) pT:=λd y g2=>
    cw (λc=>xp c (by omega) (by omega) (cw (λ_=>az yv) λg=>add d y g2 λ_=>g)) λc=>add d y g2 λc'=>by omega
   have D:Ok (cond (av 1000000000000 s) (some (0,2)) (og n m x marks s ((i+1:Nat):Int) λe=>some (e,0))) pT:=cw (λ_=>az yv) λ_=>next s J M
   have u:∀a b:Int,0<=a->a<=1000000000000->0<=b->b<=1000000000000->aL .i64 a b=a-b:=λa b _ _ _ _=>nq (by omega) (by omega) (by omega) (by omega);simp only[N,ak,bD (show i<2^31 by omega)];refine cw (λE=>?_) λE=>?_
   ·rw[aJ] at E;obtain⟨S,c1,c2⟩:=ad3 h (show i+1<marks.length by omega);simp only[S,ak];refine cw (λg=>cw (λg2=>?_) λ_=>D) λ_=>cw (λg2=>?_) λ_=>D
    ·rw[u _ _ (by omega) (by omega) (by omega) (by omega)];exact last _ (by omega) (by omega)
    ·rw[u _ _ (by omega) (by omega) (by omega) (by omega)];exact last _ (by omega) (by omega)
   ·refine cw (λg2=>?_) λ_=>D;rw[u _ _ (by omega) (by omega) (by omega) (by omega)];exact last _ (by omega) (by omega)
 exact C n 0 0 (by omega) (by omega) (by omega) (by omega)
def RY(l:List nO):Prop:=l.length<=1000
theorem aqJ{a:List nO}{name:aj}(u:RY a)(C:2^41<=n):Ok (WW n a name) pT:=by
 have u:a.length<=1000:=u;have j:∀m i:Nat,i<=a.length->a.length<m+i->Ok (JV n m a name i (some (0,4))) pT:=by
  intro m
  induction m with
  |zero=>intro i x y;omega
  |succ m A=>
   intro i x y
   rw[JV]
   refine cw (λhi=>?_) λhi=>az yv
   rw[aJ] at hi
   have e:=bn (show i<a.length by omega)
   simp only[e,ak,bD (show i<2^31 by omega)]
   exact cc (λ_=>H0 (cd (j9 (λh=>az h) λ_=>az yv))) λ_=>A (i+1) (by omega) (by omega)
 exact j n 0 (by omega) (by omega)
def jq(op:Int):Int×Int:=if op=1\/op=2 then(0,1) else if op=10 then(1,1) else if op=3\/op=4\/op=5\/op=7\/op=8 then(2,1) else if op=6 then(3,1) else if op=9 then(2,0) else if op=11 then(0,0) else(-1,0)
theorem ad4(op:Int):Kr n op=some (jq op):=by
 unfold Kr jq;simp only[cN,akP,bH]
 by_cases a:op=1
 ·simp[a]
 by_cases e:op=2
 ·simp[e]
 by_cases j:op=10
 ·simp[j]
 by_cases u:op=3
 ·simp[u]
 by_cases x:op=4
 ·simp[x]
 by_cases y:op=5
 ·simp[y]
 by_cases A:op=7
 ·simp[A]
 by_cases C:op=8
 ·simp[C]
 by_cases h6:op=6
 ·simp[h6]
 by_cases D:op=9
 ·simp[D]
 by_cases E:op=11
 ·simp[E]
 simp[a,e,u,x,y,h6,A,C,D,j,E]
end
end
section
section
variable{n:Nat}
structure S9(x:cP):Prop where
 nm:x.name.length<=1000
 uP:x.marks.length<=10
def nu(code:List cP):Prop:=∀x∈code,S9 x
theorem nu.app{a b:List cP}(e:nu a)(j:nu b):nu (a++b):=λx hx=>(cU.1 hx).elim (e x) (j x)
theorem nu.one{x:cP}(h:S9 x):nu [x]:=λy a=>by rw[fe] at a;rw[a];exact h
theorem QK:∀(d n:Nat)(r:ah),2^41+d<=n->d<=6->nM d r->Ok (rn n r) λcode=>nu code/\code.length<=11^d
 |0,n,r,Z,hd,h=>absurd h (by simp[nM])
 |d+1,n,r,Z,hd,h=>by
  obtain⟨n,rfl⟩:∃m,n=m+1:=⟨n-1,by omega⟩;have hz:=nM.z _ _ h;obtain⟨H,I⟩:=h;have k4:=(A2 r.op).1;have kl:r.kids.length<=4:=by have:=H.k;omega
  have Nz:(11:Nat)^(d+1)=11*11^d:=by rw[yy];omega
  have aa:1<=11^d:=aaV _ _ (by omega);have ab:11^d<=11^6:=As (by omega) (by omega);have A:∀(c:Nat)(K:List cP->ah->Option (List cP))(Q:List cP->Prop),c<=r.kids.length->(∀code,nu code->code.length<=11^d*c->Ok (K code r) Q)->∀m i:Nat,∀out:List cP,i<=c->c<m+i->nu out->out.length<=11^d*i->Ok (Gt n (rn n) m out c i r K) Q:=by
   intro c K Q hc hK m
   induction m with
   |zero=>intro i out e C;omega
   |succ m ih=>
    intro i out e C N h4
    have hm:11^d*i<=11^d*4:=Jk _ (by omega)
    rw[Gt]
    refine cw (λhi=>?_) λhi=>?_
    ·have P:i<r.kids.length:=by omega
     rw[bn P,ak,iz,iz,bD (by omega)];refine aW (QK d n r.kids[i] (by omega) (by omega) (I _ (bI P))) λy J=>?_;refine dI (by have:=J.2;omega) (by omega) ?_;exact ih (i+1) _ (by omega) (by omega) (N.app J.1) (by rw[dG,aaT];have:=J.2;omega)
    ·rw[iz];have:i=c:=by omega
     subst this;exact hK out N h4
  rw[rn,iz];have one:∀{a b:Int},S9 ⟨a,b,[],[]⟩:=⟨by show(0:Nat)<=1000;omega,by show(0:Nat)<=10;omega⟩;have j:∀code:List cP,nu code->code.length<=11^d*4->Ok (ae (aN 16 [] (ah.marks r)) λcu=>ae (aN 56 code [cP.mk (ah.op r) (ah.num r) (ah.name r) cu]) λdj=>some dj) λcode=>nu code/\code.length<=11^(d+1):=λcode e C=>by
   have:=hz.2.1
   have:=hz.2.2.1
   refine dI (by simp;omega) (by omega) (dI (by simp;omega) (by omega) (az ⟨e.app (nu.one ⟨by assumption,by simpa using hz.2.1⟩),by simp;omega⟩))
  have D:r.op=9->∀code:List cP,nu code->code.length<=11^d*4->Ok (ae (af (ah.kids r) 2) λE=>ae (rn n (ah.mk (ah.op E) (ah.num E) (ah.name E) (ah.kids E) (ah.marks E))) λR=>ae (af (ah.kids r) 3) λF=>ae (rn n (ah.mk (ah.op F) (ah.num F) (ah.name F) (ah.kids F) (ah.marks F))) λS=>ae (aN 56 code [cP.mk 9 (aq .i64 (au R) 1) [] []]) λbe=>ae (aN 56 be R) λbu=>ae (aN 56 bu [cP.mk 11 (au S) [] []]) λcK=>ae (aN 56 cK S) λcq=>some cq) λcode=>nu code/\code.length<=11^(d+1):=λu code e C=>by
   have M:r.kids.length=4:=by have:=H.k;rw[u,show sU 9=4 from rfl] at this;omega
   refine Sj (bn (i:=2) (by omega)) ?_
   rw[iz]
   refine aW (QK d n _ (by omega) (by omega) (I _ (bI (by omega)))) λa U=>?_
   refine Sj (bn (i:=3) (by omega)) ?_
   rw[iz]
   refine aW (QK d n _ (by omega) (by omega) (I _ (bI (by omega)))) λb Y=>?_
   have:=U.2
   have:=Y.2
   refine dI (by simp only[dG,fD,jZ];omega) (by omega) (dI (by simp only[dG,fD,jZ];omega) (by omega) (dI (by simp only[dG,fD,jZ];omega) (by omega) (dI (by simp only[dG,fD,jZ];omega) (by omega) (az ⟨(((e.app (nu.one one)).app U.1).app (nu.one one)).app Y.1,by simp only[dG,fD,jZ];omega⟩))))
  refine ok_eq (λu=>?_) λu=>?_
  ·have M:r.kids.length=4:=by have:=H.k;rw[u,show sU 9=4 from rfl] at this;omega
   exact A 2 _ _ (by omega) (λcode e C=>ok_eq (λ_=>D u code e (by omega)) λh=>absurd u h) n 0 [] (by omega) (by omega) (by intro x hx;cases hx) (by simp)
  ·rw[aJ];refine A r.kids.length _ _ (by omega) (λcode e C=>ok_eq (λh=>absurd h u) λ_=>?_) n 0 [] (by omega) (by omega) (by intro x hx;cases hx) (by simp);have:11^d*r.kids.length<=11^d*4:=Jk _ (by omega);exact j code e (by omega)
end
end
section
section
variable{n:Nat}{R:Type}{Q:R->Prop}
theorem avl{a b:Option R}(e:a=b)(h:Ok b Q):Ok a Q:=e ▸h
structure Bq(x:cP)(at' len:Int):Prop where
 num:x.op=1->-1000000000<=x.num/\x.num<=1000000000
 jmp:x.op=9\/x.op=11->0<=x.num/\x.num<=len-at'-1
 uP:x.op=10->Bp x.marks=true
 nom:x.op≠10->x.marks=[]
 nam:x.name.length<=8
theorem Bq.m{x:cP}{a l:Int}(h:Bq x a l):x.marks.length<=5/\∀m∈x.marks,(0<=m.aC/\m.aC<=1000000000)/\0<=m.cg/\m.cg<=1000000:=by
 by_cases c:x.op=10
 ·have:=Ke (h.uP c);exact⟨this.2.2,this.1⟩
 ·rw[h.nom c];simp
theorem XV{x y:Int}{f:Bool->Prop}(h:x=y->f true)(a:x≠y->f false):Ok (some (ai x y)) f:=az (by
 rw[cN]
 by_cases c:x=y
 ·rw[fW c];exact h c
 ·rw[gu c];exact a c)
theorem anj{x:cP}{at' len:Int}(hz:S9 x)(M:0<=at'/\at'<len/\len<=1000)(F:2^41<=n):Ok (PR n x at' len) λb=>b=true->Bq x at' len:=by
 have C:au x.marks=0->x.marks=[]:=λh=>qg.1 (by rw[aJ] at h;omega);have a:∀{p:Prop},false=true->p:=λh=>(by cases h);have D:x.name=[]->x.name.length<=8:=λh=>by rw[h];simp
 have e:aL .i64 (aL .i64 len at') 1=len-at'-1:=by rw[iA,iA];omega
 have N:=hz.nm;have P:=hz.uP;have j:x.op≠10->x.op≠1->(x.op=9\/x.op=11->0<=x.num/\x.num<=len-at'-1)->Ok (cond (bf x.name []) (some (ai (au x.marks) 0)) (some false)) λb=>b=true->Bq x at' len:=λu y h=>qz (λA=>XV (λc _=>⟨λE=>absurd E y,h,λE=>absurd E u,λ_=>C c,D A⟩) λ_=>a) λ_=>az a;unfold PR;rw[e];refine ok_eq (λy=>kX (j9 (λb1=>qz (λA=>XV (λc _=>⟨λ_=>b1,λh=>by omega,λh=>by omega,λ_=>C c,D A⟩) λ_=>a) λ_=>az a) λ_=>az a)) λy=>?_;refine ok_eq (λI=>ok_eq (λ_=>?_) λ_=>az a) λI=>?_
 ·rw[u5 (by omega) F,ak];exact cc (λA=>XV (λc _=>⟨λh=>by omega,λh=>by omega,λh=>by omega,λ_=>C c,(mQ A).2.2⟩) λ_=>a) λ_=>az a
 refine ok_eq (λu=>ok_eq (λ_=>qz (λA=>?_) λ_=>az a) λ_=>az a) λu=>?_
 ·rw[adZ (by omega) F,ak];exact az λc=>⟨λh=>absurd h y,λh=>by omega,λ_=>c,λh=>absurd u h,D A⟩
 refine ok_eq (λH=>ok_eq (λ_=>kX (j9 (λb=>j u y λ_=>b) λ_=>az a)) λh=>absurd H h) λH=>?_;exact ok_eq (λJ=>kX (j9 (λb=>j u y λ_=>b) λ_=>az a)) λJ=>ok_eq (λ_=>j u y λh=>by omega) λ_=>az a
abbrev gC(l:List cP)(i:Nat):cP:=l.getD i ⟨0,0,[],[]⟩
theorem YA{l:List cP}{i:Nat}(h:i<l.length):af l (i:Int)=some (gC l i):=db h _
theorem atQ{l:List cP}{i:Nat}(h:i<l.length):gC l i=l[i]:=by
 rw[gC,iR,cT h];rfl
structure agW(code:List cP)(H:List Int)(j:Nat):Prop where
 t:0<=(jq (gC code j).op).1
 p:Bq (gC code j) j code.length
 s:0<=gI H j->(jq (gC code j).op).1<=gI H j/\((gC code j).op≠11->gI H (j+1)=gI H j-(jq (gC code j).op).1+(jq (gC code j).op).2)/\((gC code j).op=9\/(gC code j).op=11->gI H (j+1+(gC code j).num.toNat)=gI H j-(jq (gC code j).op).1+(jq (gC code j).op).2)
structure vL(code:List cP)(H:List Int)(i:Nat):Prop where
 len:H.length=code.length+1
 h0:gI H 0=0
 b:∀j,j<H.length->-1<=gI H j/\gI H j<=12
 s:∀j,j<i->agW code H j
theorem D6{H:List Int}{p q:Nat}{v:Int}(a:p<H.length):gI (H.set p v) q=if q=p then v else gI H q:=by
 simp only[gI,iR,ays]
 by_cases c:p=q
 ·subst c;simp[a]
 ·rw[aE c,aE (λh=>c h.symm)]
theorem Vh(op:Int):(jq op).1<=3/\0<=(jq op).2/\(jq op).2<=1:=by
 unfold jq;split
 ·simp
 split
 ·simp
 split
 ·simp
 split
 ·simp
 split
 ·simp
 split<;>simp
theorem ad5{code:List cP}{H:List Int}{i p:Nat}{v:Int}(hi:vL code H i)(C:i<code.length)(M:i<p)(N:p<=code.length)(P:0<=v/\v<=12):Ok (yO n H p v) λx=>x.1=true->vL code x.2 i/\gI x.2 p=v/\∀q,0<=gI H q->gI x.2 q=gI H q:=by
 have D:=hi.len;have u:p<H.length:=by omega
 have e:=jt u;unfold yO;simp only[e,ak];refine pM (λh=>az λE=>?_) λh=>az λ_=>?_
 ·have F:gI H p=v:=by simpa[cN] using E
  exact⟨hi,F,λq _=>rfl⟩
 ·show vL code (aX H (p:Int) v) i/\gI (aX H (p:Int) v) p=v/\∀q,0<=gI H q->gI (aX H (p:Int) v) q=gI H q;have I:aX H (p:Int) v=H.set p v:=by simp[aX]
  rw[I];have dq:∀q,0<=gI H q->gI (H.set p v) q=gI H q:=λq S=>by
   rw[D6 u,aE (by rintro rfl;omega)]
  refine⟨⟨by rw[aaG];exact D,?_,λj y=>?_,λj y=>?_⟩,by rw[D6 u,aD rfl],dq⟩
  ·rw[D6 u,aE (by omega)];exact hi.h0
  ·rw[aaG] at y;rw[D6 u];split
   ·omega
   ·exact hi.b j y
  ·have A:=hi.s j y;have J:gI (H.set p v) j=gI H j:=by rw[D6 u,aE (by omega)]
   refine⟨A.t,A.p,λg=>?_⟩;rw[J] at g⊢;obtain⟨a,b,c⟩:=A.s g;have U:=Vh (gC code j).op;refine⟨a,λh=>?_,λh=>?_⟩
   ·rw[dq _ (by rw[b h];omega)];exact b h
   ·rw[dq _ (by rw[c h];omega)];exact c h
theorem vL.next{code:List cP}{H:List Int}{i:Nat}(h:vL code H i)(a:agW code H i):vL code H (i+1):=⟨h.len,h.h0,h.b,λj e=>by
 by_cases c:j=i
 ·rw[c];exact a
 ·exact h.s j (by omega)⟩
theorem ame{code:List cP}(hz:nu code)(hl:1<=code.length/\code.length<=80)(hn:2^41<=n):Ok (OT n code) λx=>x.2=true->vL code x.1 code.length/\gI x.1 code.length=1:=by
 have k0:∀(K:List cP->List Int->Option (List Int×Bool)),∀m i:Nat,i<=code.length+1->code.length+1<m+i->Jo n m code (List.replicate i (-1)) i K=K code (List.replicate (code.length+1) (-1)):=by
  intro K m
  induction m with
  |zero=>intro i P S;omega
  |succ m F=>
   intro i P S
   rw[Jo]
   by_cases hi:i<=code.length
   ·rw[show bE (i:Int) (au code)=true by rw[gx,aJ];exact fW (by omega),aF,eL (by simp;omega) (by omega),ak,bD (by omega),<-ayN];exact F (i+1) (by omega) (by omega)
   ·have:i=code.length+1:=by omega
    subst this;rw[show bE ((code.length+1:Nat):Int) (au code)=false by rw[gx,aJ];exact gu (by omega),aH]
 have k2:∀(K:List cP->List Int->Option (List Int×Bool))(Q:List Int×Bool->Prop),(∀H,vL code H code.length->Ok (K code H) Q)->(∀H,Q (H,false))->∀m i:Nat,∀H:List Int,i<=code.length->code.length<m+i->vL code H i->Ok (rh n m code H i K) Q:=by
  intro K Q hK C m
  induction m with
  |zero=>intro i H P S;omega
  |succ m F=>
   intro i H P S D
   have aa:=D.len
   rw[rh]
   refine cw (λhi=>?_) λhi=>?_
   ·rw[aJ] at hi;have I:i<code.length:=by omega
    have ec:=YA I;have eh:=jt (show i<H.length by omega);simp only[ec,eh,ak,ad4];have tb:=Vh (gC code i).op;have hb:=D.b i (by omega);have i1:aq .i64 (i:Int) 1=((i+1:Nat):Int):=bD (by omega);refine cw (λ_=>az (C _)) λt0=>?_;refine aW (anj (by rw[atQ I];exact hz _ (bI I)) (by rw[aJ];omega) hn) λb dS=>cd (cc (λbt=>?_) λ_=>az (C _));have J:=dS bt;rw[aJ] at J;rw[i1];refine cw (λab=>?_) λZ=>?_
    ·exact F (i+1) H (by omega) (by omega) (D.next ⟨t0,J,λh=>by omega⟩)
    refine cw (λ_=>az (C _)) λuE=>?_;rw[nq (by omega) (by omega) (by omega) (by omega),js (by omega) (by omega) (by omega) (by omega)];refine cw (λ_=>az (C _)) λB6=>?_;generalize hv:gI H i-(jq (gC code i).op).1+(jq (gC code i).op).2=v at B6;have EU:0<=v/\v<=12:=by omega
    have y:∀M,vL code M i->gI M i=gI H i->(gC code i).op=9\/(gC code i).op=11->((gC code i).op≠11->gI M (i+1)=v)->Ok (ae (yO n M (aq .i64 ((i+1:Nat):Int) (gC code i).num) v) λx=>cond (ay x.1) (some (x.2,false)) (rh n m code x.2 ((i+1:Nat):Int) K)) Q:=λM g1 g2 g3 g4=>by
     have E:=J.jmp g3
     obtain⟨u,U⟩:=gD E.1
     rw[U] at E
     rw[U,show aq .i64 ((i+1:Nat):Int) (u:Int)=((i+1+u:Nat):Int) from Sl (by omega)]
     refine aW (ad5 g1 I (by omega) (by omega) EU) λx hx=>cd (cc (λN=>?_) λ_=>az (C _))
     obtain⟨a,b,c⟩:=hx N
     refine F (i+1) x.2 (by omega) (by omega) (a.next ⟨t0,J,λh=>?_⟩)
     rw[c i (by omega)] at h⊢
     rw[g2] at h⊢
     rw[hv]
     refine⟨uE,λA=>?_,λ_=>?_⟩
     ·rw[c (i+1) (by rw[g4 A];omega),g4 A]
     ·rw[U,eC];exact b
    refine cd (ok_eq (λA=>?_) λA=>?_)
    ·refine ok_eq (λY=>by omega) λ_=>ok_eq (λ_=>y H D rfl (.inr A) λh=>absurd A h) λh=>absurd A h
    ·refine aW (ad5 D I (show i<i+1 by omega) (by omega) EU) λx hx=>?_;refine ok_eq (λY=>cc (λN=>?_) λ_=>az (C _)) λY=>ok_eq (λh=>absurd h A) λ_=>cd (cc (λN=>?_) λ_=>az (C _))
     ·obtain⟨a,b,c⟩:=hx N;exact y x.2 a (c i Z) (.inl Y) λ_=>b
     ·obtain⟨a,b,c⟩:=hx N;refine F (i+1) x.2 (by omega) (by omega) (a.next ⟨t0,J,λh=>?_⟩);rw[c i Z] at h⊢;rw[hv];exact⟨uE,λ_=>b,λh=>by omega⟩
   ·rw[aJ] at hi;have:i=code.length:=by omega
    subst this;exact hK H D
 unfold OT;refine avl (k0 _ n 0 (by omega) (by omega)) ?_;have qM:(List.replicate (code.length+1) (-1:Int)).length=code.length+1:=by simp
 have e0:=jt (l:=List.replicate (code.length+1) (-1:Int)) (i:=0) (by omega);rw[show((0:Nat):Int)=0 from rfl] at e0;rw[e0,ak,ak];have es:aX (List.replicate (code.length+1) (-1:Int)) 0 0=(List.replicate (code.length+1) (-1:Int)).set 0 0:=by simp[aX]
 rw[es];refine k2 _ _ (λH hH=>?_) (λH h=>by cases h) n 0 _ (by omega) (by omega) ⟨by simp,by rw[D6 (by omega),aD rfl],λj E=>?_,λj E=>by omega⟩
 ·have:=hH.len;have e:=jt (l:=H) (i:=code.length) (by omega);rw[aJ,e,ak,ak];exact az λh=>⟨hH,by simpa[cN] using h⟩
 ·rw[D6 (by omega)];split
  ·omega
  ·rw[aaG] at E;have:gI (List.replicate (code.length+1) (-1:Int)) j=-1:=by
    rw[gI,iR,cT E];simp
   rw[this];omega
end
end
section
section
variable{n:Nat}{R:Type}{Q:R->Prop}
theorem qB{x:Int}{f:aj->Option R}(a:2^41<=n)(hx:-9000000000000000000<=x/\x<=9000000000000000000)(h:∀s:aj,s.length<=21->Ok (f s) Q):Ok (ae (dz n x) f) Q:=by
 rw[o7 a hx];refine h _ ?_
 by_cases c:0<=x
 ·obtain⟨u,rfl⟩:=gD c;rw[pF];have:=GV 20 u (by omega) (by omega);omega
 ·obtain⟨u,rfl⟩:∃u:Nat,x=-(u:Int):=⟨x.natAbs,by omega⟩;rw[itoa_neg (by omega)];have:=GV 20 u (by omega) (by omega);simp;omega
theorem iK{a b:aj}{f:aj->Option R}(A B:Nat)(e:a.length<=A)(j:b.length<=B)(u:A+B<=1000000000)(h:∀s:aj,s.length<=A+B->Ok (f s) Q):Ok (ae (aO a b) f) Q:=atm (by omega) (h _ (by rw[dG];omega))
def XW:List aj:=[[],[112,117,115,104],[108,111,97,100],[97,100,100],[115,117,98],[109,117,108],[112,97,114,116],[109,105,110],[109,97,120],[116,101,115,116],[116,105,101,114,115],[115,107,105,112]]
theorem acL{op:Int}(h0:0<=(jq op).1)(a:op≠1)(e:op≠2)(j:op≠10)(h6:op≠6)(u:op≠9)(x:op≠11):jq op=(2,1):=by
 by_cases c:op=3\/op=4\/op=5\/op=7\/op=8
 ·simp[jq,a,e,j,c]
 ·have:jq op=(-1,0):=by simp[jq,a,e,j,c,h6,u,x]
  rw[this] at h0;exact absurd h0 (by decide)
theorem ao6{x:cP}{a l:Int}(h:Bq x a l)(hl:l<=1000/\0<=a)(C:2^41<=n):Ok (Qx n x) λs=>s.length<=400:=by
 obtain⟨m5,mk⟩:=h.m;have Z:∀(i:Nat),i<12->∃w:aj,af XW (i:Int)=some w/\w.length<=5:=by
  intro i hi
  have:i=0\/i=1\/i=2\/i=3\/i=4\/i=5\/i=6\/i=7\/i=8\/i=9\/i=10\/i=11:=by omega
  rcases this with rfl|rfl|rfl|rfl|rfl|rfl|rfl|rfl|rfl|rfl|rfl|rfl<;>exact⟨_,rfl,by decide⟩
 have D:∀(K:aj->Option aj),(∀s:aj,s.length<=300->Ok (K s) λs=>s.length<=400)->∀m i:Nat,∀out:aj,i<=x.marks.length->x.marks.length<m+i->out.length<=50+50*i->Ok (pC n m out i x K) λs=>s.length<=400:=by
  intro K hK m
  induction m with
  |zero=>intro i out u h2;omega
  |succ m ih=>
   intro i out u h2 h3
   rw[pC]
   refine cw (λhi=>?_) λhi=>hK out (by omega)
   rw[aJ] at hi
   have e:=bn (show i<x.marks.length by omega)
   have hm:=mk _ (bI (show i<x.marks.length by omega))
   simp only[e,ak,bD (show i<2^31 by omega)]
   refine iK _ 1 h3 (by simp) (by omega) λE j=>qB C (by omega) λw1 b1=>iK _ _ j b1 (by omega) λs2 F=>iK _ 1 F (by simp) (by omega) λs3 l3=>qB C (by omega) λw2 b2=>iK _ _ l3 b2 (by omega) λs4 l4=>?_
   exact ih (i+1) s4 (by omega) (by omega) (by omega)
 have k0:∀out:aj,out.length<=50->Ok (pC n n out 0 x λy=>ae (aO y [10]) λA=>some A) λs=>s.length<=400:=λout ho=>
  D _ (λs hs=>iK _ 1 hs (by simp) (by omega) λE j=>az (by omega)) n 0 out (by omega) (by omega) (by omega)
 have H:PS n=some XW:=rfl;unfold Qx;rw[H,ak];refine kX (cd (j9 (λhb=>?_) λ_=>az (by simp)));have I:aL .i64 (au XW) 1=11:=rfl;rw[I] at hb;obtain⟨op,wo⟩:=gD (show 0<=x.op by omega);obtain⟨w,S,U⟩:=Z op (by omega);rw[<-wo] at S;simp only[ak,S];have num:(-9000000000000000000<=x.num/\x.num<=9000000000000000000)->Ok (ae (aO w [32]) λJ=>ae (dz n x.num) λx6=>ae (aO J x6) λM=>pC n n M 0 x λy=>ae (aO y [10]) λA=>some A) λs=>s.length<=400:=λhx=>
  iK 5 1 U (by simp) (by omega) λE j=>qB C hx λw1 b1=>iK _ _ j b1 (by omega) λs2 F=>k0 s2 (by omega)
 have nam:=h.nam;have nm:Ok (ae (aO w [32]) λJ=>ae (aO J x.name) λM=>pC n n M 0 x λy=>ae (aO y [10]) λA=>some A) λs=>s.length<=400:=
  iK 5 1 U (by simp) (by omega) λE j=>iK _ _ j nam (by omega) λs2 F=>k0 s2 (by omega);refine ok_eq (λu=>ok_eq (λ_=>num (by have:=h.num u;omega)) λN=>absurd u N) λu=>?_;refine ok_eq (λP=>ok_eq (λ_=>num (by have:=h.jmp (.inl P);omega)) λN=>absurd P N) λP=>?_;refine ok_eq (λY=>num (by have:=h.jmp (.inr Y);omega)) λY=>?_;exact ok_eq (λ_=>nm) λ_=>k0 w (by omega)
def atS(code:List cP):Prop:=∀j,j<code.length->Bq (gC code j) j code.length
theorem ank{code:List cP}(j:atS code)(H:code.length<=80)(u:2^41<=n):Ok (Vw n code) λs=>s.length<=400*80:=by
 have a:∀m i:Nat,∀out:aj,i<=code.length->code.length<m+i->out.length<=400*i->Ok (JF n m code out i λx=>some x) λs=>s.length<=400*80:=by
  intro m
  induction m with
  |zero=>intro i out y A;omega
  |succ m C=>
   intro i out y A D
   rw[JF]
   refine cw (λhi=>?_) λhi=>az (by omega)
   rw[aJ] at hi
   have e:i<code.length:=by omega
   rw[YA e,ak,bD (by omega)]
   refine aW (ao6 (j i e) (by omega) u) λs E=>iK _ _ D E (by omega) λF I=>C (i+1) F (by omega) (by omega) (by omega)
 exact a n 0 [] (by omega) (by omega) (by simp)
def VmI(code:List cP):Prop:=code.length<=80/\∃H,vL code H code.length/\gI H code.length=1
theorem aqK{code:List cP}(hz:nu code)(D:code.length<=100000000)(a:2^41<=n):Ok (RM n code) λb=>b=true->VmI code:=by
 unfold RM;refine kX (cd (j9 (λu=>?_) λ_=>az λh=>by cases h));rw[aJ] at u;refine aW (ame hz (by omega) a) λx hx=>cc (λy=>?_) λ_=>az λh=>(by cases h);obtain⟨e,A⟩:=hx y;exact aW (ank (λj C=>(e.s j C).p) (by omega) a) λs _=>az λ_=>⟨by omega,x.1,e,A⟩
theorem asq{x:cP}{a l:Int}{j:List nO}{xs:List Int}(h:Bq x a l)(J:RY j)(h0:0<=(jq x.op).1)(M:x.op≠9)(N:x.op≠11)(A:(xs.length:Int)=(jq x.op).1)(hx:∀v∈xs,In v)(F:2^41<=n):Ok (RN n x j xs) pT:=by
 unfold RN;refine ok_eq (λD=>az (by show In _;have:=h.num D;omega)) λD=>ok_eq (λH=>aW (aqJ J F) λy u=>az u) λH=>ok_eq (λh6=>?_) λh6=>ok_eq (λC=>?_) λC=>?_
 ·have I:xs.length=3:=by rw[h6,show(jq 6).1=3 from rfl] at A;omega
  refine iV (by omega) (by omega) λp E _=>iV (by omega) (by omega) λq _ _=>iV (by omega) (by omega) λr _ _=>aW (ao5 (hx p E)) λy u=>az u
 ·have I:xs.length=1:=by rw[C,show(jq 10).1=1 from rfl] at A;omega
  have e:=jt (l:=xs) (i:=0) (by omega);rw[show((0:Nat):Int)=0 from rfl] at e;simp only[e,ak];have hi:In (gI xs 0):=by
   have:gI xs 0=xs[0]:=by rw[gI,iR,cT (by omega)];rfl
   rw[this];exact hx _ (bI _)
  exact cw (λ_=>az yv) λS=>aW (ani (by omega) (h.uP C) F) λy u=>az u
 ·have I:2<=xs.length:=by
    rw[acL h0 D H C h6 M N] at A
    have A:(xs.length:Int)=2:=A
    omega
  exact iV (by omega) (by omega) λp E _=>iV (by omega) (by omega) λq P _=>aW (aqI (hx p E) (hx q P)) λy u=>az u
end
end
section
section
variable{n:Nat}{R:Type}{Q:R->Prop}
theorem Jz{e:Type}{l:List e}{a b:Nat}{x:e}(h:x∈(l.drop a).take b):x∈l:=Ox (yA h)
theorem aqL{code:List cP}{A:List nO}{C:Int}(D:VmI code)(hp:RY A)(hn:2^41<=n):Ok (Q7 n code A C) λx=>In x.1:=by
 obtain⟨hl,H,U,ab⟩:=D;have ad:=U.len;have Y:∀(K:List Int->Int->Option (Int×Int×Int)),(∀j u,j.length=1->(∀v∈j,In v)->Ok (K j u) λx=>In x.1)->∀m p:Nat,∀(j:List Int)(u:Int),p<=code.length->code.length<m+p->(j.length:Int)=gI H p->(∀v∈j,In v)->0<=u/\u<=10*p->Ok (wT n m code A C j u p K) λx=>In x.1:=by
  intro K hK m
  induction m with
  |zero=>intro p j u h1 Z;omega
  |succ m ih=>
   intro p j u h1 Z h3 h4 h5
   rw[wT]
   refine cw (λhi=>?_) λhi=>?_
   ·rw[aJ] at hi;have jE:p<code.length:=by omega
    obtain⟨t0,pv,st⟩:=U.s p jE;obtain⟨s1,s2,s3⟩:=st (by omega);have hb:=U.b p (by omega);have tb:=Vh (gC code p).op;have m5:=pv.m.1;obtain⟨t,ht⟩:=gD t0;rw[ht] at s1 s2 s3 tb;obtain⟨w,I⟩:=gD tb.2.1;rw[I] at s2 s3 tb;rw[YA jE,ak];refine aW (P:=λc=>0<=c/\c<=6) ?_ λc hc=>?_
    ·unfold KY;rw[aJ,js (by omega) (by omega) (by omega) (by omega)];exact ok_eq (λ_=>az (by omega)) λ_=>az (by omega)
    rw[js (a:=u) (b:=c) (by omega) (by omega) (by omega) (by omega)];refine cw (λ_=>?_) λ_=>?_
    ·refine aW (P:=λ_=>True) ?_ λc' _=>az wM;unfold KY;exact ok_eq (λ_=>az trivial) λ_=>az trivial
    have e1:aL .i64 (au j) (t:Int)=((j.length-t:Nat):Int):=by rw[aJ,iA];omega
    rw[ad4,ak,ht,e1];have ec:bR (mB ((j.length-t:Nat):Int) (au j) (au j))=some ():=by
     unfold mB
     rw[aJ,fW (by omega)];rfl
    rw[ec,ak];refine BG (by omega) (by rw[aJ];omega) (by rw[aJ];omega) (BG (by omega) (by omega) (by omega) (dI (by simp;omega) (by omega) ?_));rw[aJ,eC,eC,show(0:Int).toNat=0 from rfl,wR,iw];have xl:((List.take (j.length-(j.length-t)) (List.drop (j.length-t) j)).length:Int)=t:=by rw[lv,oN];omega
    have xm:∀v∈List.take (j.length-(j.length-t)) (List.drop (j.length-t) j),In v:=λv D=>h4 v (Jz D);have rl:((List.take (j.length-t-0) j).length:Int)=gI H p-t:=by rw[lv];omega
    have S:∀v∈List.take (j.length-t-0) j,In v:=λv D=>h4 v (yA D);generalize List.take (j.length-(j.length-t)) (List.drop (j.length-t) j)=xs at xl xm;generalize List.take (j.length-t-0) j=E at rl S;have next:∀F:List Int,(F.length:Int)=gI H (p+1)->(∀v∈F,In v)->Ok (wT n m code A C F (u+c) (aq .i64 (p:Int) 1) K) λx=>In x.1:=λF g1 g2=>by
     rw[bD (by omega)]
     exact ih (p+1) F (u+c) (by omega) (by omega) g1 g2 (by omega)
    have J:(gC code p).op=9\/(gC code p).op=11->∀F:List Int,(F.length:Int)=gI H p-t+w->(∀v∈F,In v)->Ok (wT n m code A C F (u+c) (aq .i64 (aq .i64 (p:Int) 1) (gC code p).num) K) λx=>In x.1:=λg0 F g1 g2=>by
     have hj:=pv.jmp g0
     have g3:=s3 g0
     obtain⟨q,hq⟩:=gD hj.1
     rw[hq] at hj g3
     rw[eC] at g3
     rw[hq,bD (by omega),Sl (by omega)]
     exact ih (p+1+q) F (u+c) (by omega) (by omega) (by omega) g2 (by omega)
    refine ok_eq (λM=>?_) λM=>ok_eq (λN=>?_) λN=>?_
    ·have aa:w=0:=by
       rw[M] at I
       have:(jq 11).2=0:=rfl
       omega
     exact J (.inr M) E (by omega) S
    ·have aa:w=0:=by
       rw[N] at I
       have:(jq 9).2=0:=rfl
       omega
     have ng:t=2:=by
      rw[N] at ht
      have:(jq 9).1=2:=rfl
      omega
     refine iV (by omega) (by omega) λa _ _=>iV (by omega) (by omega) λb _ _=>pM (λ_=>?_) λ_=>?_
     ·exact J (.inl N) E (by omega) S
     ·exact next E (by rw[s2 M];omega) S
    ·have am:w=1:=by
       have Al:0<=(jq (gC code p).op).1:=by omega
       by_cases c1:(gC code p).op=1
       ·rw[c1] at I;have:(jq 1).2=1:=rfl;omega
       by_cases c2:(gC code p).op=2
       ·rw[c2] at I;have:(jq 2).2=1:=rfl;omega
       by_cases Oc:(gC code p).op=10
       ·rw[Oc] at I;have:(jq 10).2=1:=rfl;omega
       by_cases c6:(gC code p).op=6
       ·rw[c6] at I;have:(jq 6).2=1:=rfl;omega
       rw[acL Al c1 c2 Oc c6 N M] at I;have:((2:Int),(1:Int)).2=1:=rfl;omega
     refine aW (asq pv hp (by omega) N M (by omega) xm hn) λy hy=>cd (ok_eq (λ_=>?_) λ_=>az wM);refine dI (by simp;omega) (by omega) (next _ ?_ λv D=>?_)
     ·rw[s2 M,dG,yx];omega
     ·rcases cU.1 D with D|D
      ·exact S v D
      ·rw[fe] at D;rw[D];exact hy
   ·rw[aJ] at hi;have:p=code.length:=by omega
    subst this;exact hK j u (by omega) h4
 unfold Q7;refine Y _ (λj u h1 Z=>?_) n 0 [] 0 (by omega) (by omega) (by rw[U.h0];rfl) (by simp) (by omega);have e:=jt (l:=j) (i:=0) (by omega);rw[show((0:Nat):Int)=0 from rfl] at e;rw[e,ak,ak];refine az (Z _ ?_);rw[gI,iR,cT (by omega)];exact bI _
theorem ao7{code:List cP}{a:List nO}{e:Int}(hz:nu code)(u:code.length<=100000000)(y:RY a)(j:2^41<=n):Ok (Q8 n code a e) λx=>In x.1:=by
 unfold Q8;exact aW (aqK hz u j) λb A=>cd (cc (λC=>kX (cd (j9 (λ_=>aW (aqL (A C) y j) λx hx=>az hx) λ_=>az wM))) λ_=>az wM)
def agh(x:Int×Int):Prop:=In x.1/\(x.2=0->0<=x.1)
theorem asr{r:ah}{legs aG a:Int}(e:uq n r)(j:2^41+6<=n):Ok (RO n r legs aG a) agh:=by
 have u:Ok (Qw n r) λcode=>nu code/\code.length<=11^6:=by
  unfold Qw
  rw[iz,e.ok,ak,cn,dy,aH]
  exact aW (QK 6 n r j (by omega) e.p) λx hx=>az hx
 unfold RO;rw[iz];refine aW u λcode y=>aW (ao7 y.1 (by omega) (by show(3:Nat)<=1000;omega) (by omega)) λx hx=>ok_eq (λh0=>cw (λ_=>az ⟨wM,λh=>absurd (show(2:Int)=0 from h) (by omega)⟩) λh=>az ⟨hx,λ_=>h⟩) λh=>az ⟨hx,λA=>absurd A h⟩
theorem anl{f:eD}{legs aG a:Int}(j:zn n f)(u:2^41+6<=n):Ok (Qz n f legs aG a) agh:=by
 obtain⟨r,_,y,e⟩:=j.r;unfold Qz;rw[e,ak,cn,dy,aH,iz];exact aW (asr y u) λx hx=>az hx
end
end
section
section
variable{n:Nat}{R:Type}{Q:R->Prop}
theorem jN{S:Type}{N:Nat}(A:N<2^30)(L:Nat->S->Int->Option R)(I:Nat->S->Prop){m:Nat}{s:S}(C:N<m)(x:I 0 s)(h0:∀m s,I N s->Ok (L (m+1) s N) Q)(j:∀m i s,i<N->I i s->(∀a,I (i+1) a->Ok (L m a ((i+1:Nat):Int)) Q)->Ok (L (m+1) s i) Q):Ok (L m s 0) Q:=by
 have e:∀m i:Nat,∀s,i<=N->N<m+i->I i s->Ok (L m s i) Q:=by
  intro m
  induction m with
  |zero=>intro i s j D;omega
  |succ m y=>
   intro i s E g2 u
   by_cases c:i<N
   ·exact j m i s c u λa g=>y (i+1) a (by omega) (by omega) g
   ·have:i=N:=by omega
    subst this;exact h0 m s u
 exact e m 0 s (by omega) (by omega) x
theorem jO{a b:Int}{x y:Option R}(h:a<b)(e:Ok x Q):Ok (cond (av a b) x y) Q:=by rw[BL h];exact e
theorem jb{a b:Int}{x y:Option R}(h:¬ a<b)(e:Ok y Q):Ok (cond (av a b) x y) Q:=by rw[xB h];exact e
structure Zg(w:List Int):Prop where
 l:1<=w.length/\w.length<=8
 b:∀x∈w,1<=x/\x<=100000
theorem amf{w:List Int}(h:Zg w)(j:2^41<=n):Ok (OU n w) λx=>1<=x/\x<=1000000:=by
 have u:=h.l;unfold OU;refine jN (N:=w.length) (by omega) (λm s i=>FL n m w s i _) (λi s=>i<=s/\s<=100000*i) (by omega) (by omega) (λm s a=>?_) λm i s hi a K=>?_
 ·rw[FL];refine jb (by rw[aJ];omega) (jb (by rw[aJ];omega) (jb (by omega) (az (by omega))))
 ·have y:=h.b _ (bI hi);rw[FL];refine jO (by rw[aJ];omega) ?_;rw[bn hi,ak,ak];refine kX (cd (j9 (λ_=>?_) λe=>absurd (by omega) e));rw[bD (by omega),js (by omega) (by omega) (by omega) (by omega)];exact K _ (by omega)
theorem anm{a sum:Int}{w:List Int}(h:Zg w)(I:0<=a/\a<=1000000000000)(hs:1<=sum/\sum<=1000000)(hn:2^41<=n):Ok (Ks n a w sum) λx=>x.length=w.length:=by
 have hl:=h.l;have k2:∀m:Nat,∀(out left:List Int)(e:Int),out.length=w.length->left.length=w.length->e<m->1<=m->-4611686018427387904<=e->e<=1000000000000->Ok (JG n m out left e λJ=>some J) λx=>x.length=w.length:=by
  intro m
  induction m with
  |zero=>intro out left e _ _ _ h;omega
  |succ m u=>
   intro out left e C F M _ h4 h5
   rw[JG]
   refine cw (λP=>?_) λP=>az C
   have k4:∀(K:List Int->List Int->Int->Int->Option (List Int)),(∀b:Nat,b<w.length->Ok (K out left e b) λx=>x.length=w.length)->∀m i b:Nat,1<=i->i<=w.length->w.length<m+i->b<w.length->Ok (F5 n m out left e b i K) λx=>x.length=w.length:=by
    intro K S m
    induction m with
    |zero=>intro i b C F M;omega
    |succ m u=>
     intro i b D g2 U g4
     rw[F5]
     refine cw (λhi=>?_) λhi=>S b g4
     rw[aJ] at hi
     have j:=jt (l:=left) (i:=i) (by omega)
     have E:=jt (l:=left) (i:=b) (by omega)
     simp only[j,E,ak,bD (show i<2^31 by omega)]
     exact cw (λ_=>u (i+1) i (by omega) (by omega) (by omega) (by omega)) λ_=>u (i+1) b (by omega) (by omega) (by omega) g4
   refine k4 _ (λb H=>?_) n 1 0 (by omega) (by omega) (by omega) (by omega)
   have j:=jt (l:=out) (i:=b) (by omega)
   have E:=jt (l:=left) (i:=b) (by omega)
   simp only[j,E,ak]
   rw[nq (by omega) (by omega) (by omega) (by omega)]
   exact u _ _ _ (by rw[mP];exact C) (by rw[mP];exact F) (by omega) (by omega) (by omega) (by omega)
 unfold Ks;refine jN (N:=w.length) (by omega) (λm(s:List Int×List Int×Int)i=>F4 n m a w sum s.1 s.2.1 s.2.2 i _) (λi s=>s.1.length=i/\s.2.1.length=i/\s.2.2<=1000000000000/\-(200000000000000000*(i:Int))<=s.2.2) (m:=n) (s:=([],[],a)) (by omega) ⟨rfl,rfl,by show a<=_;omega,by show _<=a;omega⟩ (λm s y=>?_) λm i s hi y K=>?_
 ·rw[F4];refine jb (by rw[aJ];omega) ?_;exact k2 n _ _ _ y.1 y.2.1 (by omega) (by omega) (by omega) (by omega)
 ·obtain⟨D,g2,U,g4⟩:=y;have H:=h.b _ (bI hi);rw[F4];refine jO (by rw[aJ];omega) ?_;have A:0<=a*w[i]:=Oz I.1 (by omega);have Fg:a*w[i]<=1000000000000*100000:=ak3 (by omega) H.2 (by omega) (by omega);have Y:0<=a*w[i]/sum:=Jh A (by omega);have Z:a*w[i]/sum<=a*w[i]:=Oy _ A;have em:cR .i64 a w[i]=a*w[i]:=oW (by omega);simp only[bn hi,ak,em];refine xp (by omega) A (by omega) (dI (by simp;omega) (by omega) (xq (by omega) A (dI (by simp;omega) (by omega) ?_)));have j:af (s.1++[a*w[i]/sum]) (i:Int)=some (a*w[i]/sum):=by
   rw[jt (by simp;omega)]
   congr 1
   generalize a*w[i]/sum=q
   rw[<-D,aff]
  rw[j,ak,ak,bD (by omega),nq (by omega) (by omega) (by omega) (by omega)];exact K (s.1++[a*w[i]/sum],s.2.1++[a*w[i] % sum],s.2.2-a*w[i]/sum) ⟨by simp[D],by simp[g2],by show s.2.2-_<=_;omega,by show _<=s.2.2-_;omega⟩
theorem ann{a:Int}{w:List Int}(h:Zg w)(j:0<=a/\a<=1000000000000)(e:2^41<=n):Ok (OJ n a w) λx=>x.length=w.length:=by
 unfold OJ UO;refine aW (P:=λx=>x.length=w.length) ?_ λx hx=>az hx;refine aW (amf h e) λx hx=>H0 (cd (j9 (λ_=>ok_eq (λh0=>by omega) λ_=>pM (λ_=>aW (anm h j hx e) λy u=>az u) λh0=>by omega) λA=>absurd (show In a by omega) A))
structure mA(t:aS):Prop where
 l:t.legs.length<=100
 w:∀s∈t.legs,s.length<=100
 f:t.jd.length<=100
 s:-1000<=t.aG/\t.aG<=1000
structure tn(net:List ax):Prop where
 l:∀l∈net,gR l
 b:1<=net.length/\net.length<=6
theorem atU{net:List ax}{name:aj}{f:Int->Option R}(hz:tn net)(u:2^41<=n)(h:∀x:Int,x=-1\/(∃k:Nat,x=k/\k<net.length/\(gL net k).name=name)->pG n net name=some x->Ok (f x) Q):Ok (ae (pG n net name) f) Q:=by
 have A:=hz.b;have e:=XL (n:=n) (net:=net) (name:=name) (by omega) u;rw[e,ak];refine h _ ?_ e;rcases tX (p:=λl:ax=>decide (l.name=name)) (xs:=net) (i:=0) with⟨e,_⟩|⟨j,a,e,y,_⟩
 ·exact .inl e
 ·exact .inr ⟨j,by rw[e];simp,a,by rw[vt a];simpa using y⟩
theorem ao8{t:aS}(h:mA t)(e:2^41<=n):Ok (DL n t) λb=>b=true->1<=t.legs.length/\t.legs.length<=3/\1<=t.aG/\t.aG<=4:=by
 have A:=h.l;have C:=h.f;have a:∀{p:Prop},false=true->p:=λh=>(by cases h);unfold DL;refine jN (N:=t.legs.length) (by omega) (λm(_:Unit)i=>yF n m i t _) (λ_ _=>True) (m:=n) (s:=()) (by omega) trivial (λm _ _=>?_) λm i _ hi _ K=>?_
 ·rw[yF];refine jb (by rw[aJ];omega) (kX (j9 (λu=>?_) λ_=>az a));rw[u5 (by omega) e,ak];refine cc (λ_=>kX (az λx=>?_)) λ_=>az a;rw[bH] at x;rw[aJ] at u;omega
 ·rw[yF];refine jO (by rw[aJ];omega) ?_;have D:=h.w _ (bI hi);rw[bn hi,ak,u5 (by omega) e,ak];refine cd (cc (λ_=>?_) λ_=>az a);refine jN (N:=i) (by omega) (λm(_:Unit)k=>yE n m i k t _) (λ_ _=>True) (m:=n) (s:=()) (by omega) trivial (λm _ _=>?_) λm j _ E _ y=>?_
  ·rw[yE];refine jb (by omega) ?_;rw[bD (by omega)];exact K () trivial
  ·rw[yE];refine jO (by omega) ?_;rw[bn (show j<t.legs.length by omega),ak,bn hi,ak,bD (by omega)];exact qz (λ_=>az a) λ_=>y () trivial
theorem ad6{a b:ax}:Ok (KW n a b) λ_=>True:=by
 unfold KW;exact cc (λ_=>az trivial) λ_=>az trivial
theorem ass{net:List ax}{t:aS}(hz:tn net)(h:mA t)(C:2^41<=n):Ok (RL n net t) λb=>b=true->(1<=t.legs.length/\t.legs.length<=3/\1<=t.aG/\t.aG<=4)/\∀s∈t.legs,∃k:Nat,pG n net s=some (k:Int)/\k<net.length/\(gL net k).name=s:=by
 have S:=h.l;have y:∀{p:Prop},false=true->p:=λh=>(by cases h);unfold RL;refine aW (ao8 h C) λb E=>cd (cc (λF=>?_) λ_=>az y);refine jN (N:=t.legs.length) (by omega) (λm(_:Unit)i=>AW n m net i t _) (λi _=>∀j(a:j<t.legs.length),j<i->∃k:Nat,pG n net t.legs[j]=some (k:Int)/\k<net.length/\(gL net k).name=t.legs[j]) (m:=n) (s:=()) (by omega) (λj _ a=>by omega) (λm _ u=>?_) λm i _ hi u K=>?_
 ·rw[AW];refine jb (by rw[aJ];omega) (az λ_=>⟨E F,λs H=>?_⟩);obtain⟨j,a,rfl⟩:=q9 H;exact u j a a
 ·rw[AW];refine jO (by rw[aJ];omega) ?_;rw[bn hi,ak];refine atU hz C λx hx I=>cw (λ_=>az y) λJ=>?_;rcases hx with hx|⟨k,rfl,D,M⟩
  ·omega
  have nx:Ok (AW n m net (aq .i64 (i:Int) 1) t (some true)) λb=>b=true->(1<=t.legs.length/\t.legs.length<=3/\1<=t.aG/\t.aG<=4)/\∀s∈t.legs,∃k:Nat,pG n net s=some (k:Int)/\k<net.length/\(gL net k).name=s:=by
   rw[bD (by omega)]
   refine K () λj a U=>?_
   by_cases c:j=i
   ·subst c;exact⟨k,I,D,M⟩
   ·exact u j a (by omega)
  refine cw (λh0=>?_) λ_=>nx;have e:aL .i64 (i:Int) 1=((i-1:Nat):Int):=by rw[iA];omega
  obtain⟨Y,A,P,_⟩:=u (i-1) (by omega) (by omega);rw[e,bn (show i-1<t.legs.length by omega),ak,A,ak,bn P,ak,bn D,ak];exact aW ad6 λb _=>cd (cc (λ_=>nx) λ_=>az y)
end
end
section
section
variable{n:Nat}{R:Type}{Q:R->Prop}
structure RZ(n:Nat)(fs:List eD):Prop where
 f:∀f∈fs,zn n f
 l:1<=fs.length/\fs.length<=4
theorem ao9{fs:List eD}{name:aj}(h:RZ n fs)(a:2^41<=n):Ok (Qv n fs name) λx=>x=-1\/∃k:Nat,x=k/\k<fs.length:=by
 have e:=h.l;unfold Qv;refine jN (N:=fs.length) (by omega) (λm(_:Unit)i=>Gr n m fs name i _) (λ_ _=>True) (m:=n) (s:=()) (by omega) trivial (λm _ _=>?_) λm i _ hi _ K=>?_
 ·rw[Gr];exact jb (by rw[aJ];omega) (az (.inl rfl))
 ·rw[Gr];refine jO (by rw[aJ];omega) ?_;rw[bn hi,ak,bD (by omega)];exact qz (λ_=>az (.inr ⟨i,rfl,hi⟩)) λ_=>K () trivial
structure zJ(n:Nat)(net:List ax)(ops:List aY):Prop where
 l:ops.length<=3
 o:∀o∈ops,o.ba.length<=100/\∃k:Nat,pG n net o.ba=some (k:Int)/\k<net.length
theorem zJ.nil{net:List ax}:zJ n net []:=⟨by simp,by simp⟩
theorem Xp{net:List ax}{cM:List eD}{t:aS}(hz:tn net)(I:RZ n cM)(h:mA t)(hn:2^42<=n):Ok (xg n net cM t) λx=>zJ n net x.1/\(0<=x.2.1/\x.2.1<=1000000000000)/\0<=x.2.2/\x.2.2<=100:=by
 have hl:=h.l;have j:∀{e:Int},0<=e/\e<=100->zJ n net (([]:List aY),(0:Int),e).1/\(0<=(([]:List aY),(0:Int),e).2.1/\(([]:List aY),(0:Int),e).2.1<=1000000000000)/\0<=(([]:List aY),(0:Int),e).2.2/\(([]:List aY),(0:Int),e).2.2<=100:=λJ=>⟨zJ.nil,⟨by show(0:Int)<=0;omega,by show(0:Int)<=_;omega⟩,J.1,J.2⟩;unfold xg;refine aW (ao9 I (by omega)) λf y=>cw (λ_=>az (j (by omega))) λf0=>?_;rcases y with y|⟨f,rfl,H⟩
 ·omega
 refine aW (ass hz h (by omega)) λb U=>cd (cc (λY=>?_) λ_=>az (j (by omega)));obtain⟨hs,A⟩:=U Y;refine jN (N:=t.legs.length) (by omega) (λm(s:List Int×Int)i=>GJ n m net cM f s.1 s.2 i t _) (λi s=>s.1.length=i/\∀x∈s.1,1<=x/\x<=100000) (m:=n) (s:=([],0)) (by omega) ⟨rfl,by simp⟩ (λm s E=>?_) λm i s hi E K=>?_
 ·rw[GJ];refine jb (by rw[aJ];omega) ?_;rw[bn H,ak];refine aW (anl (I.f _ (bI H)) (by omega)) λp M=>cd (ok_eq (λZ=>?_) λ_=>az (j (by omega)));have P:=M.2 Z;have p1:=M.1;have C:-1000000000000<=p.1/\p.1<=1000000000000:=p1;refine aW (ann ⟨by omega,E.2⟩ ⟨P,C.2⟩ (by omega)) λsh oc=>?_;refine jN (N:=t.legs.length) (by omega) (λm(s:List aY)i=>GK n m cM f p.1 sh s i t _) (λi s=>s.length=i/\∀o∈s,o.ba.length<=100/\∃k:Nat,pG n net o.ba=some (k:Int)/\k<net.length) (m:=n) (s:=[]) (by omega) ⟨rfl,by simp⟩ (λm s F=>?_) λm i s hi F K=>?_
  ·rw[GK];refine jb (by rw[aJ];omega) (az ⟨⟨by show s.length<=3;omega,F.2⟩,⟨P,C.2⟩,by show(0:Int)<=0;omega,by show(0:Int)<=100;omega⟩)
  ·rw[GK];refine jO (by rw[aJ];omega) ?_;rw[bn hi,ak,bn H,ak,jt (show i<sh.length by omega),ak,ak,bD (by omega)];refine dI (by simp;omega) (by omega) (K _ ⟨by simp[F.1],λo u=>?_⟩);rcases cU.1 u with u|u
   ·exact F.2 o u
   ·rw[fe] at u;subst u;obtain⟨k,a,b,_⟩:=A _ (bI hi);exact⟨h.w _ (bI hi),k,a,b⟩
 ·rw[GJ];refine jO (by rw[aJ];omega) ?_;obtain⟨k,ek,S,_⟩:=A _ (bI hi);have D:=hz.l _ (bI S);have hd:=D.dJ;have ha:=D.arr;rw[bn hi,ak,ek,ak,bn S,ak,bD (by omega),nq (a:=net[k].arr) (by omega) (by omega) (by omega) (by omega)];refine dI (by simp;omega) (by omega) (K (s.1++[net[k].arr-net[k].dJ],_) ⟨by simp[E.1],λx hx=>?_⟩);rcases cU.1 hx with hx|hx
  ·exact E.2 x hx
  ·rw[fe] at hx;omega
structure Og(n:Nat)(c:bG):Prop where
 net:tn c.net
 base:qy c.net=true
 gi:c.gi.length=c.net.length
 wb:EF c.gi
 cM:RZ n c.cM
theorem Ws{c:bG}{t:cp}(h:Og n c)(j:mA t.eU)(u:2^42<=n):Ok (w9 n c t) (zJ n c.net):=by
 unfold w9;refine aW (Xp h.net h.cM j u) λx hx=>?_;have y:=hx.1.l;refine jN (N:=x.1.length) (by omega) (λm(s:List aY)i=>Gu n m s i t _) (λi s=>s.length=x.1.length/\zJ n c.net s) (m:=n) (s:=x.1) (by omega) ⟨rfl,hx.1⟩ (λm s a=>?_) λm i s hi a K=>?_
 ·rw[Gu];exact jb (by rw[aJ];omega) (az a.2)
 ·rw[Gu];refine jO (by rw[aJ];omega) (cw (λ_=>?_) λ_=>az a.2);simp only[bn (show i<s.length by omega),ak,bD (show i<2^31 by omega)];refine K _ ⟨by rw[mP];exact a.1,⟨by rw[mP];exact a.2.l,λo e=>?_⟩⟩;unfold aX at e;rcases Fj e with e|e
  ·exact a.2.o o e
  ·subst e;have:=a.2.o _ (bI (show i<s.length by omega));exact this
theorem ad7{c:bG}{ops:List aY}{o:aY}{f:Int->Option R}(h:Og n c)(a:zJ n c.net ops)(e:o∈ops)(j:∀x,1<=x/\x<=2->Ok (f x) Q):Ok (ae (JY n c o.ba) f) Q:=by
 obtain⟨_,k,u,y⟩:=a.o o e;have A:=h.gi;refine aW (P:=λx=>1<=x/\x<=2) ?_ j;unfold JY;rw[u,ak,bn (show k<c.gi.length by omega),ak];exact az (h.wb _ (bI _))
structure sV(c:Nat)(t:aS):Prop where
 l:t.legs.length<=c
 w:∀s∈t.legs,s.length<=100
 f:t.jd.length<=100
 s:-1000<=t.aG/\t.aG<=1000
theorem sV.mono{c d:Nat}{t:aS}(h:sV c t)(a:c<=d):sV d t:=⟨by have:=h.l;omega,h.w,h.f,h.s⟩
theorem sV.z{c:Nat}{t:aS}(h:sV c t)(a:c<=100):mA t:=⟨by have:=h.l;omega,h.w,h.f,h.s⟩
theorem sV.add{c:Nat}{t:aS}{s:aj}(h:sV c t)(a:s.length<=100):sV (c+1) {t with legs:=t.legs++[s]}:=⟨by have:=h.l;simp;omega,λx hx=>by
 rcases cU.1 hx with hx|hx
 ·exact h.w x hx
 ·rw[fe] at hx;rw[hx];exact a,h.f,h.s⟩
theorem VL{net:List ax}(hz:tn net){l:ax}(h:l∈net):l.name.length<=100:=by
 have:=mQ (hz.l l h).n1;omega
theorem apa{net:List ax}{n1:Int}{M:Int}(hz:tn net)(I:M<=999000000000){c:Nat}(J:c<=50){t:aS}{l:ax}{r:Rd}(e:sV c t)(E:bU M r)(P:2^41<=n){K:List ax->Int->aS->ax->Rd->Option (aS×Rd)}{Q:aS×Rd->Prop}(j:∀u F y,sV (c+1) u->bU (M+10) y->Ok (K net n1 u F y) Q):Ok (Ay n n net n1 0 t l r K) Q:=by
 have S:=hz.b;refine jN (N:=net.length) (by omega) (λm(s:Rd)i=>Ay n m net n1 i t l s _) (λi s=>bU (M+i) s) (m:=n) (s:=r) (by omega) (E.mono (by omega)) (λm s a=>?_) λm i s hi a A=>?_
 ·rw[Ay];exact jb (by rw[aJ];omega) (j t l s (e.mono (by omega)) (a.mono (by omega)))
 ·rw[Ay];refine jO (by rw[aJ];omega) ?_;have H:=bI hi;rw[bn hi,ak,bD (by omega)];refine aW ad6 λb _=>cc (λ_=>?_) λ_=>A s (a.mono (by omega));refine cJ a (by omega) (by omega) λx C _ _ D=>ok_eq (λ_=>?_) λ_=>A C (D.mono (by omega));rw[ak];exact dI (by have:=e.l;simp;omega) (by omega) (j _ _ C (e.add (VL hz H)) (D.mono (by omega)))
theorem ad8{net:List ax}{M:Int}(hz:tn net)(A:M<=998000000000)(x:2^41<=n){K:List ax->aS->Rd->Option (aS×Rd)}{Q:aS×Rd->Prop}(y:∀a e,sV 10 a->bU (M+40) e->Ok (K net a e) Q):∀(m d:Nat)(t:aS)(l:ax)(r:Rd),d<=3->d<m->sV (5-d) t->bU (M+10*(4-d)) r->Ok (C8 n m net d t l r K) Q
 |0,d,t,l,r,C,D,j,u=>by omega
 |m+1,d,t,l,r,C,D,j,u=>by
  rw[C8];refine cw (λh=>?_) λh=>y t r (j.mono (by omega)) (u.mono (by omega));refine apa hz (by omega) (by omega) j u x λa E e F H=>?_;rw[show aL .i64 (d:Int) 1=((d-1:Nat):Int) by rw[iA];omega];exact ad8 hz A x y m (d-1) a E e (by omega) (by omega) (F.mono (by omega)) (H.mono (by omega))
theorem ano{net:List ax}{cM:List eD}{N:Int}{r:Rd}(hz:tn net)(hf:RZ n cM)(E:bU N r)(hN:N<=900000000000)(hn:2^41<=n):Ok (wX n r net cM) λx=>mA x.1/\bU (N+100) x.2:=by
 have hb:=hz.b;have gz:=hf.l;have F:∀(t:aS)(r:Rd),sV 10 t->bU (N+50) r->Ok (ae (aI n r 12) λy=>
 cond (ai y.1 0)
  (ae (aI n y.2 (au net)) λH=>
  ae (af net H.1) λhY=>
  ae (aN 16 t.legs [hY.name]) λI=>
  ae (aI n H.2 20) λA=>
  cond (ai A.1 0)
   (ae (oR n A.2 [[110,111,110,101],[65],[]]) λJ=>
   some (aS.mk I J.1 t.aG,J.2))
   (some ({t with legs:=I},A.2)))
  (ae (aI n y.2 20) λC=>
  cond (ai C.1 0)
   (ae (oR n C.2 [[110,111,110,101],[65],[]]) λP=>
   some ({t with jd:=P.1},P.2))
   (some (t,C.2)))) λx=>mA x.1/\bU (N+100) x.2:=λt r D E=>by
   have fl:∀x:aj,x∈([[110,111,110,101],[65],[]]:List aj)->x.length<=100:=λx hx=>by
    simp only[cO,oP,oQ] at hx
    rcases hx with rfl|rfl|rfl<;>simp
   refine cJ E (by omega) (by omega) λa r1 _ _ Z=>ok_eq (λ_=>?_) λ_=>?_
   ·refine cJ Z (by omega) (by rw[aJ];omega) λb r2 b0 b1 S=>iV b0 (by rw[aJ] at b1;omega) λl hl _=>?_;have ha:=D.add (VL hz hl);refine dI (by have:=D.l;simp;omega) (by omega) (cJ S (by omega) (by omega) λe U _ _ j=>ok_eq (λ_=>?_) λ_=>az ⟨ha.z (by omega),j.mono (by omega)⟩);exact Ir j (by omega) (by simp) λs r4 hs Y=>az ⟨⟨by have:=ha.l;show(t.legs++[l.name]).length<=100;exact Fh this (by omega),ha.w,fl s hs,ha.s⟩,Y.mono (by omega)⟩
   ·refine cJ Z (by omega) (by omega) λe U _ _ j=>ok_eq (λ_=>?_) λ_=>az ⟨D.z (by omega),j.mono (by omega)⟩;exact Ir j (by omega) (by simp) λs r4 hs Y=>az ⟨⟨by have:=D.l;show t.legs.length<=100;omega,D.w,fl s hs,D.s⟩,Y.mono (by omega)⟩
 have u:∀(f:eD)(q:Int)(r:Rd),f∈cM->(-1000<=q/\q<=1000)->bU (N+5) r->Ok (ae (aI n r (au net)) λx5=>
 ae (af net x5.1) λx6=>
 ae (aN 16 [] [x6.name]) λx7=>
 ae (aI n x5.2 3) λx8=>
 C8 n n net x8.1 (aS.mk x7 f.name q) x6 x8.2 λL5 t40 Z0=>
 ae (aI n Z0 12) λy=>
 cond (ai y.1 0)
  (ae (aI n y.2 (au L5)) λH=>
  ae (af L5 H.1) λhY=>
  ae (aN 16 t40.legs [hY.name]) λI=>
  ae (aI n H.2 20) λA=>
  cond (ai A.1 0)
   (ae (oR n A.2 [[110,111,110,101],[65],[]]) λJ=>
   some (aS.mk I J.1 t40.aG,J.2))
   (some ({t40 with legs:=I},A.2)))
  (ae (aI n y.2 20) λC=>
  cond (ai C.1 0)
   (ae (oR n C.2 [[110,111,110,101],[65],[]]) λP=>
   some ({t40 with jd:=P.1},P.2))
   (some (t40,C.2)))) λx=>mA x.1/\bU (N+100) x.2:=λf q r Up hq E=>by
   refine cJ E (by omega) (by rw[aJ];omega) λb r2 b0 b1 S=>iV b0 (by rw[aJ] at b1;omega) λl hl _=>?_
   refine dI (by simp) (by omega) (cJ S (by omega) (by omega) λd U d0 d1 j=>?_)
   obtain⟨d,rfl⟩:=gD d0
   have n4:=(mQ (hf.f f Up).nm).2.2
   exact ad8 (n:=n) (M:=N+8) hz (by omega) hn (λt' r' h1 h2=>F t' r' h1 (h2.mono (by omega))) n d _ l U (by omega) (by omega) ⟨by show(1:Nat)<=_;omega,λx hx=>by
    have hx:x∈([]++[l.name]:List aj):=hx
    rw[iw,fe] at hx;rw[hx];exact VL hz hl,by show f.name.length<=100;omega,hq⟩ (j.mono (by omega))
 unfold wX;refine cJ E (by omega) (by rw[aJ];omega) λa r1 a0 a1 Z=>iV a0 (by rw[aJ] at a1;omega) λf Up _=>?_;refine cJ Z (by omega) (by omega) λb r2 b0 b1 S=>cJ S (by omega) (by omega) λc U _ _ j=>ok_eq (λ_=>?_) λ_=>?_
 ·exact cJ j (by omega) (by omega) λq r4 q0 q1 Y=>u f q r4 Up (by omega) (Y.mono (by omega))
 ·refine u f _ U Up ?_ (j.mono (by omega));show-1000<=aq .i64 1 b/\aq .i64 1 b<=1000;rw[js (by omega) (by omega) (by omega) (by omega)];omega
end
end
section
section
variable{n:Nat}{R:Type}{Q:R->Prop}
theorem abW{c:aj}(h:(j4 c).2=true):Yt c:=by
 obtain⟨A,C,D⟩:=Kd h;intro ops E F o x;have j:=rq A;have u:=rq E;have H:=Qj (ops:=(j4 c).1) (by intro e;rw[e] at j;simp at j) j.1;have I:=Qj (ops:=ops) (by intro e;rw[e] at u;simp at u) u.1;have J:(j4 c).1.map kC=ops.map kC:=by rw[<-H,<-I,<-C,<-F]
 have M:kC o∈(j4 c).1.map kC:=by rw[J];exact List.mem_map_of_mem x
 obtain⟨p,y,N⟩:=gQ.1 M;have a:=Ll (j.1 p y);have P:=Ll (u.1 o x);rw[N,P] at a;injection a with _ a;injection a with _ a;injection a with _ a;injection a with a _;rw[QJ a];exact D p y
theorem anp{legs:List ax}{an:List dt}{r:aj}{y:List ax×List dt}(h:qG legs an r=some y):Ek r:=by
 intro a b c e;unfold qG at h;rw[e] at h;simp only at h;split at h
 ·rename_i j;exact abW j.2.2.2
 ·cases h
structure jn(K:Nat)(s:aT):Prop where
 b:jh s.base
 b6:s.base.length<=6
 l:jh s.legs
 lg:s.log.length<=9000
 g:vv s.log
 t:uB s.an
 tl:s.an.length<=1000+K
theorem jn.mono{K L:Nat}{s:aT}(h:jn K s)(a:K<=L):jn L s:=⟨h.b,h.b6,h.l,h.lg,h.g,h.t,by have:=h.tl;omega⟩
structure qI(m:aK):Prop where
 to:0<=m.to/\m.to<=2
 o:m.ops.length<=3
 w:∀o∈m.ops,o.ba.length<=100
theorem qI.s{m:aK}(h:qI m):BW m.ops:=⟨by have:=h.o;omega,λo a=>by have:=h.w o a;omega⟩
theorem Zh{k f x:Int}{y:Bool}:qI ⟨k,f,0,x,[],y⟩:=⟨by show(0:Int)<=0/\(0:Int)<=2;omega,by show(0:Nat)<=3;omega,λo a=>by cases a⟩
theorem ad9{K:Nat}{s x:aT}{r:aj}(h:jn K s)(A:r.length<100000)(C:uh s r=some x):jn (K+1) x/\s.log<+:x.log:=by
 obtain⟨y,a,j,D,e4,e5,u,H⟩:=alG C;have I:=h.lg;obtain⟨E,J,F⟩:=acH (by omega) A a;obtain⟨b1,b2,b3,M⟩:=RT (l:=y.1) (t:=y.2) h.l h.t j;refine⟨⟨by rw[u];exact h.b,by rw[u];exact h.b6,by rw[D];exact b1,E,?_,by rw[e4];exact b2,by rw[e4];have:=h.tl;omega⟩,?_⟩
 ·unfold vv;rw[F];intro q e;rcases cU.1 e with e|e
  ·exact h.g q e
  ·rw[fe] at e;subst e;exact anp j
 ·unfold xO at a;split at a
  ·injection a with a;rw[<-a];exact wN _ _
  ·cases a
theorem anq{m:aK}(h:1<=m.txn/\m.txn<=99)(a:jg m.ops=true):(Mc m).length<100000:=by
 have e:=Qi (rq a).1;have j:=(rq a).2;have u:=ly (x:=m.txn) (by omega) (by omega);unfold Mc;simp only[dG,fD,jZ];omega
theorem aqM{K:Nat}{s:aT}{m:aK}(h:jn K s):jn (K+1) (Ej s m).1/\s.log<+:(Ej s m).1.log/\(Ej s m).2.length<=1/\(∀x∈(Ej s m).2,qI x):=by
 have a:jn (K+1) (s,([]:List aK)).1/\s.log<+:(s,([]:List aK)).1.log/\(s,([]:List aK)).2.length<=1/\(∀x∈(s,([]:List aK)).2,qI x):=⟨h.mono (by omega),wS _,by show(0:Nat)<=1;omega,λx hx=>by cases hx⟩;have one:∀(z:aT)(k:Int)(y:Bool),(jn (K+1) z/\s.log<+:z.log)->jn (K+1) (z,[(⟨k,s.id,0,m.txn,[],y⟩:aK)]).1/\s.log<+:(z,[(⟨k,s.id,0,m.txn,[],y⟩:aK)]).1.log/\(z,[(⟨k,s.id,0,m.txn,[],y⟩:aK)]).2.length<=1/\(∀x∈(z,[(⟨k,s.id,0,m.txn,[],y⟩:aK)]).2,qI x):=λz k y hz=>⟨hz.1,hz.2,by show(1:Nat)<=1;omega,λx hx=>by
  have hx:x∈[(⟨k,s.id,0,m.txn,[],y⟩:aK)]:=hx
  rw[fe] at hx;rw[hx];exact Zh⟩;have self:jn (K+1) s/\s.log<+:s.log:=⟨h.mono (by omega),wS _⟩;unfold Ej;split
 ·rename_i e;split
  ·unfold Sm;simp only;split
   ·exact one s 2 _ self
   ·split
    ·rename_i u;cases j:uh s (Mc m) with
     |none=>exact one s 2 _ self
     |some x=>exact one x 2 _ (ad9 h (anq ⟨e.2.2.2.1,e.2.2.2.2⟩ u) j)
    ·exact one s 2 _ self
  ·split
   ·unfold S4;simp only;generalize(if 0<=gP s.an m.txn then(gT s.an (gP s.an m.txn).toNat).aV else 0)=st;split
    ·cases j:uh s (MT m) with
     |none=>exact a
     |some x=>exact one x 4 _ (ad9 h (by have:=aoZ (m:=m) ⟨e.2.2.2.1,e.2.2.2.2⟩;omega) j)
    ·split<;>split
     ·exact one s 4 _ self
     ·exact a
     ·exact one s 4 _ self
     ·exact a
   ·exact a
 ·exact a
theorem acM{K:Nat}{s:aT}{m:aK}(h:jn K s)(a:qI m)(j:K<=10000)(e:2^41<=n):Ok (G1 n s m) λx=>jn (K+1) x.1/\s.log<+:x.1.log/\x.2.length<=1/\∀y∈x.2,qI y:=
 MQ (aqB a.s (by have:=h.lg;omega) h.l (by have:=h.tl;omega) e) (aqM h)
theorem VM{a b:aj}(h:a<+:b)(u:b.length<1000000)(e:vv b):vv a:=by
 obtain⟨c,rfl⟩:=h;have:=aoL a c (by omega);intro r j;exact e r (this.subset j)
theorem afm{old now:aj}{bytes:Int}(a:old<+:now)(j:-1000<=bytes/\bytes<=100000)(u:now.length<=9000):Ok (Kx n old now bytes) λx=>x<+:now:=by
 have e:=a.length_le;unfold Kx;refine cw (λ_=>az a) λh0=>?_;rw[fN,fN,nq (by omega) (by omega) (by omega) (by omega),js (by omega) (by omega) (by omega) (by omega)];refine cw (λ_=>az (wS _)) λy=>Yn (by omega) (by omega) (by omega) (az ?_);exact ak4 _ _
theorem amg{K:Nat}{s:aT}{m:aK}{bytes:Int}(h:jn K s)(j:qI m)(u:-1000<=bytes/\bytes<=100000)(y:K<=10000)(A:2^41<=n):Ok (J2 n s m bytes) (jn (K+1)):=by
 unfold J2;refine aW (acM h j y A) λx hx=>aW (afm hx.2.1 u hx.1.lg) λlog a=>az ?_;have e:=a.length_le;have:=hx.1.lg;exact⟨h.b,h.b6,⟨by show(0:Nat)<=1000;omega,λl e=>by cases e⟩,by show log.length<=9000;omega,VM a (by omega) hx.1.g,CE,by show(0:Nat)<=_;omega⟩
theorem anr{K:Nat}{s:aT}(h:jn K s)(a:2^41<=n):Ok (Ky n s) (jn K):=by
 refine MQ (aqA (by have:=h.lg;omega) h.b a) ?_;have A:=h.lg;unfold Yu;split
 ·exact h
 ·cases e:pS s.base [] (cS s.log).1 with
  |none=>exact h
  |some y=>
   obtain⟨j,u,x,_⟩:=RU (l:=y.1) (t:=y.2) h.b CE e;have C:=DQ (s:=s.log) (by omega);simp at x;exact⟨h.b,h.b6,j,by show(s.log.take _).length<=9000;rw[lv];omega,VM (ak4 _ _) (by omega) h.g,u,by show y.2.length<=_;omega⟩
theorem ans{K:Nat}{s:aT}(h:jn K s)(j:K<=10000)(e:2^41<=n):Ok (Kw n s) λx=>x.length<=20000/\∀y∈x,qI y:=by
 refine MQ (afc (by have:=h.tl;omega) e) ⟨?_,λy a=>?_⟩
 ·unfold oY;rw[qf];have:=ayW (λt:dt=>decide (t.aV=1)) s.an;have:=h.tl;omega
 ·unfold oY at a;obtain⟨t,_,rfl⟩:=gQ.1 a;exact Zh
end
end
section
section
variable{n:Nat}{R:Type}{Q:R->Prop}
structure pU(K:Nat)(t:cp):Prop where
 txn:0<=t.txn/\t.txn<=1000
 dP:0<=t.dP/\t.dP<=1000
 back:0<=t.back/\t.back<=1000
 eU:mA t.eU
 cg:0<=t.cg/\t.cg<=1000000000000
 sl:t.di.length<=2
 sb:∀x∈t.di,1<=x/\x<=2
 yes:t.yes.length<=1000+K
 jv:t.jv.length<=1000+K
theorem pU.mono{K L:Nat}{t:cp}(h:pU K t)(a:K<=L):pU L t:=⟨h.txn,h.dP,h.back,h.eU,h.cg,h.sl,h.sb,by have:=h.yes;omega,by have:=h.jv;omega⟩
structure gA(n:Nat)(K:Nat)(c:bG):Prop where
 b:Og n c
 lg:c.log.length<=9000
 nx:0<=c.next/\c.next<=100
 tl:c.an.length<=1000+K
 t:∀t∈c.an,pU K t
theorem gA.mono{K L:Nat}{c:bG}(h:gA n K c)(a:K<=L):gA n L c:=⟨h.b,h.lg,h.nx,by have:=h.tl;omega,λt e=>(h.t t e).mono a⟩
theorem gA.an{K:Nat}{c:bG}(h:gA n K c){ts:List cp}(a:ts.length<=1000+K)(e:∀t∈ts,pU K t):gA n K {c with an:=ts}:=⟨⟨h.b.net,h.b.base,h.b.gi,h.b.wb,h.b.cM⟩,h.lg,h.nx,a,e⟩
theorem gA.log{K:Nat}{c:bG}(h:gA n K c){l:aj}(a:l.length<=9000):gA n K {c with log:=l}:=⟨⟨h.b.net,h.b.base,h.b.gi,h.b.wb,h.b.cM⟩,a,h.nx,h.tl,h.t⟩
theorem aea{list:List cp}{dP:Int}(e:list.length<=100000)(j:2^41<=n):Ok (KX n list dP) λx=>x=-1\/∃k:Nat,x=k/\k<list.length:=by
 unfold KX;refine jN (N:=list.length) (by omega) (λm(s:Int)i=>Dh n m list dP s i _) (λi s=>s=-1\/∃k:Nat,s=k/\k<list.length) (m:=n) (s:=-1) (by omega) (.inl rfl) (λm s a=>?_) λm i s hi a K=>?_
 ·rw[Dh];exact jb (by rw[aJ];omega) (az a)
 ·rw[Dh];refine jO (by rw[aJ];omega) ?_;rw[bn hi,ak,bD (by omega)];exact ok_eq (λ_=>K _ (.inr ⟨i,rfl,hi⟩)) λ_=>K _ a
theorem aeb{list:List cp}{txn:Int}(a:list.length<=100000)(e:2^41<=n):Ok (yP n list txn) λx=>x=-1\/∃k:Nat,x=k/\k<list.length:=by
 unfold yP;refine jN (N:=list.length) (by omega) (λm(_:Unit)i=>Gw n m list txn i _) (λ_ _=>True) (m:=n) (s:=()) (by omega) trivial (λm _ _=>?_) λm i _ hi _ K=>?_
 ·rw[Gw];exact jb (by rw[aJ];omega) (az (.inl rfl))
 ·rw[Gw];refine jO (by rw[aJ];omega) ?_;rw[bn hi,ak,bD (by omega)];exact ok_eq (λ_=>az (.inr ⟨i,rfl,hi⟩)) λ_=>K () trivial
theorem ant{list:List cp}{dP:Int}(a:list.length<=100000)(e:2^41<=n):Ok (PY n list dP) λx=>x=-1\/∃k:Nat,x=k/\k<list.length:=by
 unfold PY;refine jN (N:=list.length) (by omega) (λm(_:Unit)i=>Az n m list dP i _) (λ_ _=>True) (m:=n) (s:=()) (by omega) trivial (λm _ _=>?_) λm i _ hi _ K=>?_
 ·rw[Az];exact jb (by rw[aJ];omega) (az (.inl rfl))
 ·rw[Az];refine jO (by rw[aJ];omega) ?_;simp only[bn hi,ak,bD (show i<2^31 by omega)];exact ok_eq (λ_=>ok_eq (λ_=>ok_eq (λ_=>az (.inr ⟨i,rfl,hi⟩)) λ_=>K () trivial) λ_=>K () trivial) λ_=>K () trivial
theorem amh{a:List cp}{e:Int}(j:a.length<=100000)(u:2^41<=n):Ok (Pe n a e) λ_=>True:=by
 unfold Pe;refine jN (N:=a.length) (by omega) (λm(_:Unit)i=>C0 n m a e i _) (λ_ _=>True) (m:=n) (s:=()) (by omega) trivial (λm _ _=>?_) λm i _ hi _ K=>?_
 ·rw[C0];exact jb (by rw[aJ];omega) (az trivial)
 ·rw[C0];refine jO (by rw[aJ];omega) ?_;simp only[bn hi,ak,bD (show i<2^31 by omega)];exact ok_eq (λ_=>cd (ok_eq (λ_=>K () trivial) λ_=>az trivial)) λ_=>K () trivial
theorem Hp{a:List Int}{x:Int}(e:a.length<=100000)(j:2^41<=n):Ok (oT n a x) λ_=>True:=by
 unfold oT;refine jN (N:=a.length) (by omega) (λm(_:Unit)i=>Gv n m a x i _) (λ_ _=>True) (m:=n) (s:=()) (by omega) trivial (λm _ _=>?_) λm i _ hi _ K=>?_
 ·rw[Gv];exact jb (by rw[aJ];omega) (az trivial)
 ·rw[Gv];refine jO (by rw[aJ];omega) ?_;simp only[bn hi,ak,bD (show i<2^31 by omega)];exact ok_eq (λ_=>az trivial) λ_=>K () trivial
theorem anu{x:Int}(hx:0<=x/\x<=1000000000000)(H:2^41+1<=n):Ok (DA n x) λs=>s.length<=100:=by
 obtain⟨n,rfl⟩:∃m,n=m+1:=⟨n-1,by omega⟩;rw[DA];have I:0<=x/100:=Jh hx.1 (by omega);have J:x/100<=x:=Oy _ hx.1;have j:0<=x % 100:=Ji _ (by omega);have u:x % 100<100:=Jj _ (by omega);generalize y:x % 100=r at j u;have M:0<=r/10:=Jh j (by omega);have N:r/10<=r:=Oy _ j;have t0:0<=r % 10:=Ji _ (by omega);have t1:r % 10<10:=Jj _ (by omega);refine jb (by omega) (xq (by omega) hx.1 (xp (by omega) hx.1 (by omega) ?_));rw[y];refine qB (by omega) (by omega) λa A=>iK _ 1 A (by simp) (by omega) λb C=>xp (by omega) j (by omega) (qB (by omega) (by omega) λc D=>iK _ _ C D (by omega) λd E=>xq (by omega) j (qB (by omega) (by omega) λe F=>iK _ _ E F (by omega) λf P=>az (by omega)))
theorem VN{K:Nat}{t:cp}(h:pU K t)(x:2^41+1<=n):Ok (Gq n t) λ_=>True:=by
 have j:=h.back;have I:=h.txn;have bh:Ok (ae (dz n t.txn) λy=>ae (aO [115,111,108,100,32] y) λA=>ae (aO A [32,97,116,32]) λC=>ae (DA n t.cg) λD=>ae (aO C D) λE=>some E) λ_=>True:=
  qB (by omega) (by omega) λa u=>iK 5 _ (by simp) u (by omega) λb j=>iK _ 4 j (by simp) (by omega) λc F=>aW (anu h.cg x) λd H=>iK _ _ F H (by omega) λe J=>az trivial;unfold Gq;refine ok_eq (λ_=>cw (λ_=>?_) λ_=>ok_eq (λ_=>bh) λ_=>ok_eq (λ_=>az trivial) λ_=>az trivial) λ_=>ok_eq (λ_=>bh) λ_=>ok_eq (λ_=>az trivial) λ_=>az trivial;exact qB (by omega) (by omega) λa u=>iK 5 _ (by simp) u (by omega) λb j=>az trivial
theorem acN{t:aS}(h:mA t)(A:2^41<=n):Ok (DC n t) λs=>s.length<=11000:=by
 have F:=h.l;have C:=h.f;have H:=h.s;unfold DC;refine jN (N:=t.legs.length) (by omega) (λm(s:aj)i=>Da n m s i t _) (λi s=>s.length<=101*i) (m:=n) (s:=[]) (by omega) (by simp) (λm s j=>?_) λm i s hi j K=>?_
 ·rw[Da];refine jb (by rw[aJ];omega) ?_;exact iK (101*100) 1 (by omega) (by simp) (by omega) λa u=>iK _ 100 u C (by omega) λb x=>iK _ 1 x (by simp) (by omega) λc D=>qB A (by omega) λd E=>iK _ _ D E (by omega) λe I=>az (by omega)
 ·rw[Da];have y:=h.w _ (bI hi);refine jO (by rw[aJ];omega) ?_;simp only[bn hi,ak,bD (show i<2^31 by omega)];refine cw (λ_=>?_) λ_=>?_
  ·exact iK _ 1 j (by simp) (by omega) λa u=>iK _ _ u y (by omega) λb x=>K b (by omega)
  ·exact iK _ _ j y (by omega) λb x=>K b (by omega)
theorem acO{t:cp}(h1:-1000000000000000<=t.txn/\t.txn<=1000000000000000)(h2:-1000000000000000<=t.dP/\t.dP<=1000000000000000)(h3:-1000000000000000<=t.back/\t.back<=1000000000000000)(y:mA t.eU)(x:2^41<=n):Ok (yK n t) λs=>s.length<=20000:=by
 have u:∀w:aj,w.length<=2->Ok (ae (dz n t.txn) λA=>ae (aO w A) λC=>ae (aO C [32]) λD=>ae (dz n t.dP) λE=>ae (aO D E) λF=>ae (aO F [32]) λH=>ae (dz n t.back) λI=>ae (aO H I) λJ=>ae (aO J [32]) λM=>ae (DC n t.eU) λN=>ae (aO M N) λP=>some P) λs=>s.length<=20000:=λw S=>
  qB x (by omega) λa U=>iK _ _ S U (by omega) λb Y=>iK _ 1 Y (by simp) (by omega) λc Z=>qB x (by omega) λd hd=>iK _ _ Z hd (by omega) λe he=>iK _ 1 he (by simp) (by omega) λf hf=>qB x (by omega) λg hg=>iK _ _ hf hg (by omega) λi hi=>iK _ 1 hi (by simp) (by omega) λj hj=>aW (acN y x) λk hk=>iK _ _ hj hk (by omega) λl hl=>az (by omega)
 unfold yK;exact ok_eq (λ_=>u _ (by simp)) λ_=>u _ (by simp)
theorem agi{log r:aj}(a:log.length<=9000)(u:r.length<=100000)(j:2^41<=n):Ok (Ba n log r) λx=>x.1.length<=9000/\log<+:x.1:=by
 refine MQ (VE (by omega) (by omega) j) ?_;unfold xO;split
 ·rename_i x e;split at e
  ·injection e with e;rename_i y;subst e;exact⟨by show(log++_).length<=9000;rw[dG];omega,wN _ _⟩
  ·cases e
 ·exact⟨a,wS _⟩
theorem abp{c:bG}{ops:List aY}(h:Og n c)(e:zJ n c.net ops)(F:2^41<=n):Ok (AH n c ops) λl=>l.length<=2/\∀x∈l,1<=x/\x<=2:=by
 have H:=e.l;have k0:∀m s:Nat,∀out:List Int,1<=s->s<=3->3<m+s->out.length+1<=s->(∀x∈out,1<=x/\x<=2)->Ok (Jp n m ops out s c λu=>some u) λl=>l.length<=2/\∀x∈l,1<=x/\x<=2:=by
  intro m
  induction m with
  |zero=>intro s out y A C;omega
  |succ m j=>
   intro s out y A C I a
   rw[Jp]
   refine pM (λD=>?_) λD=>az ⟨by omega,a⟩
   refine jN (N:=ops.length) (by omega) (λm(_:Unit)i=>FM n m ops out s i c _) (λ_ _=>True) (m:=n) (s:=()) (by omega) trivial (λE _ _=>?_) λE i _ hi _ K=>?_
   ·rw[FM];refine jb (by rw[aJ];omega) ?_;rw[bD (by omega)];exact j (s+1) out (by omega) (by omega) (by omega) (by omega) a
   ·rw[FM];refine jO (by rw[aJ];omega) ?_;rw[bn hi,ak,bD (show i<2^31 by omega)];refine ad7 h e (bI hi) λx _=>ok_eq (λ_=>?_) λ_=>K () trivial;refine dI (by simp;omega) (by omega) ?_;rw[bD (by omega)];refine j (s+1) (out++[(s:Int)]) (by omega) (by omega) (by omega) (by simp;omega) λx hx=>?_;rcases cU.1 hx with hx|hx
    ·exact a x hx
    ·rw[fe] at hx;omega
 exact k0 n 1 [] (by omega) (by omega) (by omega) (by simp) (by simp)
structure fu(b:Nat)(ms:List aK):Prop where
 l:ms.length<=b
 m:∀m∈ms,qI m
theorem fu.nil{b:Nat}:fu b []:=⟨by simp,λx hx=>by cases hx⟩
theorem fu.mono{a b:Nat}{l:List aK}(h:fu a l)(e:a<=b):fu b l:=⟨by have:=h.l;omega,h.m⟩
theorem fu.add{a:Nat}{l:List aK}{m:aK}(h:fu a l)(e:qI m):fu (a+1) (l++[m]):=⟨by have:=h.l;simp;omega,λx hx=>by
 rcases cU.1 hx with hx|hx
 ·exact h.m x hx
 ·rw[fe] at hx;rw[hx];exact e⟩
theorem fu.app{a b:Nat}{l k:List aK}(h:fu a l)(e:fu b k):fu (a+b) (l++k):=⟨by have:=h.l;have:=e.l;simp;omega,λx hx=>(cU.1 hx).elim (h.m x) (e.m x)⟩
theorem fu.one{m:aK}(h:qI m):fu 1 [m]:=⟨by simp,λx hx=>by rw[fe] at hx;rw[hx];exact h⟩
theorem abq{K:Nat}{c:bG}{t:cp}(h:Og n c)(u:pU K t)(J:K<=10000)(F:2^42<=n):Ok (CZ n c t) (fu 2):=by
 have A:=u.sl;have H:=u.yes;unfold CZ;refine aW (Ws h u.eU F) λops e=>?_;have M:=e.l;refine jN (N:=t.di.length) (by omega) (λm(s:List aK)i=>CQ n m s ops i c t _) (λi s=>fu i s) (m:=n) (s:=[]) (by omega) fu.nil (λm s j=>?_) λm i s hi j D=>?_
 ·rw[CQ];exact jb (by rw[aJ];omega) (az (j.mono A))
 ·rw[CQ];have P:=u.sb _ (bI hi);refine jO (by rw[aJ];omega) ?_;rw[bn hi,ak,ak,bD (show i<2^31 by omega)];refine aW (Hp (by omega) (by omega)) λb _=>cc (λ_=>D s (j.mono (by omega))) λ_=>?_;refine jN (N:=ops.length) (by omega) (λm(x:aK)k=>CP n m s ops i k c t x _) (λk x=>x.to=t.di[i]/\x.ops.length<=k/\∀o∈x.ops,o∈ops) (m:=n) (s:=aK.mk 1 0 t.di[i] t.txn [] false) (by omega) ⟨rfl,by show(0:Nat)<=0;omega,λo e=>by cases e⟩ (λI x hx=>?_) λI k x C hx E=>?_
  ·rw[CP];refine jb (by rw[aJ];omega) (dI (by have:=j.l;simp;omega) (by omega) ?_);rw[bD (show i<2^31 by omega)];exact D _ (j.add ⟨by rw[hx.1];omega,by have:=hx.2.1;omega,λo a=>(e.o o (hx.2.2 o a)).1⟩)
  ·rw[CP];refine jO (by rw[aJ];omega) ?_;simp only[bn C,bn hi,ak,bD (show k<2^31 by omega)];refine ad7 h e (bI C) λy _=>ok_eq (λ_=>?_) λ_=>E x ⟨hx.1,by omega,hx.2.2⟩;refine dI (by have:=hx.2.1;simp;omega) (by omega) (E _ ⟨hx.1,by have:=hx.2.1;show(x.ops++_).length<=k+1;simp;omega,λo a=>?_⟩);rcases cU.1 a with a|a
   ·exact hx.2.2 o a
   ·rw[fe] at a;rw[a];exact bI C
theorem JO{K:Nat}{list:List cp}(u:list.length<=100000)(h:∀t∈list,pU K t)(x:K<=10000)(y:2^41<=n):qh n list=some list:=by
 unfold qh;have:=Rr (xs:=list) (f:=λt:cp=>t) (by omega) (L:=λm out i=>FE n m list out i λe=>some e) (k:=λout=>some out) (λm out j=>by
  rw[FE,xB (by rw[aJ];omega),aH]) (λm i out hi j=>by
  have a:=h _ (bI hi)
  have A:=a.eU.l
  have C:=a.sl
  have D:=a.yes
  have E:=a.jv
  rw[FE,BL (by rw[aJ];omega),aF,bn hi,ak]
  unfold Wh
  rw[eL (by simp;omega) (by omega),ak,ak,eL (by simp;omega) (by omega),ak,eL (by simp;omega) (by omega),ak,eL (by simp;omega) (by omega),ak,eL (by simp;omega) (by omega),ak]
  simp only[iw]) (m:=n) (by omega);rw[this,List.map_id']
theorem abX{K:Nat}{t:cp}(e:pU K t)(A:K<=10000)(C:2^41<=n):Ok (Db n t) (fu 2):=by
 have j:=e.sl;have x:=e.jv;unfold Db;refine jN (N:=t.di.length) (by omega) (λm(s:List aK)i=>CU n m s i t _) (λi s=>fu i s) (m:=n) (s:=[]) (by omega) fu.nil (λm s a=>?_) λm i s hi a u=>?_
 ·rw[CU];exact jb (by rw[aJ];omega) (az (a.mono j))
 ·rw[CU];have D:=e.sb _ (bI hi);refine jO (by rw[aJ];omega) ?_;simp only[bn hi,ak,bD (show i<2^31 by omega)];refine aW (Hp (by omega) (by omega)) λb _=>cd (cc (λ_=>u s (a.mono (by omega))) λ_=>?_);refine dI (by have:=a.l;simp;omega) (by omega) (u _ (a.add ⟨by show 0<=t.di[i]/\t.di[i]<=2;omega,by show(0:Nat)<=3;omega,λo y=>by cases y⟩))
end
end
section
section
variable{n:Nat}{R:Type}{Q:R->Prop}
theorem xb{a:Type}{l:List a}{i:Int}{v x:a}(h:x∈aX l i v):x∈l\/x=v:=by
 unfold aX at h;exact Fj h
structure EG(n K B:Nat)(c0:bG)(x:bG×List aK×List iT):Prop where
 c:gA n K x.1
 l:c0.log<+:x.1.log
 m:fu B x.2.1
 t:x.2.2.length<=B
 s:x.1.an.length=c0.an.length
theorem Wt{K:Nat}{c:bG}{k:Nat}{st:Int}(h:gA n K c)(j:k<c.an.length)(y:K<=10000)(F:2^42<=n):Ok (Hi n c k st) (EG n K 2 c):=by
 have e:=h.t _ (bI j);have H:=e.txn;have I:=e.dP;have J:=e.back;have u:pU K {c.an[k] with aV:=st,mE:=0}:=⟨e.txn,e.dP,e.back,e.eU,e.cg,e.sl,e.sb,e.yes,e.jv⟩;unfold Hi;rw[bn j,ak];refine aW (acO (by show _<=c.an[k].txn/\c.an[k].txn<=_;omega) (by show _<=c.an[k].dP/\c.an[k].dP<=_;omega) (by show _<=c.an[k].back/\c.an[k].back<=_;omega) e.eU (by omega)) λline C=>aW (agi h.lg (by omega) (by omega)) λlg A=>cd (cc (λ_=>?_) λ_=>az ⟨h,wS _,fu.nil,by show(0:Nat)<=2;omega,rfl⟩);rw[JO (K:=K) (by have:=h.tl;omega) h.t y (by omega),ak,bn j,ak,ak];refine aW (abX u y (by omega)) λM D=>aW (VN u (by omega)) λa _=>az ?_;have E:=(h.log A.1).an (ts:=aX c.an k {c.an[k] with aV:=st,mE:=0}) (by rw[mP];exact h.tl) λt x=>by
  rcases xb x with x|rfl
  ·exact h.t t x
  ·exact u
 exact⟨E,A.2,D,by show(1:Nat)<=2;omega,mP _ _ _⟩
theorem YB{a:Int}{f:Unit->Option R}(h:Ok (f ()) Q):Ok (ae (bR (ai a a)) f) Q:=by
 rw[cN,fW rfl];exact h
theorem aqN{K:Nat}{c:bG}{k:Nat}{m:aK}(h:gA n K c)(j:k<c.an.length)(E:K<=9999)(y:2^42<=n):Ok (Kt n c k m) (EG n (K+1) 2 c):=by
 have a:=h.t _ (bI j);have F:=a.yes;have H:=a.sl;have e:=h.mono (show K<=K+1 by omega);have A:EG n (K+1) 2 c (c,[],[]):=⟨e,wS _,fu.nil,by show(0:Nat)<=2;omega,rfl⟩;unfold Kt;refine cd (cc (λ_=>?_) λ_=>aW (Wt e j (by omega) y) λx hx=>az ⟨hx.c,hx.l,hx.m,hx.t,hx.s⟩);rw[bn j,ak];refine aW (Hp (by omega) (by omega)) λb _=>cc (λ_=>az A) λ_=>aW (Hp (by omega) (by omega)) λb _=>cd (cc (λ_=>?_) λ_=>az A);rw[JO (K:=K) (by have:=h.tl;omega) h.t (by omega) (by omega)];simp only[ak,bn j];have D:pU (K+1) {c.an[k] with yes:=c.an[k].yes++[m.aC]}:=⟨a.txn,a.dP,a.back,a.eU,a.cg,a.sl,a.sb,by show(_++[_]).length<=_;simp;omega,by have:=a.jv;show c.an[k].jv.length<=_;omega⟩;have C:=e.an (ts:=aX c.an k {c.an[k] with yes:=c.an[k].yes++[m.aC]}) (by rw[mP];exact e.tl) λt u=>by
  rcases xb u with u|rfl
  ·exact e.t t u
  ·exact D
 refine cc (λ_=>dI (by simp;omega) (by omega) (YB (az ⟨C,wS _,fu.nil,by show(0:Nat)<=2;omega,mP _ _ _⟩))) λ_=>dI (by simp;omega) (by omega) (YB ?_);refine aW (Wt C (by show k<(aX _ _ _).length;rw[mP];exact j) (by omega) y) λx hx=>cc (λ_=>az ⟨e,wS _,hx.m,hx.t,rfl⟩) λ_=>az ⟨hx.c,hx.l,hx.m,hx.t,by rw[hx.s];exact mP _ _ _⟩
theorem acP{K:Nat}{c:bG}{m:aK}(h:gA n K c)(E:K<=9999)(F:2^42<=n):Ok (Ku n c m) (EG n (K+1) 2 c):=by
 have y:=h.mono (show K<=K+1 by omega);have j:EG n (K+1) 2 c (c,[],[]):=⟨y,wS _,fu.nil,by show(0:Nat)<=2;omega,rfl⟩;unfold Ku;refine cd (cc (λ_=>cd (ok_eq (λ_=>kX (cd (j9 (λY=>?_) λ_=>az j))) λ_=>az j)) λ_=>az j);have ask:∀b1 b2:Bool,Ok (cond (ai m.kind 5) (cond b1 (ae (bj n m.txn 1 99) λa=>cond a (some (c,[aK.mk 3 0 m.aC m.txn [] b2],([]:List iT))) (some (c,[],[]))) (some (c,[],[]))) (some (c,[],[]))) (EG n (K+1) 2 c):=λb1 b2=>
  cc (λ_=>cc (λ_=>kX (cc (λ_=>az ⟨y,wS _,(fu.one (m:=aK.mk 3 0 m.aC m.txn [] b2) ⟨by show 0<=m.aC/\m.aC<=2;omega,by show(0:Nat)<=3;omega,λo H=>by cases H⟩).mono (by omega),by show(0:Nat)<=2;omega,rfl⟩) λ_=>az j)) λ_=>az j) λ_=>az j
 refine aW (aeb (by have:=h.tl;omega) (by omega)) λx hx=>pM (λh0=>?_) λh0=>?_
 ·rcases hx with hx|⟨k,rfl,C⟩
  ·omega
  have e:=h.t _ (bI C);have Z:=e.sl;have ha:=e.jv;rw[bn C,ak];have A:∀b1 b3:Bool,Ok (cond (ai m.kind 4) (cond (bE 0 (k:Int)) (cond b1 (cond b3 (ae (some c.an[k]) λI=>ae (oT n I.di m.aC) λJ=>cond J (ae (some c.an[k]) λM=>ae (oT n M.jv m.aC) λN=>cond (ay N) (ae (qh n c.an) λu=>ae (af u k) λx9=>ae (af u k) λbg=>ae (af u k) λP=>ae (aN 8 P.jv [m.aC]) λS=>ae (af u k) λbu=>ae (bR (ai (k:Int) k)) λcK=>ae (af u k) λU=>some ({c with an:=aX u k {U with jv:=S}},[],[]))
    (cond (ai m.kind 5) (cond (ay (ai c.an[k].aV 1)) (ae (bj n m.txn 1 99) λa=>cond a (some (c,[aK.mk 3 0 m.aC m.txn [] (ai c.an[k].aV 2)],([]:List iT))) (some (c,[],[]))) (some (c,[],[]))) (some (c,[],[]))))
    (cond (ai m.kind 5) (cond (ay (ai c.an[k].aV 1)) (ae (bj n m.txn 1 99) λa=>cond a (some (c,[aK.mk 3 0 m.aC m.txn [] (ai c.an[k].aV 2)],([]:List iT))) (some (c,[],[]))) (some (c,[],[]))) (some (c,[],[]))))
    (cond (ai m.kind 5) (cond (ay (ai c.an[k].aV 1)) (ae (bj n m.txn 1 99) λa=>cond a (some (c,[aK.mk 3 0 m.aC m.txn [] (ai c.an[k].aV 2)],([]:List iT))) (some (c,[],[]))) (some (c,[],[]))) (some (c,[],[]))))
    (cond (ai m.kind 5) (cond (ay (ai c.an[k].aV 1)) (ae (bj n m.txn 1 99) λa=>cond a (some (c,[aK.mk 3 0 m.aC m.txn [] (ai c.an[k].aV 2)],([]:List iT))) (some (c,[],[]))) (some (c,[],[]))) (some (c,[],[]))))
    (cond (ai m.kind 5) (cond (ay (ai c.an[k].aV 1)) (ae (bj n m.txn 1 99) λa=>cond a (some (c,[aK.mk 3 0 m.aC m.txn [] (ai c.an[k].aV 2)],([]:List iT))) (some (c,[],[]))) (some (c,[],[]))) (some (c,[],[]))))
    (cond (ai m.kind 5) (cond (ay (ai c.an[k].aV 1)) (ae (bj n m.txn 1 99) λa=>cond a (some (c,[aK.mk 3 0 m.aC m.txn [] (ai c.an[k].aV 2)],([]:List iT))) (some (c,[],[]))) (some (c,[],[]))) (some (c,[],[])))) (EG n (K+1) 2 c):=λb1 b3=>by
   refine cc (λ_=>cc (λ_=>cc (λ_=>cc (λ_=>?_) λ_=>ask _ _) λ_=>ask _ _) λ_=>ask _ _) λ_=>ask _ _
   rw[ak]
   refine aW (Hp (by omega) (by omega)) λb _=>cc (λ_=>?_) λ_=>ask _ _
   rw[ak]
   refine aW (Hp (by omega) (by omega)) λb _=>cd (cc (λ_=>ask _ _) λ_=>?_)
   rw[JO (K:=K) (by have:=h.tl;omega) h.t (by omega) (by omega)]
   simp only[ak,bn C]
   refine dI (by simp;omega) (by omega) (YB (az ⟨y.an (by rw[mP];exact y.tl) λt D=>?_,wS _,fu.nil,by show(0:Nat)<=2;omega,mP _ _ _⟩))
   rcases xb D with D|rfl
   ·exact y.t t D
   ·exact⟨e.txn,e.dP,e.back,e.eU,e.cg,e.sl,e.sb,by have:=e.yes;show c.an[k].yes.length<=_;omega,by show(_++[_]).length<=_;simp;omega⟩
  refine ok_eq (λ_=>ok_eq (λ_=>aW (aqN h C E F) λx hx=>az ⟨hx.c,hx.l,hx.m,hx.t,hx.s⟩) λ_=>A _ _) λ_=>A _ _
 ·refine ok_eq (λ_=>ok_eq (λh=>absurd h (by omega)) λ_=>cc (λ_=>pM (λh=>absurd h (by omega)) λ_=>ask _ _) λ_=>ask _ _) λ_=>cc (λ_=>pM (λh=>absurd h (by omega)) λ_=>ask _ _) λ_=>ask _ _
end
end
section
section
variable{n:Nat}{R:Type}{Q:R->Prop}
structure MW(n K:Nat)(x:bG×List aK×aj):Prop where
 c:gA n K x.1
 m:fu 2 x.2.1
theorem aec{K:Nat}{c:bG}{t:cp}(h:gA n K c)(e:pU K t)(P:K<=9999)(u:2^42<=n):Ok (JZ n c t) λx=>gA n (K+1) x.1/\fu 2 x.2.1:=by
 have hx:=h.nx;have S:=h.tl;have y:=h.mono (show K<=K+1 by omega);have A:∀b:Bool,gA n (K+1) (c,([]:List aK),b).1/\fu 2 (c,([]:List aK),b).2.1:=λb=>⟨y,fu.nil⟩;unfold JZ;refine qB (by omega) (by omega) λa F=>iK 2 _ (by simp) F (by omega) λr U=>aW (agi h.lg (by omega) (by omega)) λlg H=>cd (cc (λ_=>cw (λ_=>az (A _)) λI=>?_) λ_=>az (A _));have J:mA ({t with txn:=c.next,aV:=1}:cp).eU:=e.eU;refine aW (Ws h.b J u) λops M=>aW (abp h.b M (by omega)) λsh C=>?_;have D:pU (K+1) {t with txn:=c.next,aV:=1,di:=sh}:=⟨by show 0<=c.next/\c.next<=1000;omega,e.dP,e.back,e.eU,e.cg,C.1,C.2,by have:=e.yes;show t.yes.length<=_;omega,by have:=e.jv;show t.jv.length<=_;omega⟩;refine dI (by simp;omega) (by omega) (dI (by simp;omega) (by omega) ?_);rw[js (by omega) (by omega) (by omega) (by omega),iw];have E:gA n (K+1) {c with log:=lg.1,next:=c.next+1,an:=c.an++[{t with txn:=c.next,aV:=1,di:=sh}]}:=⟨⟨h.b.net,h.b.base,h.b.gi,h.b.wb,h.b.cM⟩,H.1,by show 0<=c.next+1/\c.next+1<=100;omega,by show(c.an++[_]).length<=_;simp;omega,λq j=>by
  rcases cU.1 j with j|j
  ·exact y.t q j
  ·rw[fe] at j;rw[j];exact D⟩;exact aW (abq E.b D (by omega) u) λY N=>az ⟨E,N⟩
theorem aqO{K:Nat}{c:bG}{dP:Int}{t:aS}(h:gA n K c)(j:mA t)(E:K<=9999)(u:2^42<=n):Ok (PX n c dP t) (MW n (K+1)):=by
 have F:=h.mono (show K<=K+1 by omega);have e:∀s:aj,MW n (K+1) (c,[],s):=λs=>⟨F,fu.nil⟩;unfold PX;refine cd (cc (λ_=>kX (cd (j9 (λI=>?_) λ_=>az (e _)))) λ_=>az (e _));refine aW (aea (by have:=h.tl;omega) (by omega)) λx hx=>pM (λh0=>?_) λ_=>?_
 ·rcases hx with hx|⟨k,rfl,A⟩
  ·omega
  rw[bn A,ak];exact aW (VN (h.t _ (bI A)) (by omega)) λa _=>az (e _)
 ·refine aW (Xp h.b.net h.b.cM j u) λo C=>cd (ok_eq (λ_=>?_) λ_=>?_)
  ·have hz:pU K (cp.mk 0 dP 0 t o.2.1 0 [] [] [] 0):=⟨by show(0:Int)<=0/\(0:Int)<=1000;omega,by show 0<=dP/\dP<=1000;omega,by show(0:Int)<=0/\(0:Int)<=1000;omega,j,C.2.1,by show(0:Nat)<=2;omega,λx hx=>(by cases hx),by show(0:Nat)<=_;omega,by show(0:Nat)<=_;omega⟩;exact aW (aec h hz E u) λy D=>cd (cc (λ_=>az ⟨D.1,D.2⟩) λ_=>az (e _))
  ·have:=C.2.2;exact qB (by omega) (by omega) λa H=>iK 4 _ (by simp) H (by omega) λb _=>az (e _)
theorem aqP{K:Nat}{c:bG}{dP u:Int}(h:gA n K c)(D:0<=u/\u<=1000)(E:K<=9999)(F:2^42<=n):Ok (PZ n c dP u) (MW n (K+1)):=by
 have H:=h.mono (show K<=K+1 by omega);have e:∀s:aj,MW n (K+1) (c,[],s):=λs=>⟨H,fu.nil⟩;unfold PZ;refine cd (cc (λ_=>kX (cd (j9 (λI=>?_) λ_=>az (e _)))) λ_=>az (e _));refine aW (aea (by have:=h.tl;omega) (by omega)) λx hx=>pM (λh0=>?_) λ_=>?_
 ·rcases hx with hx|⟨k,rfl,j⟩
  ·omega
  rw[bn j,ak];exact aW (VN (h.t _ (bI j)) (by omega)) λa _=>az (e _)
 ·refine aW (ant (by have:=h.tl;omega) (by omega)) λx hx=>cw (λ_=>az (e _)) λh0=>?_;rcases hx with hx|⟨k,rfl,j⟩
  ·omega
  refine aW (amh (by have:=h.tl;omega) (by omega)) λb _=>cc (λ_=>az (e _)) λ_=>?_;have A:=h.t _ (bI j);rw[bn j,ak,ak];have hz:pU K (cp.mk 0 dP u c.an[k].eU c.an[k].cg 0 [] [] [] 0):=⟨by show(0:Int)<=0/\(0:Int)<=1000;omega,by show 0<=dP/\dP<=1000;omega,D,A.eU,A.cg,by show(0:Nat)<=2;omega,λx hx=>(by cases hx),by show(0:Nat)<=_;omega,by show(0:Nat)<=_;omega⟩;exact aW (aec h hz E F) λy C=>cd (cc (λ_=>az ⟨C.1,C.2⟩) λ_=>az (e _))
theorem anv{K:Nat}{c:bG}(h:gA n K c)(hK:K<=9999)(S:2^42<=n):Ok (P2 n c) λx=>gA n K x.1/\fu 30000 x.2.1/\x.2.2.length<=30000:=by
 have I7:=h.tl;unfold P2;refine jN (N:=c.an.length) (by omega) (λm(s:List aK×List iT×bG)i=>qi n m s.1 s.2.1 i s.2.2 _) (λi s=>fu (2*i) s.1/\s.2.1.length<=2*i/\gA n K s.2.2/\s.2.2.an.length=c.an.length) (m:=n) (s:=([],[],c)) (by omega) ⟨fu.nil,by show(0:Nat)<=_;omega,h,rfl⟩ (λm s J=>?_) λm i s hi J F=>?_
 ·obtain⟨j,Z,a,u⟩:=J;rw[qi];exact jb (by rw[aJ];omega) (az ⟨a,j.mono (by omega),by show s.2.1.length<=_;omega⟩)
 ·obtain⟨j,Z,a,u⟩:=J;have H:i<s.2.2.an.length:=by omega
  have xW:=j.l;have e:=a.t _ (bI H);rw[qi];refine jO (by rw[aJ];omega) (cc (λ_=>?_) λ_=>az ⟨a,j.mono (by omega),by show s.2.1.length<=_;omega⟩);have next:Ok (qi n m s.1 s.2.1 (aq .i64 (i:Int) 1) s.2.2 λy A C=>some (C,y,A)) λx=>gA n K x.1/\fu 30000 x.2.1/\x.2.2.length<=30000:=by
   rw[bD (by omega)]
   exact F s ⟨j.mono (by omega),by omega,a,u⟩
  rw[bn H,ak];have dec:Ok (ae (Db n s.2.2.an[i]) λfL=>ae (aN 64 s.1 fL) λia=>qi n m ia s.2.1 (aq .i64 (i:Int) 1) s.2.2 λy A C=>some (C,y,A)) λx=>gA n K x.1/\fu 30000 x.2.1/\x.2.2.length<=30000:=by
   refine aW (abX e (by omega) (by omega)) λM D=>dI (by have:=D.l;omega) (by omega) ?_
   rw[bD (by omega)]
   exact F (s.1++M,s.2.1,s.2.2) ⟨(j.app D).mono (by omega),by show s.2.1.length<=_;omega,a,u⟩
  have E:Ok (ae (qh n s.2.2.an) λI=>ae (af I i) λfV=>ae (af I i) λU=>ae (CZ n {s.2.2 with an:=aX I i {U with mE:=aq .i64 s.2.2.an[i].mE 1}} s.2.2.an[i]) λfF=>ae (aN 64 s.1 fF) λhY=>qi n m hY s.2.1 (aq .i64 (i:Int) 1) {s.2.2 with an:=aX I i {U with mE:=aq .i64 s.2.2.an[i].mE 1}} λy A C=>some (C,y,A)) λx=>gA n K x.1/\fu 30000 x.2.1/\x.2.2.length<=30000:=by
   rw[JO (K:=K) (by have:=a.tl;omega) a.t (by omega) (by omega)]
   simp only[ak,bn H]
   have Y:=a.an (ts:=aX s.2.2.an i {s.2.2.an[i] with mE:=aq .i64 s.2.2.an[i].mE 1}) (by rw[mP];exact a.tl) λt P=>by
    rcases xb P with P|rfl
    ·exact a.t t P
    ·exact⟨e.txn,e.dP,e.back,e.eU,e.cg,e.sl,e.sb,e.yes,e.jv⟩
   refine aW (abq Y.b e (by omega) S) λM D=>dI (by have:=D.l;omega) (by omega) ?_;rw[bD (by omega)];exact F (s.1++M,s.2.1,_) ⟨(j.app D).mono (by omega),by show s.2.1.length<=_;omega,Y,by show(aX _ _ _).length=_;rw[mP];exact u⟩
  refine ok_eq (λ_=>pM (λ_=>?_) λ_=>ok_eq (λ_=>E) λ_=>ok_eq (λ_=>dec) λ_=>next) λ_=>ok_eq (λ_=>E) λ_=>ok_eq (λ_=>dec) λ_=>next
  refine aW (Wt a H (by omega) S) λx hx=>dI (by have:=hx.m.l;omega) (by omega) (dI (by have:=hx.t;omega) (by omega) ?_);rw[bD (by omega)];exact F (s.1++x.2.1,s.2.1++x.2.2,x.1) ⟨(j.app hx.m).mono (by omega),by have:=hx.t;show(s.2.1++x.2.2).length<=_;rw[dG];omega,hx.c,by show x.1.an.length=_;rw[hx.s];exact u⟩
theorem ami{K:Nat}{c:bG}{m:aK}{bytes:Int}(h:gA n K c)(a:-1000<=bytes/\bytes<=100000)(e:K<=9999)(j:2^42<=n):Ok (J1 n c m bytes) (gA n (K+1)):=by
 unfold J1;refine aW (acP h e j) λx hx=>aW (afm hx.l a hx.c.lg) λlg u=>az ?_;have:=u.length_le;have:=hx.c.lg;exact⟨⟨h.b.net,h.b.base,h.b.gi,h.b.wb,h.b.cM⟩,by show lg.length<=9000;omega,by show(0:Int)<=0/\(0:Int)<=100;omega,by show(0:Nat)<=_;omega,λt y=>by cases y⟩
end
end
section
section
variable{n:Nat}{R:Type}{Q:R->Prop}
theorem apb(s:aj):-1<=cA s/\cA s<1000000000000:=by
 rcases Kb s with⟨v,_,_,h,a⟩|⟨h,_⟩<;>omega
structure agX(t:aS):Prop where
 l:t.legs.length<=100000
 w:∀s∈t.legs,s.length<=100000
 f:t.jd.length<=100000
theorem apc{t:aS}(h:agX t)(y:2^41<=n):Ok (DL n t) λb=>b=true->mA t:=by
 have F:=h.l;have H:=h.f;have e:∀{p:Prop},false=true->p:=λh=>(by cases h);unfold DL;refine jN (N:=t.legs.length) (by omega) (λm(_:Unit)i=>yF n m i t _) (λi _=>∀j(a:j<t.legs.length),j<i->gw t.legs[j]=true) (m:=n) (s:=()) (by omega) (λj _ a=>by omega) (λm _ u=>?_) λm i _ hi u K=>?_
 ·rw[yF];refine jb (by rw[aJ];omega) (kX (j9 (λA=>?_) λ_=>az e));rw[u5 (by omega) y,ak];refine cc (λC=>kX (az λx=>?_)) λ_=>az e;rw[bH] at x;rw[aJ] at A;have:=(mQ C).2.2;refine⟨by omega,λs x=>?_,by omega,by omega⟩;obtain⟨j,a,rfl⟩:=q9 x;have:=(mQ (u j a a)).2.2;omega
 ·rw[yF];refine jO (by rw[aJ];omega) ?_;have I:=h.w _ (bI hi);rw[bn hi,ak,u5 (by omega) y,ak];refine cd (cc (λD=>?_) λ_=>az e);refine jN (N:=i) (by omega) (λm(_:Unit)k=>yE n m i k t _) (λ_ _=>True) (m:=n) (s:=()) (by omega) trivial (λm _ _=>?_) λm j _ a _ E=>?_
  ·rw[yE];refine jb (by omega) ?_;rw[bD (by omega)];refine K () λj a J=>?_
   by_cases c:j=i
   ·subst c;exact D
   ·exact u j a (by omega)
  ·rw[yE];refine jO (by omega) ?_;rw[bn (show j<t.legs.length by omega),ak,bn hi,ak,bD (by omega)];exact qz (λ_=>az e) λ_=>E () trivial
theorem alK{text:aj}(N:text.length<=9000)(a:2^41<=n):Ok (J3 n text) λx=>mA x.1:=by
 have y:mA (aS.mk [] [] 0):=⟨by show(0:Nat)<=100;omega,λx hx=>(by cases hx),by show(0:Nat)<=100;omega,by show-1000<=(0:Int)/\(0:Int)<=1000;omega⟩;unfold J3;rw[show qm n text 47=some (bm 47 text) from HD (c:=47) (by omega) a,ak];refine cd (ok_eq (λA=>?_) λ_=>az y);rw[aJ] at A;have C:∀i(h:i<(bm 47 text).length),(bm 47 text)[i].length<=9000:=λi h=>by
  have:=yL (bI h);omega
 have e:∀i:Nat,(h:i<(bm 47 text).length)->af (bm 47 text) (i:Int)=some (bm 47 text)[i]:=λi h=>bn h;have D:=e 0 (by omega);have E:=e 1 (by omega);have F:=e 2 (by omega);have w0:=C 0 (by omega);have S:=C 1 (by omega);rw[show((0:Nat):Int)=0 from rfl] at D;rw[show((1:Nat):Int)=1 from rfl] at E;rw[show((2:Nat):Int)=2 from rfl] at F;have I:qm n (bm 47 text)[0] 45=some (bm 45 (bm 47 text)[0]):=HD (c:=45) (by omega) a;simp only[D,E,F,ak,I,y8 a];have J:=QH 45 (bm 47 text)[0];have hW:agX (aS.mk (bm 45 (bm 47 text)[0]) (bm 47 text)[1] (cA (bm 47 text)[2])):=⟨by show(bm 45 _).length<=_;omega,λs j=>by have:=yL (show s∈bm 45 (bm 47 text)[0] from j);omega,by show((bm 47 text)[1]).length<=_;omega⟩;have M:text≠[]:=by
  rintro rfl
  simp[bm] at A
 have u:=apb (bm 47 text)[2];refine aW (P:=λs=>s=text->mA (aS.mk (bm 45 (bm 47 text)[0]) (bm 47 text)[1] (cA (bm 47 text)[2]))) ?_ λs j=>cd (qz (λh=>az (j h)) λ_=>az y);unfold UY;refine aW (apc hW a) λb u=>cd (cc (λH=>?_) λ_=>az λh=>absurd h.symm M);exact aW (acN (u H) a) λs _=>az λ_=>u H
theorem alL{c:bG}{r:aj}{L:Nat}(h:gA n 0 c)(hL:c.an.length<=L)(aa:L<=900)(hr:r.length<=9000)(S:2^42<=n):Ok (OW n c r) λx=>x.2=true->gA n 0 x.1/\x.1.an.length<=L+1:=by
 have hx:=h.nx;have C:∀{p:Prop},false=true->p:=λh=>(by cases h);unfold OW;rw[show qm n r 32=some (bm 32 r) from HD (c:=32) (by omega) (by omega),ak];refine qB (by omega) (by omega) λa ha=>iK 2 _ (by simp) ha (by omega) λb _=>?_;rw[js (a:=c.next) (by omega) (by omega) (by omega) (by omega)];refine qz (λ_=>az λNa=>?_) λ_=>?_
 ·rw[gx,bH] at Na;exact⟨⟨⟨h.b.net,h.b.base,h.b.gi,h.b.wb,h.b.cM⟩,h.lg,by show 0<=c.next+1/\c.next+1<=100;omega,h.tl,h.t⟩,by show c.an.length<=_;omega⟩
 refine cd (ok_eq (λh5=>?_) λ_=>az C);rw[aJ] at h5;have e:∀i:Nat,(h:i<(bm 32 r).length)->af (bm 32 r) (i:Int)=some (bm 32 r)[i]:=λi h=>bn h;have U:=e 0 (by omega);have Y:=e 1 (by omega);have Z:=e 2 (by omega);have e3:=e 3 (by omega);have e4:=e 4 (by omega);have w4:((bm 32 r)[4]).length<=9000:=by have:=yL (c:=32) (s:=r) (bI (show 4<(bm 32 r).length by omega));omega
 rw[show((0:Nat):Int)=0 from rfl] at U;rw[show((1:Nat):Int)=1 from rfl] at Y;rw[show((2:Nat):Int)=2 from rfl] at Z;rw[show((3:Nat):Int)=3 from rfl] at e3;rw[show((4:Nat):Int)=4 from rfl] at e4;simp only[U,Y,Z,e3,e4,ak,y8 (show 2^41<=n by omega),nq (a:=c.next) (b:=1) (by omega) (by omega) (by omega) (by omega)];generalize(bm 32 r)[0]=p0;generalize tJ:cA (bm 32 r)[1]=j;generalize EY:cA (bm 32 r)[2]=u;generalize ab:cA (bm 32 r)[3]=A;generalize(bm 32 r)[4]=p4 at w4;have D:∀(t:aS)(st:Int)(E:Bool),mA t->Ok (ae (xg n c.net c.cM t) λH=>
   cond (ay E)
    (some (c,false))
    (cond (ay (ai H.2.2 0))
     (some (c,false))
     (ae (bj n j 1 (c.next-1)) λfB=>
     cond (ay fB)
      (some (c,false))
      (ae (yP n c.an j) λeQ=>
      cond (bE 0 eQ)
       (some (c,false))
       (ae (bj n u 1 99) λfx=>
       cond (ay fx)
        (some (c,false))
        (ae (bj n A 0 99) λdD=>
        cond (ay dD)
         (some (c,false))
         (ae (yK n (cp.mk j u A t 0 st [] [] [] 0)) λdX=>
         cond (ay (bf dX r))
          (some (c,false))
          (ae (w9 n c (cp.mk j u A t H.2.1 st [] [] [] 0)) λfy=>
          ae (AH n c fy) λM=>
          ae (aN 8 [] M) λfb=>
          cond (bf p0 [78])
           (ae (aN 168 [] c.an) λN=>
           ae (aN 168 N [cp.mk j u A t H.2.1 st M [] [] 0]) λP=>
           some ({c with an:=P},true))
           (ae (aN 168 [] c.an) λgq=>
           ae (aN 168 gq [cp.mk j u A t H.2.1 st M fb [] 0]) λky=>
           some ({c with an:=ky},true)))))))))) λx=>x.2=true->gA n 0 x.1/\x.1.an.length<=L+1:=by
  intro t st E I
  refine aW (Xp h.b.net h.b.cM I S) λo ho=>cd (cc (λ_=>cd (ok_eq (λ_=>kX (cd (j9 (λb1=>?_) λ_=>az C))) λ_=>az C)) λ_=>az C)
  refine aW (aeb (by omega) (by omega)) λx _=>pM (λ_=>az C) λ_=>kX (cd (j9 (λb2=>kX (cd (j9 (λb3=>?_) λ_=>az C))) λ_=>az C))
  refine aW (acO (by show _<=j/\j<=_;omega) (by show _<=u/\u<=_;omega) (by show _<=A/\A<=_;omega) I (by omega)) λs _=>cd (qz (λ_=>?_) λ_=>az C)
  have EP:mA (cp.mk j u A t o.2.1 st [] [] [] 0).eU:=I
  refine aW (Ws h.b EP S) λops oF=>aW (abp h.b oF (by omega)) λsh J=>dI (by have:=J.1;simp;omega) (by omega) ?_
  have mk:∀y:List Int,y.length<=2->pU 0 (cp.mk j u A t o.2.1 st sh y [] 0):=λy hy=>⟨by show 0<=j/\j<=1000;omega,by show 0<=u/\u<=1000;omega,by show 0<=A/\A<=1000;omega,I,ho.2.1,J.1,J.2,by show y.length<=_;omega,by show(0:Nat)<=_;omega⟩
  have add:∀y:List Int,y.length<=2->Ok (ae (aN 168 [] c.an) λN=>ae (aN 168 N [cp.mk j u A t o.2.1 st sh y [] 0]) λP=>some ({c with an:=P},true)) λx=>x.2=true->gA n 0 x.1/\x.1.an.length<=L+1:=λy hy=>by
   refine dI (by simp;omega) (by omega) (dI (by simp;omega) (by omega) (az λ_=>⟨h.an (by simp;omega) λq F=>?_,by show(_++[_]).length<=_;simp;omega⟩))
   rw[iw] at F
   rcases cU.1 F with F|F
   ·exact h.t q F
   ·rw[fe] at F;rw[F];exact mk y hy
  exact cc (λ_=>add [] (by simp)) λ_=>add _ (by rw[iw];exact J.1)
 have rd:=alK (n:=n) w4 (by omega);refine cd (cc (λ_=>?_) λ_=>cd (cc (λ_=>?_) λ_=>az C))
 ·exact aW rd λx hx=>cc (λ_=>D x.1 2 x.2 hx) λ_=>D x.1 3 x.2 hx
 ·exact aW rd λx hx=>cc (λ_=>D x.1 2 x.2 hx) λ_=>D x.1 3 x.2 hx
theorem anw{K:Nat}{c:bG}(h:gA n K c)(j:2^42<=n):Ok (P3 n c) (gA n K):=by
 have C:=h.lg;unfold P3;refine cc (λ_=>az h) λ_=>aW (P:=λx=>gA n K x.1) ?_ λx hx=>az hx;unfold UZ;have D:=DQ (s:=c.log) (by omega);rw[Pw (by omega) (by omega),ak];refine Yn (by omega) (by omega) (by omega) ?_;have a:(List.take (((cS c.log).2:Int).toNat-(0:Int).toNat) (List.drop (0:Int).toNat c.log)).length<=9000:=by
  rw[lv,oN];omega
 refine jN (N:=(cS c.log).1.length) (by omega) (λm(s:bG)i=>FN n m (cS c.log).1 i c s _) (λi s=>gA n 0 s/\s.an.length<=i) (m:=n) (by omega) ⟨⟨⟨h.b.net,h.b.base,h.b.gi,h.b.wb,h.b.cM⟩,a,by show(0:Int)<=1/\(1:Int)<=100;omega,by show(0:Nat)<=_;omega,λt u=>by cases u⟩,by show(0:Nat)<=0;omega⟩ (λm s e=>?_) λm i s hi e y=>?_
 ·rw[FN];exact jb (by rw[aJ];omega) (az (e.1.mono (by omega)))
 ·rw[FN];have E:=Wp (s:=c.log) (by omega) (bI hi);refine jO (by rw[aJ];omega) ?_;rw[bn hi,ak,bD (by omega)];refine aW (alL e.1 e.2 (by omega) (by omega) j) λx hx=>cd (cc (λA=>y x.1 (hx A)) λ_=>az h)
end
end
section
section
variable{n:Nat}{R:Type}{Q:R->Prop}
structure eS(n K:Nat)(w:World):Prop where
 c:gA n K w.dO
 s2:w.di.length=2
 s:∀s∈w.di,jn K s
 r:fu 60 w.fI
 t:w.told.length<=40000*(K+1)
theorem eS.mono{K L:Nat}{w:World}(h:eS n K w)(a:K<=L):eS n L w:=⟨h.c.mono a,h.s2,λs e=>(h.s s e).mono a,h.r,by have:=h.t;omega⟩
theorem Xq{K:Nat}{w:World}{l:List iT}(h:eS n K w)(e:l.length<=40000)(j:K<=10000):Ok (AY n w l) (eS n (K+1)):=by
 have u:=h.t;have a:=h.mono (show K<=K+1 by omega);unfold AY;refine dI (by simp;omega) (by omega) (dI (by simp;omega) (by omega) (az ⟨a.c,a.s2,a.s,a.r,by show([]++w.told++l).length<=_;simp;omega⟩))
theorem HF{K:Nat}{w:World}{l:List aK}{B:Nat}(h:eS n K w)(j:fu B l)(x:B<=100000)(y:2^41<=n):Ok (sH n w l) (eS n K):=by
 have A:=j.l;unfold sH;refine jN (N:=l.length) (by omega) (λm(s:World)i=>F8 n m l i s _) (λ_ s=>eS n K s) (m:=n) (by omega) h (λm s a=>?_) λm i s hi a u=>?_
 ·rw[F8];exact jb (by rw[aJ];omega) (az a)
 ·rw[F8];have C:=a.r.l;refine jO (by rw[aJ];omega) (cw (λe=>?_) λ_=>az a);rw[aJ] at e;refine dI (by simp;omega) (by omega) ?_;rw[bn hi,ak,bD (by omega),iw];refine dI (by simp;omega) (by omega) (u _ ⟨a.c,a.s2,a.s,⟨by show(s.fI++[_]).length<=60;simp;omega,(a.r.add (j.m _ (bI hi))).m⟩,a.t⟩)
theorem ast{K:Nat}{w:World}{e:Event}(h:eS n K w)(E:0<=e.n/\e.n<=1000)(F:mA e.eU)(M:K<=9000)(A:2^42<=n):Ok (Hh n w e) λx=>eS n (K+2) x.1:=by
 have C:=h.mono (show K<=K+2 by omega);have u:=h.mono (show K<=K+1 by omega);unfold Hh;refine cd (cc (λ_=>kX (cd (j9 (λ_=>?_) λ_=>az C))) λ_=>az C);have a:∀x:bG×List aK×aj,MW n (K+1) x->∀d:Int,Ok (cond (ay (bf x.2.2 [])) (ae (AY n {w with dO:=x.1} [iT.mk d x.2.2]) λH=>ae (sH n H x.2.1) λI=>some (I,true)) (ae (sH n {w with dO:=x.1} x.2.1) λJ=>some (J,true))) λx=>eS n (K+2) x.1:=λx hx d=>by
  have D:eS n (K+1) {w with dO:=x.1}:=⟨hx.c,u.s2,u.s,u.r,u.t⟩
  refine cd (cc (λ_=>?_) λ_=>?_)
  ·exact aW (HF D hx.m (by omega) (by omega)) λy j=>az (j.mono (by omega))
  ·exact aW (Xq D (by simp) (by omega)) λy j=>aW (HF j hx.m (by omega) (by omega)) λz hz=>az hz
 refine aW (aqO h.c F (by omega) A) λx hx=>ok_eq (λ_=>?_) λ_=>a x hx _;exact aW (aqP h.c E (by omega) A) λy j=>a y j _
theorem U3{K:Nat}{l:List aT}{k:Nat}{s:aT}(a:l.length=2)(u:k<2)(e:∀s∈l,jn K s)(j:jn K s):Ok (Dl n l k s) λx=>x.length=2/\∀s∈x,jn K s:=by
 unfold Dl;refine dI (by simp;omega) (by omega) ?_;rw[iw,bn (show k<l.length by omega),ak,ak];refine az ⟨by rw[mP];exact a,λx hx=>?_⟩;rcases xb hx with hx|rfl
 ·exact e x hx
 ·exact j
theorem acQ{K:Nat}{w:World}{m:aK}(h:eS n K w)(u:qI m)(I:K<=9000)(D:2^42<=n):Ok (Kv n w m) (eS n (K+2)):=by
 have a:=h.mono (show K<=K+1 by omega);have E:=u.to;unfold Kv;refine ok_eq (λ_=>?_) λh0=>?_
 ·refine aW (acP h.c (by omega) D) λx hx=>?_;have j:eS n (K+1) {w with dO:=x.1}:=⟨hx.c,a.s2,a.s,a.r,a.t⟩;exact aW (Xq j (by have:=hx.t;omega) (by omega)) λy F=>aW (HF F hx.m (by omega) (by omega)) λz hz=>az hz
 ·obtain⟨k,J⟩:∃k:Nat,m.to=((k+1:Nat):Int):=⟨(m.to-1).toNat,by omega⟩;have H:=h.s2;have e:aL .i64 m.to 1=(k:Int):=by rw[iA];omega
  have A:k<w.di.length:=by omega
  rw[e,bn A,ak];refine aW (acM (h.s _ (bI A)) u (by omega) (by omega)) λx hx=>aW (U3 (K:=K+1) H (by omega) a.s hx.1) λl C=>?_;have j:eS n (K+1) {w with di:=l}:=⟨a.c,C.1,C.2,a.r,a.t⟩;exact aW (HF (B:=1) j ⟨hx.2.2.1,hx.2.2.2⟩ (by omega) (by omega)) λz hz=>az (hz.mono (by omega))
theorem Vi{l:List aK}{k:Nat}(a:fu 60 l)(j:k<l.length):Ok (tW n l k) (fu 60):=by
 have e:=a.l;unfold tW;rw[bD (show k<2^31 by omega)];refine BG (by omega) (by omega) (by omega) (dI (by simp;omega) (by omega) (BG (by omega) (by rw[aJ];omega) (by rw[aJ];omega) (dI (by simp[aJ];omega) (by omega) (az ⟨by simp[aJ];omega,λx hx=>?_⟩))));rw[iw] at hx;rcases cU.1 hx with hx|hx
 ·exact a.m x (Jz hx)
 ·exact a.m x (Jz hx)
theorem apd{K:Nat}{w:World}{k:Nat}{b:Bool}(h:eS n K w)(a:k<w.fI.length)(e:K<=9000)(j:2^42<=n):Ok (wU n w k b) (eS n (K+2)):=by
 have u:=h.r.m _ (bI a);unfold wU;rw[bn a,ak];refine cd (cc (λ_=>aW (acQ h u e j) λx hx=>az hx) λ_=>?_);exact aW (Vi h.r a) λr y=>aW (acQ (K:=K) (w:={w with fI:=r}) ⟨h.c,h.s2,h.s,y,h.t⟩ u e j) λx hx=>az hx
theorem anx{K:Nat}{w:World}{k:Nat}(h:eS n K w)(C:k<=2)(D:K<=9000)(j:2^42<=n):Ok (wY n w k) (eS n (K+2)):=by
 have E:=h.mono (show K<=K+1 by omega);unfold wY;refine ok_eq (λ_=>?_) λh0=>?_
 ·refine aW (anv h.c (by omega) j) λx hx=>?_;have u:eS n K {w with dO:=x.1}:=⟨hx.1,h.s2,h.s,h.r,h.t⟩;exact aW (Xq u (by have:=hx.2.2;omega) (by omega)) λy A=>aW (HF A hx.2.1 (by omega) (by omega)) λz hz=>az (hz.mono (by omega))
 ·have F:=h.s2;have e:aL .i64 (k:Int) 1=((k-1:Nat):Int):=by rw[iA];omega
  have a:k-1<w.di.length:=by omega
  rw[e,bn a,ak];exact aW (ans (h.s _ (bI a)) (by omega) (by omega)) λx hx=>aW (HF (B:=20000) h ⟨hx.1,hx.2⟩ (by omega) (by omega)) λz hz=>az (hz.mono (by omega))
theorem amj{K:Nat}{w:World}{k:Nat}{bytes:Int}(h:eS n K w)(S:k<=2)(u:-1000<=bytes/\bytes<=100000)(U:K<=9000)(D:2^42<=n):Ok (wV n w k bytes) (eS n (K+2)):=by
 have y:=h.r.l;have a:∀(w:World)(m:aK),eS n K w->qI m->Ok (cond (ai (k:Int) 0)
 (ae (J1 n w.dO m bytes) λE=>
 some {w with dO:=E})
 (ae (af w.di (aL .i64 (k:Int) 1)) λF=>
 ae (J2 n F m bytes) λH=>
 ae (Dl n w.di (aL .i64 (k:Int) 1) H) λI=>
 some {w with di:=I})) (eS n (K+2)):=λw m h J=>by
  have j:=h.mono (show K<=K+1 by omega)
  refine ok_eq (λ_=>?_) λh0=>?_
  ·exact aW (ami h.c u (by omega) D) λx hx=>az ((show eS n (K+1) {w with dO:=x} from⟨hx,j.s2,j.s,j.r,j.t⟩).mono (by omega))
  ·have M:=h.s2;have e:aL .i64 (k:Int) 1=((k-1:Nat):Int):=by rw[iA];omega
   have A:k-1<w.di.length:=by omega
   rw[e,bn A,ak];exact aW (amg (h.s _ (bI A)) J u (by omega) (by omega)) λx hx=>aW (U3 (K:=K+1) M (by omega) j.s hx) λl C=>az ((show eS n (K+1) {w with di:=l} from⟨j.c,C.1,C.2,j.r,j.t⟩).mono (by omega))
 unfold wV;refine jN (N:=w.fI.length) (by omega) (λm(_:Unit)i=>FR n m k bytes i w (aK.mk 0 0 0 0 [] false) _) (λ_ _=>True) (m:=n) (s:=()) (by omega) trivial (λm _ _=>?_) λm i _ hi _ P=>?_
 ·rw[FR];exact jb (by rw[aJ];omega) (a w _ h Zh)
 ·rw[FR];refine jO (by rw[aJ];omega) ?_;rw[bn hi,ak,bD (by omega)];refine ok_eq (λ_=>?_) λ_=>P () trivial;rw[ak];exact aW (Vi h.r hi) λr y=>a {w with fI:=r} _ ⟨h.c,h.s2,h.s,y,h.t⟩ (h.r.m _ (bI hi))
theorem anz{K:Nat}{w:World}{k:Nat}(h:eS n K w)(A:k<=2)(u:2^42<=n):Ok (wZ n w k) (eS n K):=by
 unfold wZ;refine ok_eq (λ_=>?_) λh0=>?_
 ·exact aW (anw h.c u) λx hx=>az ⟨hx,h.s2,h.s,h.r,h.t⟩
 ·have y:=h.s2;have e:aL .i64 (k:Int) 1=((k-1:Nat):Int):=by rw[iA];omega
  have a:k-1<w.di.length:=by omega
  rw[e,bn a,ak];exact aW (anr (h.s _ (bI a)) (by omega)) λx hx=>aW (U3 (K:=K) y (by omega) h.s hx) λl j=>az ⟨h.c,j.1,j.2,h.r,h.t⟩
theorem aqQ{K:Nat}{w:World}{k:Nat}(h:eS n K w)(a:k<=2):Ok (xh n w k) λ_=>True:=by
 unfold xh;refine ok_eq (λ_=>az trivial) λh0=>?_;have j:=h.s2;have e:aL .i64 (k:Int) 1=((k-1:Nat):Int):=by rw[iA];omega
 rw[e,bn (show k-1<w.di.length by omega),ak];exact az trivial
structure sO(e:Event):Prop where
 n:0<=e.n/\e.n<=1000
 t:mA e.eU
theorem aqR{K:Nat}{w:World}{e:Event}(h:eS n K w)(F:sO e)(E:K<=9000)(A:2^42<=n):Ok (Rf n w e) λx=>eS n (K+2) x.1:=by
 have a:=h.mono (show K<=K+2 by omega);have hr:=h.r.l;have Nr:=F.n;have ask:Ok (ae (Hh n w e) λx0=>some (x0.1,x0.2)) λx=>eS n (K+2) x.1:=aW (ast h F.n F.t E A) λx hx=>az hx;have C:Ok (ae (bj n e.at' 0 (aL .i64 (au w.fI) 1)) λH=>
   cond (ay H)
    (some (w,false))
    (cond (ai e.kind 3)
     (ae (wU n w e.at' e.dq) λI=>
     some (I,true))
     (ae (tW n w.fI e.at') λJ=>
     some ({w with fI:=J},true)))) λx=>eS n (K+2) x.1:=by
  refine kX (cd (j9 (λy=>?_) λ_=>az a))
  rw[aJ,nq (by omega) (by omega) (by omega) (by omega)] at y
  obtain⟨k,M⟩:=gD y.1
  rw[M] at y⊢
  refine ok_eq (λ_=>aW (apd h (by omega) E A) λx hx=>az hx) λ_=>?_
  exact aW (Vi h.r (by omega)) λr hr=>az ⟨a.c,a.s2,a.s,hr,a.t⟩
 have D:Ok (ae (bj n e.at' 0 2) λN=>
   cond (ay N)
    (some (w,false))
    (ae (bj n e.kind 5 7) λP=>
    cond (ay P)
     (some (w,false))
     (ae (xh n w e.at') λS=>
     cond (lC S (ai e.kind 7))
      (some (w,false))
      (cond (ai e.kind 5)
       (ae (wY n w e.at') λU=>
       some (U,true))
       (cond (ai e.kind 6)
        (ae (wV n w e.at' e.n) λY=>
        some (Y,true))
        (ae (wZ n w e.at') λZ=>
        some (Z,true))))))) λx=>eS n (K+2) x.1:=by
  refine kX (cd (j9 (λy=>?_) λ_=>az a))
  obtain⟨k,M⟩:=gD y.1
  rw[M] at y⊢
  refine kX (cd (j9 (λ_=>?_) λ_=>az a))
  refine aW (aqQ h (by omega)) λu _=>cc (λ_=>az a) λ_=>ok_eq (λ_=>?_) λ_=>ok_eq (λ_=>?_) λ_=>?_
  ·exact aW (anx h (by omega) E A) λx hx=>az hx
  ·exact aW (amj h (by omega) (by omega) E A) λx hx=>az hx
  ·exact aW (anz h (by omega) A) λx hx=>az (hx.mono (by omega))
 have j:Ok (cond (ai e.kind 3)
  (cond (ai e.kind 3)
   (ae (bj n e.at' 0 (aL .i64 (au w.fI) 1)) λH=>
   cond (ay H)
    (some (w,false))
    (cond (ai e.kind 3)
     (ae (wU n w e.at' e.dq) λI=>
     some (I,true))
     (ae (tW n w.fI e.at') λJ=>
     some ({w with fI:=J},true))))
   (ae (bj n e.at' 0 2) λN=>
   cond (ay N)
    (some (w,false))
    (ae (bj n e.kind 5 7) λP=>
    cond (ay P)
     (some (w,false))
     (ae (xh n w e.at') λS=>
     cond (lC S (ai e.kind 7))
      (some (w,false))
      (cond (ai e.kind 5)
       (ae (wY n w e.at') λU=>
       some (U,true))
       (cond (ai e.kind 6)
        (ae (wV n w e.at' e.n) λY=>
        some (Y,true))
        (ae (wZ n w e.at') λZ=>
        some (Z,true))))))))
  (cond (ai e.kind 4)
   (ae (bj n e.at' 0 (aL .i64 (au w.fI) 1)) λbg=>
   cond (ay bg)
    (some (w,false))
    (cond (ai e.kind 3)
     (ae (wU n w e.at' e.dq) λbF=>
     some (bF,true))
     (ae (tW n w.fI e.at') λbe=>
     some ({w with fI:=be},true))))
   (ae (bj n e.at' 0 2) λbu=>
   cond (ay bu)
    (some (w,false))
    (ae (bj n e.kind 5 7) λcK=>
    cond (ay cK)
     (some (w,false))
     (ae (xh n w e.at') λcq=>
     cond (lC cq (ai e.kind 7))
      (some (w,false))
      (cond (ai e.kind 5)
       (ae (wY n w e.at') λcu=>
       some (cu,true))
       (cond (ai e.kind 6)
        (ae (wV n w e.at' e.n) λdj=>
        some (dj,true))
        (ae (wZ n w e.at') λbT=>
        some (bT,true))))))))) λx=>eS n (K+2) x.1:=cc (λ_=>cc (λ_=>C) λ_=>D) λ_=>cc (λ_=>C) λ_=>D;unfold Rf;exact cc (λ_=>cc (λ_=>ask) λ_=>j) λ_=>cc (λ_=>ask) λ_=>j
theorem aqS{K:Nat}{w:World}{l:List Event}(h:eS n K w)(u:∀e∈l,sO e)(A:l.length<=10)(C:K<=8000)(y:2^42<=n):Ok (G2 n w l) (eS n (K+20)):=by
 unfold G2;refine jN (N:=l.length) (by omega) (λm(s:World)i=>Dd n m l i s _) (λi s=>eS n (K+2*i) s) (m:=n) (by omega) h (λm s a=>?_) λm i s hi a j=>?_
 ·rw[Dd];exact jb (by rw[aJ];omega) (az (a.mono (by omega)))
 ·rw[Dd];refine jO (by rw[aJ];omega) ?_;rw[bn hi,ak,bD (by omega)];exact aW (aqR a (u _ (bI hi)) (by omega) y) λx hx=>cc (λ_=>j x.1 (hx.mono (by omega))) λ_=>j s (a.mono (by omega))
end
end
section
section
variable{n:Nat}{R:Type}{Q:R->Prop}
theorem ail:jh []:=⟨by show(0:Nat)<=1000;omega,λl a=>by cases a⟩
theorem agj:vv []:=λr a=>by cases a
theorem anA{net:List ax}{gi:List Int}{cM:List eD}(hz:tn net)(j:qy net=true)(u:EF gi)(x:gi.length=net.length)(y:HP n cM)(e:2^41<=n):PO n net gi cM=some true:=by
 have F:=hz.b;have a:∀(K:List ax->List Int->List eD->Option Bool),∀m i:Nat,i<=gi.length->gi.length<m+i->JE n m net gi cM i K=K net gi cM:=by
  intro K m
  induction m with
  |zero=>intro i A C;omega
  |succ m D=>
   intro i A C
   rw[JE]
   by_cases hi:i<gi.length
   ·rw[BL (by rw[aJ];omega),aF,bn hi,ak,vf,ak,fW (u _ (bI hi)),cn,dy,aH,bD (by omega)];exact D (i+1) (by omega) (by omega)
   ·rw[xB (by rw[aJ];omega),aH]
 unfold PO;refine(a _ n 0 (by omega) (by omega)).trans ?_;rw[W6 (by omega) (λl E=>(hz.l l E).z.s) e,ak,j,aF,alJ y e,ak,aF,aJ,aJ,x,cN,fW rfl]
theorem ape{net:List ax}{gi:List Int}{cM:List eD}(hz:tn net)(e:qy net=true)(j:EF gi)(u:gi.length=net.length)(a:HP n cM)(x:2^41<=n):Ok (O8 n net gi cM) λc=>gA n 0 c/\c.up=true:=by
 have D:=hz.b;have y:=a.l;unfold O8;rw[anA hz e j u a x,ak,cn,dy,aH,Du (by omega) (λl A=>(hz.l l A).z) x,ak];refine dI (by simp;omega) (by omega) (dI (by simp;omega) (by omega) (az ⟨⟨⟨hz,e,u,j,⟨a.f,y⟩⟩,by show(0:Nat)<=9000;omega,by show(0:Int)<=1/\(1:Int)<=100;omega,by show(0:Nat)<=_;omega,λt C=>by cases C⟩,rfl⟩))
theorem anB{net:List ax}{gi:List Int}{s:Int}(hz:tn net)(y:gi.length=net.length)(A:2^41<=n):Ok (PQ n net gi s) λx=>x.length<=6/\∀l∈x,gR l:=by
 have C:=hz.b;unfold PQ;refine jN (N:=net.length) (by omega) (λm(x:List ax)i=>C7 n m net gi s x i _) (λi x=>x.length<=i/\∀l∈x,gR l) (m:=n) (s:=[]) (by omega) ⟨by simp,λl e=>by cases e⟩ (λm x j=>?_) λm i x hi j u=>?_
 ·rw[C7];exact jb (by rw[aJ];omega) (az ⟨by omega,j.2⟩)
 ·rw[C7];refine jO (by rw[aJ];omega) ?_;have e:=hz.l _ (bI hi);rw[bn (show i<gi.length by omega),ak,bD (show i<2^31 by omega)];refine ok_eq (λ_=>?_) λ_=>u x ⟨by omega,j.2⟩;rw[bn hi,ak,Lm e.z,ak];refine dI (by simp;omega) (by omega) (u _ ⟨by simp;omega,λl a=>?_⟩);rcases cU.1 a with a|a
  ·exact j.2 l a
  ·rw[fe] at a;rw[a];exact e
theorem apf{id:Int}{base:List ax}(a:base.length<=6)(h:∀l∈base,gR l)(e:2^41<=n):Ok (O9 n id base) (jn 0):=by
 have z:jn 0 (aT.mk 0 [] [] false [] []):=⟨ail,by show(0:Nat)<=6;omega,ail,by show(0:Nat)<=9000;omega,agj,CE,by show(0:Nat)<=_;omega⟩;unfold O9;refine kX (cd (j9 (λ_=>?_) λ_=>az z));rw[W6 (by omega) (λl a=>(h l a).z.s) e,ak,Du (by omega) (λl a=>(h l a).z) e,ak,ak];exact cd (cc (λ_=>az ⟨⟨by show base.length<=_;omega,h⟩,a,⟨by show base.length<=_;omega,h⟩,by show(0:Nat)<=9000;omega,agj,CE,by show(0:Nat)<=_;omega⟩) λ_=>az z)
theorem aqT{net:List ax}{gi:List Int}{cM:List eD}(hz:tn net)(e:qy net=true)(H:EF gi)(A:gi.length=net.length)(I:HP n cM)(j:2^41<=n):Ok (Pb n net gi cM) (eS n 0):=by
 unfold Pb;refine aW (ape hz e H A I j) λc C=>?_;rw[C.2,cn,dy,aH];have u:∀m s:Nat,∀w:World,1<=s->s<=3->3<m+s->w.dO=c->w.fI=[]->w.told=[]->w.di.length+1=s->(∀x∈w.di,jn 0 x)->Ok (Jt n m net gi s w λJ=>some J) (eS n 0):=by
  intro m
  induction m with
  |zero=>intro s w M N P;omega
  |succ m S=>
   intro s w M N P D E h6 Y F
   rw[Jt]
   refine pM (λU=>?_) λU=>az ⟨by rw[D];exact C.1,by omega,F,by rw[E];exact fu.nil,by rw[h6];show(0:Nat)<=_;omega⟩
   refine aW (anB hz A j) λb e=>aW (apf e.1 e.2 j) λx hx=>dI (by simp;omega) (by omega) ?_
   rw[bD (by omega)]
   refine S (s+1) _ (by omega) (by omega) (by omega) D E h6 (by show(w.di++[x]).length+1=s+1;simp;omega) λy a=>?_
   rcases cU.1 a with a|a
   ·exact F y a
   ·rw[fe] at a;rw[a];exact hx
 exact u n 1 (World.mk c [] [] []) (by omega) (by omega) (by omega) rfl rfl rfl rfl λx hx=>by cases hx
theorem apg{r:Rd}(u:bU 0 r)(A:2^42<=n):Ok (Qu n r) λx=>eS n 0 x.1/\bU 300000 x.2:=by
 unfold Qu;refine aW (ane u (by omega) (by omega)) λx hx=>?_;obtain⟨⟨a,H⟩,C⟩:=hx;have D:=asn a;have hz:tn x.1:=⟨λl E=>(a.l l E).1,by omega,a.len⟩;refine aW (alI a.len C (by omega) (by omega)) λy e=>aW (amc e.2 (by omega) A) λf j=>aW (aqT hz D.2 e.1.1 e.1.2 j.1 (by omega)) λw F=>az ⟨F,j.2.mono (by omega)⟩
theorem agY:mA (aS.mk [] [] 0):=⟨by show(0:Nat)<=100;omega,λx hx=>(by cases hx),by show(0:Nat)<=100;omega,by show-1000<=(0:Int)/\(0:Int)<=1000;omega⟩
theorem aph{K:Nat}{w:World}{r:Rd}{N:Int}(h:eS n K w)(Y:bU N r)(hN:N<=800000000000)(hn:2^42<=n):Ok (Pc n r w) λx=>sO x.1/\bU (N+200) x.2:=by
 have P:=h.c.b.net;have mG:=h.c.b.cM;have qM:=h.r.l;have ev:∀{k a:Int}{b:Bool}{c:Int}{e:Rd},(0<=c/\c<=1000)->bU (N+50) e->sO ((Event.mk k a c b (aS.mk [] [] 0),e)).1/\bU (N+200) ((Event.mk k a c b (aS.mk [] [] 0),e)).2:=λhc y=>⟨⟨hc,agY⟩,y.mono (by omega)⟩;have D:∀e,bU (N+10) e->Ok (ae (aI n e 9) λZ=>ae (wX n Z.2 w.dO.net w.dO.cM) λx3=>some (Event.mk 1 (aq .i64 1 Z.1) 0 false x3.1,x3.2)) λx=>sO x.1/\bU (N+200) x.2:=λe y=>
  cJ y (by omega) (by omega) λa E _ _ A=>aW (ano P mG A (by omega) (by omega)) λt ht=>az ⟨⟨by show(0:Int)<=0/\(0:Int)<=1000;omega,ht.1⟩,ht.2.mono (by omega)⟩
 have F:∀e,bU (N+10) e->Ok (ae (aI n e 5) λx4=>ae (aI n x4.2 9) λx5=>some (Event.mk 2 (aq .i64 10 x4.1) (aq .i64 1 x5.1) false (aS.mk [] [] 0),x5.2)) λx=>sO x.1/\bU (N+200) x.2:=λe y=>
  cJ y (by omega) (by omega) λa E _ _ A=>cJ A (by omega) (by omega) λb r2 b0 b1 C=>az (ev (by rw[js (by omega) (by omega) (by omega) (by omega)];omega) (C.mono (by omega)))
 have H:∀(k:Int)e,bU (N+10) e->Ok (some (Event.mk 4 k 0 false (aS.mk [] [] 0),e)) λx=>sO x.1/\bU (N+200) x.2:=λk e y=>az (ev (by omega) (y.mono (by omega)));have I:∀(k:Int)e,bU (N+10) e->Ok (ae (aI n e 3) λx6=>some (Event.mk k x6.1 0 false (aS.mk [] [] 0),x6.2)) λx=>sO x.1/\bU (N+200) x.2:=λk e y=>
  cJ y (by omega) (by omega) λa E _ _ A=>az (ev (by omega) (A.mono (by omega)))
 have J:∀e,bU (N+10) e->Ok (ae (aI n e 3) λx7=>ae (aI n x7.2 90) λS=>ae (aI n S.2 4) λU=>ae (af [0,S.1,300,5] U.1) λbg=>ae (af [0,S.1,300,5] U.1) λbF=>some (Event.mk 6 x7.1 bF false (aS.mk [] [] 0),U.2)) λx=>sO x.1/\bU (N+200) x.2:=λe y=>
  cJ y (by omega) (by omega) λa E _ _ A=>cJ A (by omega) (by omega) λb r2 b0 b1 C=>cJ C (by omega) (by omega) λc r3 c0 c1 j=>iV c0 (by simp;omega) λu _ _=>iV c0 (by simp;omega) λv hv _=>az (ev (by
   simp only[cO,oP,oQ] at hv
   omega) (j.mono (by omega)))
 have M:∀(k:Int)e,bU (N+10) e->Ok (ae (aI n e 8) λbu=>some (Event.mk 3 k 0 (ai bu.1 0) (aS.mk [] [] 0),bu.2)) λx=>sO x.1/\bU (N+200) x.2:=λk e y=>
  cJ y (by omega) (by omega) λa E _ _ A=>az (ev (by omega) (A.mono (by omega)))
 unfold Pc;refine cw (λIe=>?_) λ_=>?_
 ·refine cJ Y (by omega) Ie λk E _ _ A=>cJ A (by omega) (by omega) λb r2 _ _ C=>?_;have j:bU (N+10) r2:=C.mono (by omega);dsimp only
  repeat' (first|exact D _ j|exact F _ j|exact H _ _ j|exact I _ _ j|exact J _ j|exact M _ _ j|refine cc (λ_=>?_) λ_=>?_)
 ·refine cJ Y (by omega) (by omega) λb r2 _ _ C=>?_;have j:bU (N+10) r2:=C.mono (by omega);dsimp only
  repeat' (first|exact D _ j|exact F _ j|exact H _ _ j|exact I _ _ j|exact J _ j|exact M _ _ j|refine cc (λ_=>?_) λ_=>?_)
end
end
section
section
variable{n:Nat}{R:Type}{Q:R->Prop}
theorem jn.z{K:Nat}{s:aT}(h:jn K s)(j:K<=15000):Oe s:=⟨by have:=h.b6;omega,λl a=>(h.b.2 l a).z,by have:=h.lg;omega,h.l.1,λl a=>(h.l.2 l a).r,by have:=h.tl;omega,λt e=>by have:=(rq (h.t.t t e).2).2;omega⟩
theorem jn.avm{K:Nat}{s:aT}(h:jn K s)(a:K<=15000):Good s:=⟨h.z a,h.g⟩
theorem anC{K:Nat}{c:bG}(h:gA n K c)(e:K<=10000)(a:2^41<=n):P4 n c=some c:=by
 have u:=h.b.net.b;have x:=h.b.gi;have y:=h.b.cM.l;unfold P4;rw[Du (by omega) (λl j=>(h.b.net.l l j).z) a,ak,eL (by simp;omega) (by omega),ak,eL (by simp;omega) (by omega),ak,JO (by have:=h.tl;omega) h.t e a,ak];rfl
theorem alM{l:List aK}(h:fu 60 l)(j:2^41<=n):OF n l=some l:=by
 have u:=h.l;unfold OF;have:=Rr (xs:=l) (f:=λt:aK=>t) (by omega) (L:=λm out i=>FF n m l out i λa=>some a) (k:=λout=>some out) (λm out e=>by
  rw[FF,xB (by rw[aJ];omega),aH]) (λm i out hi e=>by
  have x:=(h.m _ (bI hi)).o
  rw[FF,BL (by rw[aJ];omega),aF,bn hi,ak,eL (by simp;omega) (by omega),ak,eL (by simp;omega) (by omega),ak]
  simp only[iw]) (m:=n) (by omega);rw[this,List.map_id']
theorem anD{K:Nat}{w:World}(h:eS n K w)(y:K<=10000)(j:2^41<=n):Ok (P5 n w) (eS n K):=by
 have D:=h.s2;have A:=h.t;unfold P5;rw[anC h.c y j,ak,alM h.r j,ak];refine dI (by simp;omega) (by omega) ?_;rw[iw];refine jN (N:=w.di.length) (by omega) (λm(x:World)i=>Gc n m i w x _) (λi x=>gA n K x.dO/\x.di.length=i/\(∀s∈x.di,jn K s)/\fu 60 x.fI/\x.told.length<=40000*(K+1)) (m:=n) (by omega) ⟨h.c,rfl,λs e=>(by cases e),h.r,A⟩ (λm x a=>?_) λm i x hi a C=>?_
 ·rw[Gc];exact jb (by rw[aJ];omega) (az ⟨a.1,by omega,a.2.2.1,a.2.2.2.1,a.2.2.2.2⟩)
 ·rw[Gc];refine jO (by rw[aJ];omega) ?_;have u:=h.s _ (bI hi);rw[bn hi,ak,acF (u.z (by omega)) j,ak,bD (by omega)];refine dI (by simp;omega) (by omega) (C _ ⟨a.1,by show(x.di++[_]).length=i+1;simp;omega,λs e=>?_,a.2.2.2.1,a.2.2.2.2⟩);rcases cU.1 e with e|e
  ·exact a.2.2.1 s e
  ·rw[fe] at e;rw[e];exact u
theorem acR{out:List Event}{n1:Int}{w:World}{r:Rd}{K:List Event->Int->List Event->World->Rd->Option (List Event×World×Rd)}{Q:List Event×World×Rd->Prop}(u:∀l,(∀e∈l,sO e)->l.length<=10->Ok (K out n1 l w r) Q):∀(m c:Nat)(l:List Event),c<m->c+l.length<=10->(∀e∈l,sO e)->Ok (Jv n m out n1 l c w r K) Q
 |0,c,l,x,y,j=>by omega
 |m+1,c,l,x,y,j=>by
  rw[Jv];refine cw (λA=>?_) λA=>u l j (by omega);refine dI (by simp;omega) (by omega) ?_;rw[show aL .i64 (c:Int) 1=((c-1:Nat):Int) by rw[iA];omega];refine acR u m (c-1) _ (by omega) (by simp;omega) λe a=>?_;rcases cU.1 a with a|a
  ·exact j e a
  ·rw[fe] at a;rw[a];exact⟨by show(0:Int)<=0/\(0:Int)<=1000;omega,agY⟩
theorem acS(C:2^42<=n){K:List Event->World->Rd->Option (List Event×World×Rd)}{Q:List Event×World×Rd->Prop}(J:∀out w r,eS n 2000 w->bU 400000 r->Ok (K out w r) Q):∀(m c:Nat)(out:List Event)(w:World)(r:Rd),c<m->c<=50->out.length<=20*(50-c)->eS n (20*(50-c)) w->bU (300001+300*(50-c)) r->Ok (C2 n m out c w r K) Q
 |0,c,out,w,r,N,P,S,y,D=>by omega
 |m+1,c,out,w,r,N,P,S,y,D=>by
  rw[C2];have u:∀(E:List Event)(j:Rd),bU (300001+300*(50-c)+250) j->Ok (K E w j) Q:=λE j A=>J E w j (y.mono (by omega)) (A.mono (by omega));refine cw (λU=>?_) λU=>u out r (D.mono (by omega));have Y:aL .i64 (c:Int) 1=((c-1:Nat):Int):=by rw[iA];omega
  refine aW (aph y D (by omega) C) λe F=>cJ F.2 (by omega) (by omega) λa Z _ _ M=>?_;have next:∀(l:List Event)(j:Rd),(∀e∈l,sO e)->l.length<=10->bU (300001+300*(50-c)+250) j->Ok (cond (av 120 (aq .i64 (au out) (au l))) (K out w j) (ae (aN 80 out l) λjF=>ae (G2 n w l) λfA=>C2 n m jF (aL .i64 (c:Int) 1) fA j K)) Q:=λl j H I A=>by
   refine cc (λ_=>u out j A) λ_=>dI (by omega) (by omega) (aW (aqS y H I (by omega) C) λw' Nt=>?_)
   rw[Y]
   exact acS C J m (c-1) _ w' j (by omega) (by omega) (by simp;omega) (Nt.mono (by omega)) (A.mono (by omega))
  refine ok_eq (λ_=>?_) λ_=>?_
  ·refine cJ M (by omega) (by omega) λb r2 b0 b1 dC=>?_;obtain⟨b,rfl⟩:=gD b0;dsimp only;rw[show aq .i64 1 (b:Int)=((1+b:Nat):Int) by rw[js (by omega) (by omega) (by omega) (by omega)];omega];refine acR (λl H I=>next l r2 H I (dC.mono (by omega))) n (1+b) _ (by omega) (by simp;omega) λx hx=>?_;rw[fe] at hx;rw[hx];exact F.1
  ·exact next [e.1] Z (λx hx=>by rw[fe] at hx;rw[hx];exact F.1) (by simp) (M.mono (by omega))
theorem amk{r:Rd}(e:bU 0 r)(u:2^42<=n):Ok (Pf n r) λx=>eS n 2000 x.1/\bU 400000 x.2:=by
 unfold Pf;refine aW (apg e u) λx hx=>aW (P:=λy=>eS n 2000 y.2.1/\bU 400000 y.2.2) ?_ λy j=>az j;unfold Vc;refine cJ hx.2 (by omega) (by omega) λa A C F D=>?_;obtain⟨a,rfl⟩:=gD C;refine acS u (λout w r E e=>?_) n a [] x.1 A (by omega) (by omega) (by simp) (hx.1.mono (by omega)) (D.mono (by omega));exact aW (anD E (by omega) (by omega)) λy j=>az ⟨j,e⟩
theorem aml{r:Rd}(e:bU 0 r)(j:2^42<=n):Ok (Pg n r) λx=>jn 2000 x.1/\bU 400001 x.2:=by
 unfold Pg;refine aW (amk e j) λx hx=>?_;have D:=hx.1.s2;refine cJ hx.2 (by omega) (by rw[aJ];omega) λa E u y A=>iV u (by rw[aJ] at y;omega) λs C _=>az ⟨hx.1.s s C,A⟩
theorem abr{l:ax}{r:Rd}{N:Int}(h:gR l)(I:bU N r)(S:N<=1000000)(U:2^41<=n):Ok (Jw n r l) λx=>vK x.1/\bU (N+10) x.2:=by
 have j:=h.r;have hz:=h.z;have Y:=h.cap;have Z:=h.l3;have J:=h.s3;have hb:=h.b;have h6:=h.h6;unfold Jw;rw[Lm hz,ak];refine cJ I (by omega) (by omega) λa r1 _ _ C=>ok_eq (λ_=>?_) λ_=>ok_eq (λ_=>?_) λ_=>ok_eq (λ_=>?_) λ_=>ok_eq (λ_=>?_) λ_=>ok_eq (λ_=>?_) λ_=>ok_eq (λ_=>?_) λ_=>ok_eq (λ_=>?_) λ_=>ok_eq (λ_=>?_) λ_=>?_
 ·refine Ir C (by omega) (by simp) λs D F y=>az ⟨{j with n1:=?_,b1:=?_},y.mono (by omega)⟩
  ·show s.length<=100;simp only[cO,oP,oQ] at F;rcases F with rfl|rfl|rfl<;>decide
  ·show(32:UInt8)∉s;simp only[cO,oP,oQ] at F;rcases F with rfl|rfl|rfl<;>decide
 ·exact az ⟨{j with n3:=j.n2,b3:=j.b2},C.mono (by omega)⟩
 ·exact az ⟨{j with i2:=j.i1},C.mono (by omega)⟩
 ·refine cJ C (by omega) (by omega) λb D A b1 y=>iV A (by simp;omega) λu _ _=>iV A (by simp;omega) λv _ _=>az ⟨{j with},y.mono (by omega)⟩
 ·refine cJ C (by omega) (by omega) λb D A b1 y=>cJ y (by omega) (by omega) λd H d0 d1 E=>iV A (by omega) λu _ _=>iV A (by omega) λv _ _=>az ⟨{j with z1:=?_,i4:=?_},E.mono (by omega)⟩
  ·show(aX _ _ _).length<=1000;rw[mP];omega
  ·intro x hx;rcases xb hx with hx|rfl
   ·exact j.i4 x hx
   ·rw[nq (by omega) (by omega) (by omega) (by omega)];unfold In;omega
 ·refine cJ C (by omega) (by omega) λb D A b1 y=>cJ y (by omega) (by omega) λd H d0 d1 E=>iV A (by omega) λu _ _=>iV A (by omega) λv _ _=>az ⟨{j with z2:=?_,i5:=?_},E.mono (by omega)⟩
  ·show(aX _ _ _).length<=1000;rw[mP];omega
  ·intro x hx;rcases xb hx with hx|rfl
   ·exact j.i5 x hx
   ·rw[nq (by omega) (by omega) (by omega) (by omega)];unfold In;omega
 ·refine cJ C (by omega) (by omega) λb D A b1 y=>dI (by simp;omega) (by omega) (az ⟨{j with z3:=?_,i6:=?_},y.mono (by omega)⟩)
  ·show(l.cV++[_]).length<=1000;simp;omega
  ·intro x hx;rcases cU.1 hx with hx|hx
   ·exact j.i6 x hx
   ·rw[fe] at hx;rw[hx];show In (aL .i64 b 1);rw[nq (by omega) (by omega) (by omega) (by omega)];unfold In;omega
 ·refine cJ C (by omega) (by omega) λb D A b1 y=>cJ y (by omega) (by omega) λd H d0 d1 E=>cJ E (by omega) (by omega) λe r4 e0 e1 M=>dI (by simp;omega) (by omega) (az ⟨{j with z4:=?_},M.mono (by omega)⟩);show(l.holds++[_]).length<=1000;simp;omega
 ·have P:bR (mB 1 (au l.bA) (au l.bA))=some ():=by
    unfold mB
    rw[aJ,fW (by omega)];rfl
  rw[P,ak];refine BG (by omega) (by rw[aJ];omega) (by rw[aJ];omega) (az ⟨{j with z1:=?_,i4:=?_},C.mono (by omega)⟩)
  ·show(List.take _ (List.drop _ _)).length<=1000;rw[lv,oN];omega
  ·intro x hx;exact j.i4 x (Jz hx)
end
end
section
section
variable{n:Nat}{R:Type}{Q:R->Prop}
def spoilt:List aj:=[[120],[80,32,53,32,108,97,58,48,58,49,58,53,48,48],[67,32,57],[65,32,49],[67,32,49]]
theorem api{r:aj}(h:r∈spoilt):Ek r/\r.length<=100:=by
 simp only[spoilt,cO,oP,oQ] at h;have two:∀{r:aj}{a b:aj},bm 32 r=[a,b]->Ek r:=λe C D E j=>by rw[e] at j;cases j
 rcases h with rfl|rfl|rfl|rfl|rfl
 ·exact⟨(λa b c e=>by
   rw[show bm 32 [120]=[[120]] from rfl] at e
   cases e),by decide⟩
 ·refine⟨λa b c e=>?_,by decide⟩;rw[show bm 32 [80,32,53,32,108,97,58,48,58,49,58,53,48,48]=[[80],[53],[108,97,58,48,58,49,58,53,48,48]] from rfl] at e;injection e with _ e;injection e with _ e;injection e with e _;subst e;have x:itoa 0=[48]:=by rw[show(0:Int)=((0:Nat):Int) from rfl,pF,rj (by omega)];rfl
  have i1:itoa 1=[49]:=by rw[show(1:Int)=((1:Nat):Int) from rfl,pF,rj (by omega)];rfl
  have i5:itoa 500=[53,48,48]:=by rw[show(500:Int)=((500:Nat):Int) from rfl,pF,vg (by omega),vg (by omega),rj (by omega)];rfl
  have y:([108,97,58,48,58,49,58,53,48,48]:aj)=gF [⟨[108,97],0,1,500⟩]:=by
   simp[gF,kC,dE,x,i1,i5]
  rw[y];have A:jg [⟨[108,97],0,1,500⟩]=true:=by decide
  exact abW (by rw[acA A (λo u=>by rw[fe] at u;rw[u];decide)])
 ·exact⟨two (show bm 32 [67,32,57]=[[67],[57]] from rfl),by decide⟩
 ·exact⟨two (show bm 32 [65,32,49]=[[65],[49]] from rfl),by decide⟩
 ·exact⟨two (show bm 32 [67,32,49]=[[67],[49]] from rfl),by decide⟩
theorem ald{K:Nat}{s:aT}{r:Rd}{N:Int}(h:jn K s)(hK:K<=10000)(I:bU N r)(hN:N<=900000)(D:2^41<=n):Ok (OC n r s) λx=>Good x.1/\bU (N+20) x.2:=by
 have hz:=h.z (show K<=15000 by omega);have J:=h.lg;have same:∀(a:Int)(b:Bool),Good {s with id:=a,up:=b}:=λa b=>⟨⟨hz.bl,hz.bz,hz.lg,hz.ll,hz.lr,hz.tl,hz.tz⟩,h.g⟩;have self:Good s:=⟨hz,h.g⟩;unfold OC;rw[acF hz D,ak];refine cJ I (by omega) (by omega) λa r1 _ _ e=>ok_eq (λ_=>?_) λ_=>ok_eq (λ_=>?_) λ_=>ok_eq (λ_=>?_) λ_=>ok_eq (λ_=>?_) λ_=>ok_eq (λ_=>?_) λ_=>ok_eq (λ_=>?_) λ_=>?_
 ·exact cJ e (by omega) (by omega) λb H _ _ A=>az ⟨same _ _,A.mono (by omega)⟩
 ·have M:0<=(s.log.length:Int)/2:=Jh (by omega) (by omega);have S:(s.log.length:Int)/2<=s.log.length:=Oy _ (by omega);rw[fN];refine xp (by omega) (by omega) (by omega) (Yn (by omega) M S (az ⟨⟨⟨hz.bl,hz.bz,?_,hz.ll,hz.lr,hz.tl,hz.tz⟩,?_⟩,e.mono (by omega)⟩))
  ·show(List.take _ (List.drop _ _)).length<_;rw[lv,oN];omega
  ·exact VM (ak4 _ _) (show s.log.length<1000000 by omega) h.g
 ·refine Ir (list:=spoilt) e (by omega) (by decide) λq H U A=>?_;obtain⟨E,Y⟩:=api U;refine aW (P:=λx=>x.1.length<=9000/\vv x.1) (MQ (VE (by omega) (show q.length<2^28 by omega) D) ?_) λx hx=>az ⟨⟨⟨hz.bl,hz.bz,by show x.1.length<_;omega,hz.ll,hz.lr,hz.tl,hz.tz⟩,hx.2⟩,A.mono (by omega)⟩;cases Z:xO s.log q with
  |none=>exact⟨J,h.g⟩
  |some x=>
   obtain⟨a1,a2,a3⟩:=acH (by omega) (by omega) Z;refine⟨a1,?_⟩;show vv x;unfold vv;rw[a3];intro p y;rcases cU.1 y with y|y
   ·exact h.g p y
   ·rw[fe] at y;rw[y];exact E
 ·exact az ⟨same _ _,e.mono (by omega)⟩
 ·refine cw (λC=>?_) λ_=>az ⟨self,e.mono (by omega)⟩;rw[aJ] at C;have h0:0<s.legs.length:=by omega
  have j:=bn h0;rw[show((0:Nat):Int)=0 from rfl] at j;simp only[j,ak];refine aW (abr (h.l.2 _ (bI h0)) e (by omega) D) λx hx=>az ⟨⟨⟨hz.bl,hz.bz,hz.lg,by show(aX _ _ _).length<=_;rw[mP];exact hz.ll,λl u=>?_,hz.tl,hz.tz⟩,h.g⟩,hx.2.mono (by omega)⟩;rcases xb u with u|rfl
  ·exact hz.lr l u
  ·exact hx.1
 ·refine cw (λC=>?_) λ_=>az ⟨self,e.mono (by omega)⟩;rw[aJ] at C;have h0:0<s.an.length:=by omega
  have j:=bn h0;rw[show((0:Nat):Int)=0 from rfl] at j;refine cJ e (by omega) (by omega) λb H _ _ A=>?_;simp only[j,ak];refine az ⟨⟨⟨hz.bl,hz.bz,hz.lg,hz.ll,hz.lr,by show(aX _ _ _).length<=_;rw[mP];exact hz.tl,λt F=>?_⟩,h.g⟩,A.mono (by omega)⟩;rcases xb F with F|rfl
  ·exact hz.tz t F
  ·have:=hz.tz _ (bI h0);exact this
 ·refine cw (λC=>?_) λ_=>az ⟨self,e.mono (by omega)⟩;rw[aJ] at C;have h0:0<s.base.length:=by omega
  have j:=bn h0;rw[show((0:Nat):Int)=0 from rfl] at j;simp only[j,ak];refine aW (abr (h.b.2 _ (bI h0)) e (by omega) D) λx hx=>az ⟨⟨⟨by show(aX _ _ _).length<=_;rw[mP];exact hz.bl,λl u=>?_,hz.lg,hz.ll,hz.lr,hz.tl,hz.tz⟩,h.g⟩,hx.2.mono (by omega)⟩;rcases xb u with u|rfl
  ·exact hz.bz l u
  ·exact hx.1.touA
def H2(code:List Int):Prop:=∀x∈code,0<=x/\x<256
theorem aqU{code:List Int}(h:H2 code)(e:code.length<2^62):Ok (Qr n code) (bU 0):=by
 unfold Qr;refine cw (λa=>?_) λa=>?_
 ·rw[aJ] at a;refine BG (by omega) (by omega) (by omega) (az ⟨λx hx=>h x (Jz hx),?_,by show(0:Int)<=0;omega,by show(0:Int)<=0;omega⟩);show(List.take _ (List.drop _ _)).length<=2000;rw[lv];omega
 ·rw[aJ] at a;exact az ⟨h,by show code.length<=2000;omega,by show(0:Int)<=0;omega,by show(0:Int)<=0;omega⟩
theorem asu{r:Rd}(u:bU 0 r)(A:2^42<=n):Ok (OG n r) λx=>Good x.1/\bU 500000 x.2:=by
 unfold OG;refine aW (aml u A) λx hx=>cJ hx.2 (by omega) (by omega) λa C _ _ e=>ok_eq (λ_=>?_) λ_=>az ⟨hx.1.avm (by omega),e.mono (by omega)⟩;exact aW (ald hx.1 (by omega) e (by omega) (by omega)) λy j=>az ⟨j.1,j.2.mono (by omega)⟩
theorem apj{code:List Int}(h:H2 code)(a:code.length<2^62)(e:2^42<=n):Ok (Jn n code) Good:=by
 unfold Jn;exact aW (aqU h a) λr j=>aW (asu j e) λx hx=>az hx.1
theorem anE{code:List Int}(h:H2 code)(a:code.length<2^62)(j:2^42<=n):Jy n code=some true:=by
 obtain⟨s,e,u⟩:=apj h a j;exact ao0 e u (by omega)
end
end
end Go.Ev
