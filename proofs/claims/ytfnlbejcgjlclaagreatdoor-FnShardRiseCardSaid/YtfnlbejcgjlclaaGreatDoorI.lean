/- What is drawn is good, and the law answers true of it. -/
import Derived.Test.YtfnlbejcgjlclaaGreatDoorH
set_option linter.all false
namespace Go.Ev
open Go Go.Lib
section
section
variable{n:Nat}{R:Type}{Q:R->Prop}
theorem jD{p:Prop}[Decidable p]{x y:Option R}(a:p->Ok x Q)(e:¬ p->Ok y Q):Ok (cond (decide p) x y) Q:=dR (λh=>a (fj h)) λh=>e (of_decide_eq_false h)
theorem NL{a:Int}(e:-9000000000000000000<=a)(j:a<=9000000000000000000):gj .i64 a=-a:=by
 unfold gj;rw[IntKind.wrap_i64];omega
theorem aaa(x:Int):nf n x=some (decide (In x)):=by
 unfold nf;rw[rG,cu]
theorem ke{x:Int}{a b:Int}{f:Bool->Option R}(h:Ok (f (decide (a<=x/\x<=b))) Q):Ok (ck (dn n x a b) f) Q:=by
 rw[rG];exact h
theorem CA{x:Int}{f:Bool->Option R}(h:Ok (f (decide (In x))) Q):Ok (ck (nf n x) f) Q:=by
 rw[aaa];exact h
theorem Vk{x d:Int}(hx:0<=x/\x<2^62)(a:0<d/\d<=1000000):Ok (E4 n x d) λ_=>True:=by
 unfold E4;refine s6 a.1 hx.1 hx.2 (s7 a.1 hx.1 (dY (λ_=>cF trivial) λ_=>ok_eq (λ_=>?_) λ_=>cF trivial));exact s7 (by omega) (Dd hx.1 (by omega)) (ok_eq (λ_=>cF trivial) λ_=>cF trivial)
def nC(x:Int×Int):Prop:=In x.1
theorem sA:In 0:=by omega
theorem tW{e:Int}:nC (0,e):=sA
theorem acZ{a b c:Int}(D:In a):Ok (Jd n a b c) nC:=by
 unfold Jd Mg;refine ok_eq (λ_=>cF tW) λ_=>?_;refine c8 (P:=λx=>In x.1) ?_ λx hx=>dS (dR (λ_=>cF hx) λ_=>cF tW);refine CA (dS (jD (λ_=>?_) λ_=>cF sA));refine ke (dS (jD (λe=>?_) λ_=>cF sA));refine ke (dS (jD (λE=>?_) λ_=>cF sA));refine dY (λu=>?_) λu=>?_
 ·rw[NL (by omega) (by omega)];have A:0<=-a*b:=Ha (by omega) e.1;have C:-a*b<=1000000000000*1000000:=Y4 (by omega) e.2 e.1 (by omega);rw[mO (by omega)];refine c8 (Vk (by omega) (by omega)) λy _=>CA (dS (jD (λj=>cF j) λ_=>cF sA))
 ·have A:0<=a*b:=Ha u e.1;have C:a*b<=1000000000000*1000000:=Y4 (by omega) e.2 e.1 (by omega);rw[mO (by omega)];refine c8 (Vk (by omega) (by omega)) λy _=>CA (dS (jD (λj=>cF j) λ_=>cF sA))
theorem W9{x y T:Int}(hx:0<x)(h:y<=T/x):x*y<=T:=by
 have a:x*y<=x*(T/x):=Qp h (by omega);have e:x*(T/x)<=T:=Int.mul_ediv_self_le (by omega);omega
theorem K5{a b x y:Int}(e:0<x)(u:x<=1000000000000)(A:a*b=x*y\/a*b=-(x*y))(j:0<=y):Ok (ck (jB .i64 1000000000000 x) λq=>cond (cA q y) (some (0,2)) (some (ez .i64 a b,(0:Int)))) nC:=by
 refine s6 e (by omega) (by omega) (dY (λ_=>cF tW) λh=>cF ?_);have C:=W9 e h;have D:0<=x*y:=Ha (by omega) j;show In _;rw[mO (by omega)];omega
theorem K6{a b:Int}(h:a=0):Ok (some (ez .i64 a b,(0:Int))) nC:=cF (by
 subst h
 show In _
 have:(0:Int)*b=0:=Int.zero_mul b
 rw[mO (by omega),this]
 omega)
theorem aeu{a b:Int}(x:In a)(y:In b):Ok (JI n a b) nC:=by
 unfold JI;rw[NL (a:=a) (by omega) (by omega),NL (a:=b) (by omega) (by omega)];refine dY (λu=>dY (λj=>?_) λj=>?_) λu=>dY (λj=>?_) λj=>?_
 ·exact dY (λe=>K5 e (by omega) (.inl (Int.neg_mul_neg a b).symm) (by omega)) λe=>K6 (by omega)
 ·exact dY (λe=>K5 e (by omega) (.inr (by rw[Int.neg_mul,Int.neg_neg])) (by omega)) λe=>K6 (by omega)
 ·exact dY (λe=>K5 e (by omega) (.inr (by rw[Int.mul_neg,Int.neg_neg])) (by omega)) λe=>K6 (by omega)
 ·exact dY (λe=>K5 e (by omega) (.inl rfl) (by omega)) λe=>K6 (by omega)
theorem aev{j a b:Int}(u:In a)(A:In b):Ok (JJ n j a b) nC:=by
 have e:∀x:Int,Ok (ck (nf n x) λy=>cond (cD y) (some (0,2)) (some (x,(0:Int)))) nC:=λx=>CA (dS (jD (λh=>cF h) λ_=>cF tW));unfold JJ;refine ok_eq (λ_=>e _) λ_=>ok_eq (λ_=>e _) λ_=>ok_eq (λ_=>c8 (aeu u A) λy C=>cF C) λ_=>ok_eq (λ_=>?_) λ_=>?_
 ·exact dY (λ_=>e _) λ_=>e _
 ·exact dY (λ_=>e _) λ_=>e _
theorem TQ{a:List Mark}(h:wO a=true){i:Nat}(j:i<a.length):cm a (i:Int)=some (gM a i)/\(0<=(gM a i).cI/\(gM a i).cI<=1000000000)/\0<=(gM a i).dV/\(gM a i).dV<=1000000:=by
 have e:gM a i=a[i]:=by rw[gM,iE,eA j];rfl
 exact⟨eG j _,by rw[e];exact(Ef h).1 _ (dG j)⟩
theorem aba{x:Int}{e:List Mark}(hx:0<=x/\x<=1000000000000)(h:wO e=true)(hn:2^41<=n):Ok (MT n x e) nC:=by
 have hl:=(Ef h).2.2;have I:∀m i:Nat,∀A:Int,i<=e.length->e.length<m+i->0<=A->A<=1000000000000->Ok (mj n m x e A i λj=>some (j,0)) nC:=by
  intro m
  induction m with
  |zero=>intro i s M N;omega
  |succ m P=>
   intro i s M N S U
   rw[mj]
   refine dY (λJ=>?_) λJ=>cF (by show In _;omega)
   rw[cP] at J
   obtain⟨Y,b1,Z⟩:=TQ h (show i<e.length by omega)
   have next:∀E,0<=E->E<=1000000000000->Ok (mj n m x e E ((i+1:Nat):Int) λj=>some (j,0)) nC:=λE D g2=>P (i+1) E (by omega) (by omega) D g2
   have F:∀d:Int,0<=d->d<=1000000000000->(0<(gM e i).dV->d<=1000000000000/(gM e i).dV)->Ok (cond (cA 1000000000000 (cw .i64 s (ez .i64 d (gM e i).dV))) (some (0,2)) (mj n m x e (cw .i64 s (ez .i64 d (gM e i).dV)) ((i+1:Nat):Int) λj=>some (j,0))) nC:=λd D g2 g3=>by
    have aa:0<=d*(gM e i).dV:=Ha D Z.1
    have ab:d*(gM e i).dV<=1000000000000:=by
     by_cases c:0<(gM e i).dV
     ·have:=W9 c (g3 c);rwa[Int.mul_comm] at this
     ·have:(gM e i).dV=0:=by omega
      rw[this,Int.mul_zero];omega
    rw[mO (by omega),iY (by omega) (by omega) (by omega) (by omega)];exact dY (λ_=>cF tW) λ_=>next _ (by omega) (by omega)
   have y:∀d:Int,0<=d->d<=1000000000000->Ok (cond (cA 0 (gM e i).dV) (ck (jB .i64 1000000000000 (gM e i).dV) λq=>cond (cA q d) (some (0,2)) (cond (cA 1000000000000 (cw .i64 s (ez .i64 d (gM e i).dV))) (some (0,2)) (mj n m x e (cw .i64 s (ez .i64 d (gM e i).dV)) ((i+1:Nat):Int) λj=>some (j,0)))) (cond (cA 1000000000000 (cw .i64 s (ez .i64 d (gM e i).dV))) (some (0,2)) (mj n m x e (cw .i64 s (ez .i64 d (gM e i).dV)) ((i+1:Nat):Int) λj=>some (j,0)))) nC:=λd D g2=>
    dY (λc=>s6 c (by omega) (by omega) (dY (λ_=>cF tW) λg=>F d D g2 λ_=>g)) λc=>F d D g2 λc'=>by omega
   have u:Ok (cond (cA 1000000000000 s) (some (0,2)) (mj n m x e s ((i+1:Nat):Int) λj=>some (j,0))) nC:=dY (λ_=>cF tW) λ_=>next s S U
   have C:∀a b:Int,0<=a->a<=1000000000000->0<=b->b<=1000000000000->cQ .i64 a b=a-b:=λa b _ _ _ _=>lJ (by omega) (by omega) (by omega) (by omega);simp only[Y,cu,dE (show i<2^31 by omega)];refine dY (λH=>?_) λH=>?_
   ·rw[cP] at H;obtain⟨e2,c1,c2⟩:=TQ h (show i+1<e.length by omega);simp only[e2,cu];refine dY (λg=>dY (λg2=>?_) λ_=>u) λ_=>dY (λg2=>?_) λ_=>u
    ·rw[C _ _ (by omega) (by omega) (by omega) (by omega)];exact y _ (by omega) (by omega)
    ·rw[C _ _ (by omega) (by omega) (by omega) (by omega)];exact y _ (by omega) (by omega)
   ·refine dY (λg2=>?_) λ_=>u;rw[C _ _ (by omega) (by omega) (by omega) (by omega)];exact y _ (by omega) (by omega)
 exact I n 0 0 (by omega) (by omega) (by omega) (by omega)
def Kv(l:List lZ):Prop:=l.length<=1000
theorem aew{a:List lZ}{name:cq}(u:Kv a)(D:2^41<=n):Ok (Oe n a name) nC:=by
 have u:a.length<=1000:=u;have j:∀m i:Nat,i<=a.length->a.length<m+i->Ok (DW n m a name i (some (0,4))) nC:=by
  intro m
  induction m with
  |zero=>intro i y A;omega
  |succ m C=>
   intro i y A
   rw[DW]
   refine dY (λx=>?_) λx=>cF tW
   rw[cP] at x
   have e:=dt (show i<a.length by omega)
   simp only[e,cu,dE (show i<2^31 by omega)]
   exact dR (λ_=>CA (dS (jD (λh=>cF h) λ_=>cF tW))) λ_=>C (i+1) (by omega) (by omega)
 exact j n 0 (by omega) (by omega)
def iW(a:Int):Int×Int:=if a=1\/a=2 then(0,1) else if a=10 then(1,1) else if a=3\/a=4\/a=5\/a=7\/a=8 then(2,1) else if a=6 then(3,1) else if a=9 then(2,0) else if a=11 then(0,0) else(-1,0)
theorem TR(a:Int):Es n a=some (iW a):=by
 unfold Es iW;simp only[en,YR,dF]
 by_cases u:a=1
 ·simp[u]
 by_cases x:a=2
 ·simp[x]
 by_cases e:a=10
 ·simp[e]
 by_cases y:a=3
 ·simp[y]
 by_cases A:a=4
 ·simp[A]
 by_cases C:a=5
 ·simp[C]
 by_cases D:a=7
 ·simp[D]
 by_cases E:a=8
 ·simp[E]
 by_cases F:a=6
 ·simp[F]
 by_cases H:a=9
 ·simp[H]
 by_cases j:a=11
 ·simp[j]
 simp[u,x,y,A,C,F,D,E,H,e,j]
end
end
section
section
variable{n:Nat}
structure K7(x:ey):Prop where
 nm:x.name.length<=1000
 qY:x.marks.length<=10
def lL(code:List ey):Prop:=∀x∈code,K7 x
theorem lL.app{a b:List ey}(e:lL a)(j:lL b):lL (a++b):=λx hx=>(eB.1 hx).elim (e x) (j x)
theorem lL.one{x:ey}(h:K7 x):lL [x]:=λy a=>by rw[fM] at a;rw[a];exact h
theorem Jo:∀(d n:Nat)(r:cn),2^41+d<=n->d<=6->lX d r->Ok (oJ n r) λcode=>lL code/\code.length<=11^d
 |0,n,r,hn,hd,h=>absurd h (by simp[lX])
 |d+1,n,r,hn,hd,h=>by
  obtain⟨n,rfl⟩:∃m,n=m+1:=⟨n-1,by omega⟩;have M:=lX.z _ _ h;obtain⟨N,P⟩:=h;have k4:=(wi r.op).1;have kl:r.kids.length<=4:=by have:=N.k;omega
  have ae:(11:Nat)^(d+1)=11*11^d:=by rw[tZ];omega
  have af:1<=11^d:=Qq _ _ (by omega);have ah:11^d<=11^6:=vz (by omega) (by omega);have D:∀(c:Nat)(K:List ey->cn->Option (List ey))(Q:List ey->Prop),c<=r.kids.length->(∀code,lL code->code.length<=11^d*c->Ok (K code r) Q)->∀m i:Nat,∀e:List ey,i<=c->c<m+i->lL e->e.length<=11^d*i->Ok (AW n (oJ n) m e c i r K) Q:=by
   intro c K Q hc hK m
   induction m with
   |zero=>intro i e u E;omega
   |succ m ih=>
    intro i e u E h3 h4
    have hm:11^d*i<=11^d*4:=Dg _ (by omega)
    rw[AW]
    refine dY (λhi=>?_) λhi=>?_
    ·have F:i<r.kids.length:=by omega
     rw[dt F,cu,ig,ig,dE (by omega)];refine c8 (Jo d n r.kids[i] (by omega) (by omega) (P _ (dG F))) λy R=>?_;refine eU (by have:=R.2;omega) (by omega) ?_;exact ih (i+1) _ (by omega) (by omega) (h3.app R.1) (by rw[eS,Qo];have:=R.2;omega)
    ·rw[ig];have:i=c:=by omega
     subst this;exact hK e h3 h4
  rw[oJ,ig];have one:∀{a b:Int},K7 ⟨a,b,[],[]⟩:=⟨by show(0:Nat)<=1000;omega,by show(0:Nat)<=10;omega⟩;have A:∀code:List ey,lL code->code.length<=11^d*4->Ok (ck (cT 16 [] (cn.marks r)) λS=>ck (cT 56 code [ey.mk (cn.op r) (cn.num r) (cn.name r) S]) λU=>some U) λcode=>lL code/\code.length<=11^(d+1):=λcode u E=>by
   have:=M.2.1
   have:=M.2.2.1
   refine eU (by simp;omega) (by omega) (eU (by simp;omega) (by omega) (cF ⟨u.app (lL.one ⟨by assumption,by simpa using M.2.1⟩),by simp;omega⟩))
  have H:r.op=9->∀code:List ey,lL code->code.length<=11^d*4->Ok (ck (cm (cn.kids r) 2) λI=>ck (oJ n (cn.mk (cn.op I) (cn.num I) (cn.name I) (cn.kids I) (cn.marks I))) λx9=>ck (cm (cn.kids r) 3) λj=>ck (oJ n (cn.mk (cn.op j) (cn.num j) (cn.name j) (cn.kids j) (cn.marks j))) λJ=>ck (cT 56 code [ey.mk 9 (cw .i64 (cz x9) 1) [] []]) λY=>ck (cT 56 Y x9) λZ=>ck (cT 56 Z [ey.mk 11 (cz J) [] []]) λaa=>ck (cT 56 aa J) λab=>some ab) λcode=>lL code/\code.length<=11^(d+1):=λC code u E=>by
   have ad:r.kids.length=4:=by have:=N.k;rw[C,show pX 9=4 from rfl] at this;omega
   refine KN (dt (i:=2) (by omega)) ?_
   rw[ig]
   refine c8 (Jo d n _ (by omega) (by omega) (P _ (dG (by omega)))) λa ha=>?_
   refine KN (dt (i:=3) (by omega)) ?_
   rw[ig]
   refine c8 (Jo d n _ (by omega) (by omega) (P _ (dG (by omega)))) λb hb=>?_
   have:=ha.2
   have:=hb.2
   refine eU (by simp only[eS,fY,jx];omega) (by omega) (eU (by simp only[eS,fY,jx];omega) (by omega) (eU (by simp only[eS,fY,jx];omega) (by omega) (eU (by simp only[eS,fY,jx];omega) (by omega) (cF ⟨(((u.app (lL.one one)).app ha.1).app (lL.one one)).app hb.1,by simp only[eS,fY,jx];omega⟩))))
  refine ok_eq (λC=>?_) λC=>?_
  ·have ad:r.kids.length=4:=by have:=N.k;rw[C,show pX 9=4 from rfl] at this;omega
   exact D 2 _ _ (by omega) (λcode u E=>ok_eq (λ_=>H C code u (by omega)) λh=>absurd C h) n 0 [] (by omega) (by omega) (by intro x hx;cases hx) (by simp)
  ·rw[cP];refine D r.kids.length _ _ (by omega) (λcode u E=>ok_eq (λh=>absurd h C) λ_=>?_) n 0 [] (by omega) (by omega) (by intro x hx;cases hx) (by simp);have:11^d*r.kids.length<=11^d*4:=Dg _ (by omega);exact A code u (by omega)
end
end
section
section
variable{n:Nat}{R:Type}{Q:R->Prop}
theorem ag0{a b:Option R}(e:a=b)(h:Ok b Q):Ok a Q:=e ▸h
structure wP(x:ey)(at' len:Int):Prop where
 num:x.op=1->-1000000000<=x.num/\x.num<=1000000000
 jmp:x.op=9\/x.op=11->0<=x.num/\x.num<=len-at'-1
 qY:x.op=10->wO x.marks=true
 nom:x.op≠10->x.marks=[]
 nam:x.name.length<=8
theorem wP.m{x:ey}{a l:Int}(h:wP x a l):x.marks.length<=5/\∀m∈x.marks,(0<=m.cI/\m.cI<=1000000000)/\0<=m.dV/\m.dV<=1000000:=by
 by_cases c:x.op=10
 ·have:=Ef (h.qY c);exact⟨this.2.2,this.1⟩
 ·rw[h.nom c];simp
theorem O3{x y:Int}{f:Bool->Prop}(h:x=y->f true)(a:x≠y->f false):Ok (some (cp x y)) f:=cF (by
 rw[en]
 by_cases c:x=y
 ·rw[gu c];exact h c
 ·rw[gB c];exact a c)
theorem abb{x:ey}{a len:Int}(I:K7 x)(S:0<=a/\a<len/\len<=1000)(J:2^41<=n):Ok (Iw n x a len) λb=>b=true->wP x a len:=by
 have E:cz x.marks=0->x.marks=[]:=λh=>nL.1 (by rw[cP] at h;omega);have u:∀{p:Prop},false=true->p:=λh=>(by cases h);have A:x.name=[]->x.name.length<=8:=λh=>by rw[h];simp
 have e:cQ .i64 (cQ .i64 len a) 1=len-a-1:=by rw[ij,ij];omega
 have U:=I.nm;have Y:=I.qY;have y:x.op≠10->x.op≠1->(x.op=9\/x.op=11->0<=x.num/\x.num<=len-a-1)->Ok (cond (dm x.name []) (some (cp (cz x.marks) 0)) (some false)) λb=>b=true->wP x a len:=λj C h=>n4 (λD=>O3 (λc _=>⟨λF=>absurd F C,h,λF=>absurd F j,λ_=>E c,A D⟩) λ_=>u) λ_=>cF u;unfold Iw;rw[e];refine ok_eq (λC=>ke (jD (λN=>n4 (λD=>O3 (λc _=>⟨λ_=>N,λh=>by omega,λh=>by omega,λ_=>E c,A D⟩) λ_=>u) λ_=>cF u) λ_=>cF u)) λC=>?_;refine ok_eq (λP=>ok_eq (λ_=>?_) λ_=>cF u) λP=>?_
 ·rw[ru (by omega) J,cu];exact dR (λD=>O3 (λc _=>⟨λh=>by omega,λh=>by omega,λh=>by omega,λ_=>E c,(ls D).2.2⟩) λ_=>u) λ_=>cF u
 refine ok_eq (λj=>ok_eq (λ_=>n4 (λD=>?_) λ_=>cF u) λ_=>cF u) λj=>?_
 ·rw[TM (by omega) J,cu];exact cF λc=>⟨λh=>absurd h C,λh=>by omega,λ_=>c,λh=>absurd j h,A D⟩
 refine ok_eq (λM=>ok_eq (λ_=>ke (jD (λb=>y j C λ_=>b) λ_=>cF u)) λh=>absurd M h) λM=>?_;exact ok_eq (λH=>ke (jD (λb=>y j C λ_=>b) λ_=>cF u)) λH=>ok_eq (λ_=>y j C λh=>by omega) λ_=>cF u
abbrev gC(l:List ey)(i:Nat):ey:=l.getD i ⟨0,0,[],[]⟩
theorem Py{l:List ey}{i:Nat}(h:i<l.length):cm l (i:Int)=some (gC l i):=eG h _
theorem agx{l:List ey}{i:Nat}(h:i<l.length):gC l i=l[i]:=by
 rw[gC,iE,eA h];rfl
structure WA(code:List ey)(H:List Int)(j:Nat):Prop where
 t:0<=(iW (gC code j).op).1
 p:wP (gC code j) j code.length
 s:0<=gI H j->(iW (gC code j).op).1<=gI H j/\((gC code j).op≠11->gI H (j+1)=gI H j-(iW (gC code j).op).1+(iW (gC code j).op).2)/\((gC code j).op=9\/(gC code j).op=11->gI H (j+1+(gC code j).num.toNat)=gI H j-(iW (gC code j).op).1+(iW (gC code j).op).2)
structure rZ(code:List ey)(H:List Int)(i:Nat):Prop where
 len:H.length=code.length+1
 h0:gI H 0=0
 b:∀j,j<H.length->-1<=gI H j/\gI H j<=12
 s:∀j,j<i->WA code H j
theorem za{H:List Int}{p q:Nat}{v:Int}(a:p<H.length):gI (H.set p v) q=if q=p then v else gI H q:=by
 simp only[gI,iE,ahZ]
 by_cases c:p=q
 ·subst c;simp[a]
 ·rw[cK c,cK (λh=>c h.symm)]
theorem MC(a:Int):(iW a).1<=3/\0<=(iW a).2/\(iW a).2<=1:=by
 unfold iW;split
 ·simp
 split
 ·simp
 split
 ·simp
 split
 ·simp
 split
 ·simp
 split<;>simp
theorem TT{code:List ey}{H:List Int}{i p:Nat}{v:Int}(A:rZ code H i)(F:i<code.length)(S:i<p)(I:p<=code.length)(U:0<=v/\v<=12):Ok (uu n H p v) λx=>x.1=true->rZ code x.2 i/\gI x.2 p=v/\∀q,0<=gI H q->gI x.2 q=gI H q:=by
 have J:=A.len;have u:p<H.length:=by omega
 have e:=iZ u;unfold uu;simp only[e,cu];refine nu (λh=>cF λM=>?_) λh=>cF λ_=>?_
 ·have D:gI H p=v:=by simpa[en] using M
  exact⟨A,D,λq _=>rfl⟩
 ·show rZ code (db H (p:Int) v) i/\gI (db H (p:Int) v) p=v/\∀q,0<=gI H q->gI (db H (p:Int) v) q=gI H q;have N:db H (p:Int) v=H.set p v:=by simp[db]
  rw[N];have y:∀q,0<=gI H q->gI (H.set p v) q=gI H q:=λq Y=>by
   rw[za u,cK (by rintro rfl;omega)]
  refine⟨⟨by rw[P9];exact J,?_,λj C=>?_,λj C=>?_⟩,by rw[za u,cJ rfl],y⟩
  ·rw[za u,cK (by omega)];exact A.h0
  ·rw[P9] at C;rw[za u];split
   ·omega
   ·exact A.b j C
  ·have E:=A.s j C;have P:gI (H.set p v) j=gI H j:=by rw[za u,cK (by omega)]
   refine⟨E.t,E.p,λg=>?_⟩;rw[P] at g⊢;obtain⟨a,b,c⟩:=E.s g;have Z:=MC (gC code j).op;refine⟨a,λh=>?_,λh=>?_⟩
   ·rw[y _ (by rw[b h];omega)];exact b h
   ·rw[y _ (by rw[c h];omega)];exact c h
theorem rZ.next{code:List ey}{H:List Int}{i:Nat}(h:rZ code H i)(a:WA code H i):rZ code H (i+1):=⟨h.len,h.h0,h.b,λj e=>by
 by_cases c:j=i
 ·rw[c];exact a
 ·exact h.s j (by omega)⟩
theorem aab{code:List ey}(hz:lL code)(hl:1<=code.length/\code.length<=80)(hn:2^41<=n):Ok (Hv n code) λx=>x.2=true->rZ code x.1 code.length/\gI x.1 code.length=1:=by
 have k0:∀(K:List ey->List Int->Option (List Int×Bool)),∀m i:Nat,i<=code.length+1->code.length+1<m+i->Dk n m code (List.replicate i (-1)) i K=K code (List.replicate (code.length+1) (-1)):=by
  intro K m
  induction m with
  |zero=>intro i Z h2;omega
  |succ m J=>
   intro i Z h2
   rw[Dk]
   by_cases Y:i<=code.length
   ·rw[show dz (i:Int) (cz code)=true by rw[gv,cP];exact gu (by omega),cL,fH (by simp;omega) (by omega),cu,dE (by omega),<-aik];exact J (i+1) (by omega) (by omega)
   ·have:i=code.length+1:=by omega
    subst this;rw[show dz ((code.length+1:Nat):Int) (cz code)=false by rw[gv,cP];exact gB (by omega),cN]
 have k2:∀(K:List ey->List Int->Option (List Int×Bool))(Q:List Int×Bool->Prop),(∀H,rZ code H code.length->Ok (K code H) Q)->(∀H,Q (H,false))->∀m i:Nat,∀H:List Int,i<=code.length->code.length<m+i->rZ code H i->Ok (oF n m code H i K) Q:=by
  intro K Q hK E m
  induction m with
  |zero=>intro i H Z h2;omega
  |succ m J=>
   intro i H Z h2 F
   have ae:=F.len
   rw[oF]
   refine dY (λY=>?_) λY=>?_
   ·rw[cP] at Y;have A:i<code.length:=by omega
    have ec:=Py A;have eh:=iZ (show i<H.length by omega);simp only[ec,eh,cu,TR];have tb:=MC (gC code i).op;have hb:=F.b i (by omega);have i1:cw .i64 (i:Int) 1=((i+1:Nat):Int):=dE (by omega);refine dY (λ_=>cF (E _)) λt0=>?_;refine c8 (abb (by rw[agx A];exact hz _ (dG A)) (by rw[cP];omega) hn) λb aa=>dS (dR (λbt=>?_) λ_=>cF (E _));have M:=aa bt;rw[cP] at M;rw[i1];refine dY (λad=>?_) λC=>?_
    ·exact J (i+1) H (by omega) (by omega) (F.next ⟨t0,M,λh=>by omega⟩)
    refine dY (λ_=>cF (E _)) λN=>?_;rw[lJ (by omega) (by omega) (by omega) (by omega),iY (by omega) (by omega) (by omega) (by omega)];refine dY (λ_=>cF (E _)) λab=>?_;generalize hv:gI H i-(iW (gC code i).op).1+(iW (gC code i).op).2=v at ab;have P:0<=v/\v<=12:=by omega
    have D:∀S,rZ code S i->gI S i=gI H i->(gC code i).op=9\/(gC code i).op=11->((gC code i).op≠11->gI S (i+1)=v)->Ok (ck (uu n S (cw .i64 ((i+1:Nat):Int) (gC code i).num) v) λx=>cond (cD x.1) (some (x.2,false)) (oF n m code x.2 ((i+1:Nat):Int) K)) Q:=λS g1 g2 g3 g4=>by
     have I:=M.jmp g3
     obtain⟨u,hu⟩:=gD I.1
     rw[hu] at I
     rw[hu,show cw .i64 ((i+1:Nat):Int) (u:Int)=((i+1+u:Nat):Int) from KP (by omega)]
     refine c8 (TT g1 A (by omega) (by omega) P) λx hx=>dS (dR (λU=>?_) λ_=>cF (E _))
     obtain⟨a,b,c⟩:=hx U
     refine J (i+1) x.2 (by omega) (by omega) (a.next ⟨t0,M,λh=>?_⟩)
     rw[c i (by omega)] at h⊢
     rw[g2] at h⊢
     rw[hv]
     refine⟨N,λy=>?_,λ_=>?_⟩
     ·rw[c (i+1) (by rw[g4 y];omega),g4 y]
     ·rw[hu,fB];exact b
    refine dS (ok_eq (λy=>?_) λy=>?_)
    ·refine ok_eq (λh9=>by omega) λ_=>ok_eq (λ_=>D H F rfl (.inr y) λh=>absurd y h) λh=>absurd y h
    ·refine c8 (TT F A (show i<i+1 by omega) (by omega) P) λx hx=>?_;refine ok_eq (λh9=>dR (λU=>?_) λ_=>cF (E _)) λh9=>ok_eq (λh=>absurd h y) λ_=>dS (dR (λU=>?_) λ_=>cF (E _))
     ·obtain⟨a,b,c⟩:=hx U;exact D x.2 a (c i C) (.inl h9) λ_=>b
     ·obtain⟨a,b,c⟩:=hx U;refine J (i+1) x.2 (by omega) (by omega) (a.next ⟨t0,M,λh=>?_⟩);rw[c i C] at h⊢;rw[hv];exact⟨N,λ_=>b,λh=>by omega⟩
   ·rw[cP] at Y;have:i=code.length:=by omega
    subst this;exact hK H F
 unfold Hv;refine ag0 (k0 _ n 0 (by omega) (by omega)) ?_;have af:(List.replicate (code.length+1) (-1:Int)).length=code.length+1:=by simp
 have e0:=iZ (l:=List.replicate (code.length+1) (-1:Int)) (i:=0) (by omega);rw[show((0:Nat):Int)=0 from rfl] at e0;rw[e0,cu,cu];have es:db (List.replicate (code.length+1) (-1:Int)) 0 0=(List.replicate (code.length+1) (-1:Int)).set 0 0:=by simp[db]
 rw[es];refine k2 _ _ (λH hH=>?_) (λH h=>by cases h) n 0 _ (by omega) (by omega) ⟨by simp,by rw[za (by omega),cJ rfl],λj I=>?_,λj I=>by omega⟩
 ·have:=hH.len;have e:=iZ (l:=H) (i:=code.length) (by omega);rw[cP,e,cu,cu];exact cF λh=>⟨hH,by simpa[en] using h⟩
 ·rw[za (by omega)];split
  ·omega
  ·rw[P9] at I;have:gI (List.replicate (code.length+1) (-1:Int)) j=-1:=by
    rw[gI,iE,eA I];simp
   rw[this];omega
end
end
section
section
variable{n:Nat}{R:Type}{Q:R->Prop}
theorem n6{x:Int}{f:cq->Option R}(a:2^41<=n)(hx:-9000000000000000000<=x/\x<=9000000000000000000)(h:∀s:cq,s.length<=21->Ok (f s) Q):Ok (ck (eO n x) f) Q:=by
 rw[mS a hx];refine h _ ?_
 by_cases c:0<=x
 ·obtain⟨u,rfl⟩:=gD c;rw[nh];have:=Bq 20 u (by omega) (by omega);omega
 ·obtain⟨u,rfl⟩:∃u:Nat,x=-(u:Int):=⟨x.natAbs,by omega⟩;rw[itoa_neg (by omega)];have:=Bq 20 u (by omega) (by omega);simp;omega
theorem iA{a b:cq}{f:cq->Option R}(A B:Nat)(e:a.length<=A)(j:b.length<=B)(u:A+B<=1000000000)(h:∀s:cq,s.length<=A+B->Ok (f s) Q):Ok (ck (cV a b) f) Q:=af9 (by omega) (h _ (by rw[eS];omega))
def O4:List cq:=[[],[112,117,115,104],[108,111,97,100],[97,100,100],[115,117,98],[109,117,108],[112,97,114,116],[109,105,110],[109,97,120],[116,101,115,116],[116,105,101,114,115],[115,107,105,112]]
theorem Ss{a:Int}(u:0<=(iW a).1)(x:a≠1)(y:a≠2)(e:a≠10)(A:a≠6)(C:a≠9)(j:a≠11):iW a=(2,1):=by
 by_cases c:a=3\/a=4\/a=5\/a=7\/a=8
 ·simp[iW,x,y,e,c]
 ·have:iW a=(-1,0):=by simp[iW,x,y,e,c,A,C,j]
  rw[this] at u;exact absurd u (by decide)
theorem ac0{x:ey}{a l:Int}(h:wP x a l)(hl:l<=1000/\0<=a)(F:2^41<=n):Ok (Jc n x) λs=>s.length<=400:=by
 obtain⟨m5,mk⟩:=h.m;have hw:∀(i:Nat),i<12->∃w:cq,cm O4 (i:Int)=some w/\w.length<=5:=by
  intro i H
  have:i=0\/i=1\/i=2\/i=3\/i=4\/i=5\/i=6\/i=7\/i=8\/i=9\/i=10\/i=11:=by omega
  rcases this with rfl|rfl|rfl|rfl|rfl|rfl|rfl|rfl|rfl|rfl|rfl|rfl<;>exact⟨_,rfl,by decide⟩
 have I:∀(K:cq->Option cq),(∀s:cq,s.length<=300->Ok (K s) λs=>s.length<=400)->∀m i:Nat,∀u:cq,i<=x.marks.length->x.marks.length<m+i->u.length<=50+50*i->Ok (nc n m u i x K) λs=>s.length<=400:=by
  intro K hK m
  induction m with
  |zero=>intro i u C h2;omega
  |succ m ih=>
   intro i u C h2 h3
   rw[nc]
   refine dY (λH=>?_) λH=>hK u (by omega)
   rw[cP] at H
   have e:=dt (show i<x.marks.length by omega)
   have hm:=mk _ (dG (show i<x.marks.length by omega))
   simp only[e,cu,dE (show i<2^31 by omega)]
   refine iA _ 1 h3 (by simp) (by omega) λJ A=>n6 F (by omega) λw1 M=>iA _ _ A M (by omega) λE N=>iA _ 1 N (by simp) (by omega) λs3 l3=>n6 F (by omega) λw2 b2=>iA _ _ l3 b2 (by omega) λs4 l4=>?_
   exact ih (i+1) s4 (by omega) (by omega) (by omega)
 have k0:∀u:cq,u.length<=50->Ok (nc n n u 0 x λj=>ck (cV j [10]) λy=>some y) λs=>s.length<=400:=λu ho=>
  I _ (λs hs=>iA _ 1 hs (by simp) (by omega) λJ A=>cF (by omega)) n 0 u (by omega) (by omega) (by omega)
 have P:Ix n=some O4:=rfl;unfold Jc;rw[P,cu];refine ke (dS (jD (λhb=>?_) λ_=>cF (by simp)));have S:cQ .i64 (cz O4) 1=11:=rfl;rw[S] at hb;obtain⟨op,U⟩:=gD (show 0<=x.op by omega);obtain⟨w,ew,lw⟩:=hw op (by omega);rw[<-U] at ew;simp only[cu,ew];have num:(-9000000000000000000<=x.num/\x.num<=9000000000000000000)->Ok (ck (cV w [32]) λY=>ck (eO n x.num) λx6=>ck (cV Y x6) λZ=>nc n n Z 0 x λj=>ck (cV j [10]) λy=>some y) λs=>s.length<=400:=λhx=>
  iA 5 1 lw (by simp) (by omega) λJ A=>n6 F hx λw1 M=>iA _ _ A M (by omega) λE N=>k0 E (by omega)
 have aa:=h.nam;have nm:Ok (ck (cV w [32]) λY=>ck (cV Y x.name) λZ=>nc n n Z 0 x λj=>ck (cV j [10]) λy=>some y) λs=>s.length<=400:=
  iA 5 1 lw (by simp) (by omega) λJ A=>iA _ _ A aa (by omega) λE N=>k0 E (by omega);refine ok_eq (λC=>ok_eq (λ_=>num (by have:=h.num C;omega)) λhh=>absurd C hh) λC=>?_;refine ok_eq (λh9=>ok_eq (λ_=>num (by have:=h.jmp (.inl h9);omega)) λhh=>absurd h9 hh) λh9=>?_;refine ok_eq (λD=>num (by have:=h.jmp (.inr D);omega)) λD=>?_;exact ok_eq (λ_=>nm) λ_=>k0 w (by omega)
def agy(code:List ey):Prop:=∀j,j<code.length->wP (gC code j) j code.length
theorem abc{code:List ey}(y:agy code)(J:code.length<=80)(A:2^41<=n):Ok (MS n code) λs=>s.length<=400*80:=by
 have u:∀m i:Nat,∀a:cq,i<=code.length->code.length<m+i->a.length<=400*i->Ok (DF n m code a i λe=>some e) λs=>s.length<=400*80:=by
  intro m
  induction m with
  |zero=>intro i a C D;omega
  |succ m E=>
   intro i a C D F
   rw[DF]
   refine dY (λx=>?_) λx=>cF (by omega)
   rw[cP] at x
   have j:i<code.length:=by omega
   rw[Py j,cu,dE (by omega)]
   refine c8 (ac0 (y i j) (by omega) A) λs H=>iA _ _ F H (by omega) λI M=>E (i+1) I (by omega) (by omega) (by omega)
 exact u n 0 [] (by omega) (by omega) (by simp)
def Ys(code:List ey):Prop:=code.length<=80/\∃H,rZ code H code.length/\gI H code.length=1
theorem aex{code:List ey}(u:lL code)(E:code.length<=100000000)(a:2^41<=n):Ok (Ki n code) λb=>b=true->Ys code:=by
 unfold Ki;refine ke (dS (jD (λy=>?_) λ_=>cF λh=>by cases h));rw[cP] at y;refine c8 (aab u (by omega) a) λx hx=>dR (λA=>?_) λ_=>cF λh=>(by cases h);obtain⟨e,C⟩:=hx A;exact c8 (abc (λj D=>(e.s j D).p) (by omega) a) λs _=>cF λ_=>⟨by omega,x.1,e,C⟩
theorem afA{x:ey}{a l:Int}{j:List lZ}{xs:List Int}(h:wP x a l)(N:Kv j)(P:0<=(iW x.op).1)(S:x.op≠9)(E:x.op≠11)(D:(xs.length:Int)=(iW x.op).1)(hx:∀v∈xs,In v)(I:2^41<=n):Ok (Kj n x j xs) nC:=by
 unfold Kj;refine ok_eq (λF=>cF (by show In _;have:=h.num F;omega)) λF=>ok_eq (λJ=>c8 (aew N I) λy A=>cF A) λJ=>ok_eq (λH=>?_) λH=>ok_eq (λu=>?_) λu=>?_
 ·have M:xs.length=3:=by rw[H,show(iW 6).1=3 from rfl] at D;omega
  refine iI (by omega) (by omega) λp C _=>iI (by omega) (by omega) λq _ _=>iI (by omega) (by omega) λr _ _=>c8 (acZ (hx p C)) λy A=>cF A
 ·have M:xs.length=1:=by rw[u,show(iW 10).1=1 from rfl] at D;omega
  have e:=iZ (l:=xs) (i:=0) (by omega);rw[show((0:Nat):Int)=0 from rfl] at e;simp only[e,cu];have Z:In (gI xs 0):=by
   have:gI xs 0=xs[0]:=by rw[gI,iE,eA (by omega)];rfl
   rw[this];exact hx _ (dG _)
  exact dY (λ_=>cF tW) λU=>c8 (aba (by omega) (h.qY u) I) λy A=>cF A
 ·have M:2<=xs.length:=by
    rw[Ss P F J u H S E] at D
    have D:(xs.length:Int)=2:=D
    omega
  exact iI (by omega) (by omega) λp C _=>iI (by omega) (by omega) λq Y _=>c8 (aev (hx p C) (hx q Y)) λy A=>cF A
end
end
section
section
variable{n:Nat}{R:Type}{Q:R->Prop}
theorem Dz{e:Type}{l:List e}{a b:Nat}{x:e}(h:x∈(l.drop a).take b):x∈l:=G8 (ub h)
theorem aey{code:List ey}{C:List lZ}{E:Int}(F:Ys code)(hp:Kv C)(hn:2^41<=n):Ok (JK n code C E) λx=>In x.1:=by
 obtain⟨hl,H,Z,ae⟩:=F;have af:=Z.len;have aa:∀(K:List Int->Int->Option (Int×Int×Int)),(∀j u,j.length=1->(∀v∈j,In v)->Ok (K j u) λx=>In x.1)->∀m p:Nat,∀(j:List Int)(u:Int),p<=code.length->code.length<m+p->(j.length:Int)=gI H p->(∀v∈j,In v)->0<=u/\u<=10*p->Ok (sG n m code C E j u p K) λx=>In x.1:=by
  intro K hK m
  induction m with
  |zero=>intro p j u h1 h2;omega
  |succ m ih=>
   intro p j u h1 h2 h3 h4 h5
   rw[sG]
   refine dY (λhi=>?_) λhi=>?_
   ·rw[cP] at hi;have S:p<code.length:=by omega
    obtain⟨t0,pv,st⟩:=Z.s p S;obtain⟨s1,s2,s3⟩:=st (by omega);have hb:=Z.b p (by omega);have tb:=MC (gC code p).op;have m5:=pv.m.1;obtain⟨t,ht⟩:=gD t0;rw[ht] at s1 s2 s3 tb;obtain⟨w,J⟩:=gD tb.2.1;rw[J] at s2 s3 tb;rw[Py S,cu];refine c8 (P:=λc=>0<=c/\c<=6) ?_ λc hc=>?_
    ·unfold E3;rw[cP,iY (by omega) (by omega) (by omega) (by omega)];exact ok_eq (λ_=>cF (by omega)) λ_=>cF (by omega)
    rw[iY (a:=u) (b:=c) (by omega) (by omega) (by omega) (by omega)];refine dY (λ_=>?_) λ_=>?_
    ·refine c8 (P:=λ_=>True) ?_ λc' _=>cF sA;unfold E3;exact ok_eq (λ_=>cF trivial) λ_=>cF trivial
    have e1:cQ .i64 (cz j) (t:Int)=((j.length-t:Nat):Int):=by rw[cP,ij];omega
    rw[TR,cu,ht,e1];have ec:dJ (kr ((j.length-t:Nat):Int) (cz j) (cz j))=some ():=by
     unfold kr
     rw[cP,gu (by omega)];rfl
    rw[ec,cu];refine w5 (by omega) (by rw[cP];omega) (by rw[cP];omega) (w5 (by omega) (by omega) (by omega) (eU (by simp;omega) (by omega) ?_));rw[cP,fB,fB,show(0:Int).toNat=0 from rfl,sE,ic];have xl:((List.take (j.length-(j.length-t)) (List.drop (j.length-t) j)).length:Int)=t:=by rw[kh,mF];omega
    have xm:∀v∈List.take (j.length-(j.length-t)) (List.drop (j.length-t) j),In v:=λv F=>h4 v (Dz F);have rl:((List.take (j.length-t-0) j).length:Int)=gI H p-t:=by rw[kh];omega
    have U:∀v∈List.take (j.length-t-0) j,In v:=λv F=>h4 v (ub F);generalize List.take (j.length-(j.length-t)) (List.drop (j.length-t) j)=xs at xl xm;generalize List.take (j.length-t-0) j=I at rl U;have next:∀A:List Int,(A.length:Int)=gI H (p+1)->(∀v∈A,In v)->Ok (sG n m code C E A (u+c) (cw .i64 (p:Int) 1) K) λx=>In x.1:=λA g1 g2=>by
     rw[dE (by omega)]
     exact ih (p+1) A (u+c) (by omega) (by omega) g1 g2 (by omega)
    have M:(gC code p).op=9\/(gC code p).op=11->∀A:List Int,(A.length:Int)=gI H p-t+w->(∀v∈A,In v)->Ok (sG n m code C E A (u+c) (cw .i64 (cw .i64 (p:Int) 1) (gC code p).num) K) λx=>In x.1:=λg0 A g1 g2=>by
     have hj:=pv.jmp g0
     have g3:=s3 g0
     obtain⟨q,hq⟩:=gD hj.1
     rw[hq] at hj g3
     rw[fB] at g3
     rw[hq,dE (by omega),KP (by omega)]
     exact ih (p+1+q) A (u+c) (by omega) (by omega) (by omega) g2 (by omega)
    refine ok_eq (λD=>?_) λD=>ok_eq (λN=>?_) λN=>?_
    ·have ab:w=0:=by
       rw[D] at J
       have:(iW 11).2=0:=rfl
       omega
     exact M (.inr D) I (by omega) U
    ·have ab:w=0:=by
       rw[N] at J
       have:(iW 9).2=0:=rfl
       omega
     have ah:t=2:=by
      rw[N] at ht
      have:(iW 9).1=2:=rfl
      omega
     refine iI (by omega) (by omega) λa _ _=>iI (by omega) (by omega) λb _ _=>nu (λ_=>?_) λ_=>?_
     ·exact M (.inl N) I (by omega) U
     ·exact next I (by rw[s2 D];omega) U
    ·have ai:w=1:=by
       have ad:0<=(iW (gC code p).op).1:=by omega
       by_cases c1:(gC code p).op=1
       ·rw[c1] at J;have:(iW 1).2=1:=rfl;omega
       by_cases c2:(gC code p).op=2
       ·rw[c2] at J;have:(iW 2).2=1:=rfl;omega
       by_cases Y:(gC code p).op=10
       ·rw[Y] at J;have:(iW 10).2=1:=rfl;omega
       by_cases c6:(gC code p).op=6
       ·rw[c6] at J;have:(iW 6).2=1:=rfl;omega
       rw[Ss ad c1 c2 Y c6 N D] at J;have:((2:Int),(1:Int)).2=1:=rfl;omega
     refine c8 (afA pv hp (by omega) N D (by omega) xm hn) λy hy=>dS (ok_eq (λ_=>?_) λ_=>cF sA);refine eU (by simp;omega) (by omega) (next _ ?_ λv F=>?_)
     ·rw[s2 D,eS,tY];omega
     ·rcases eB.1 F with F|F
      ·exact U v F
      ·rw[fM] at F;rw[F];exact hy
   ·rw[cP] at hi;have:p=code.length:=by omega
    subst this;exact hK j u (by omega) h4
 unfold JK;refine aa _ (λj u h1 h2=>?_) n 0 [] 0 (by omega) (by omega) (by rw[Z.h0];rfl) (by simp) (by omega);have e:=iZ (l:=j) (i:=0) (by omega);rw[show((0:Nat):Int)=0 from rfl] at e;rw[e,cu,cu];refine cF (h2 _ ?_);rw[gI,iE,eA (by omega)];exact dG _
theorem ac1{code:List ey}{a:List lZ}{e:Int}(u:lL code)(y:code.length<=100000000)(A:Kv a)(j:2^41<=n):Ok (JL n code a e) λx=>In x.1:=by
 unfold JL;exact c8 (aex u y j) λb C=>dS (dR (λD=>ke (dS (jD (λ_=>c8 (aey (C D) A j) λx hx=>cF hx) λ_=>cF sA))) λ_=>cF sA)
def V8(x:Int×Int):Prop:=In x.1/\(x.2=0->0<=x.1)
theorem afB{r:cn}{e a j:Int}(u:qK n r)(y:2^41+6<=n):Ok (Kk n r e a j) V8:=by
 have A:Ok (Jb n r) λcode=>lL code/\code.length<=11^6:=by
  unfold Jb
  rw[ig,u.ok,cu,dO,eN,cN]
  exact c8 (Jo 6 n r y (by omega) u.p) λx hx=>cF hx
 unfold Kk;rw[ig];refine c8 A λcode C=>c8 (ac1 C.1 (by omega) (by show(3:Nat)<=1000;omega) (by omega)) λx hx=>ok_eq (λE=>dY (λ_=>cF ⟨sA,λh=>absurd (show(2:Int)=0 from h) (by omega)⟩) λh=>cF ⟨hx,λ_=>h⟩) λh=>cF ⟨hx,λD=>absurd D h⟩
theorem abd{f:fx}{j a u:Int}(y:uW n f)(A:2^41+6<=n):Ok (Je n f j a u) V8:=by
 obtain⟨r,_,C,e⟩:=y.r;unfold Je;rw[e,cu,dO,eN,cN,ig];exact c8 (afB C A) λx hx=>cF hx
end
end
section
section
variable{n:Nat}{R:Type}{Q:R->Prop}
theorem jl{S:Type}{N:Nat}(C:N<2^30)(L:Nat->S->Int->Option R)(I:Nat->S->Prop){m:Nat}{s:S}(D:N<m)(x:I 0 s)(y:∀m s,I N s->Ok (L (m+1) s N) Q)(j:∀m i s,i<N->I i s->(∀a,I (i+1) a->Ok (L m a ((i+1:Nat):Int)) Q)->Ok (L (m+1) s i) Q):Ok (L m s 0) Q:=by
 have e:∀m i:Nat,∀s,i<=N->N<m+i->I i s->Ok (L m s i) Q:=by
  intro m
  induction m with
  |zero=>intro i s j E;omega
  |succ m A=>
   intro i s F g2 u
   by_cases c:i<N
   ·exact j m i s c u λa g=>A (i+1) a (by omega) (by omega) g
   ·have:i=N:=by omega
    subst this;exact y m s u
 exact e m 0 s (by omega) (by omega) x
theorem jm{a b:Int}{x y:Option R}(h:a<b)(e:Ok x Q):Ok (cond (cA a b) x y) Q:=by rw[xa h];exact e
theorem iO{a b:Int}{x y:Option R}(h:¬ a<b)(e:Ok y Q):Ok (cond (cA a b) x y) Q:=by rw[th h];exact e
structure PK(w:List Int):Prop where
 l:1<=w.length/\w.length<=8
 b:∀x∈w,1<=x/\x<=100000
theorem aac{w:List Int}(h:PK w)(u:2^41<=n):Ok (Hw n w) λx=>1<=x/\x<=1000000:=by
 have y:=h.l;unfold Hw;refine jl (N:=w.length) (by omega) (λm s i=>Aj n m w s i _) (λi s=>i<=s/\s<=100000*i) (by omega) (by omega) (λm s e=>?_) λm i s a e K=>?_
 ·rw[Aj];refine iO (by rw[cP];omega) (iO (by rw[cP];omega) (iO (by omega) (cF (by omega))))
 ·have A:=h.b _ (dG a);rw[Aj];refine jm (by rw[cP];omega) ?_;rw[dt a,cu,cu];refine ke (dS (jD (λ_=>?_) λj=>absurd (by omega) j));rw[dE (by omega),iY (by omega) (by omega) (by omega) (by omega)];exact K _ (by omega)
theorem abe{a sum:Int}{w:List Int}(h:PK w)(P:0<=a/\a<=1000000000000)(hs:1<=sum/\sum<=1000000)(hn:2^41<=n):Ok (Et n a w sum) λx=>x.length=w.length:=by
 have hl:=h.l;have k2:∀m:Nat,∀(j left:List Int)(e:Int),j.length=w.length->left.length=w.length->e<m->1<=m->-4611686018427387904<=e->e<=1000000000000->Ok (DG n m j left e λu=>some u) λx=>x.length=w.length:=by
  intro m
  induction m with
  |zero=>intro j left e _ _ _ h;omega
  |succ m E=>
   intro j left e F J S _ h4 h5
   rw[DG]
   refine dY (λU=>?_) λU=>cF F
   have k4:∀(K:List Int->List Int->Int->Int->Option (List Int)),(∀b:Nat,b<w.length->Ok (K j left e b) λx=>x.length=w.length)->∀m i b:Nat,1<=i->i<=w.length->w.length<m+i->b<w.length->Ok (Az n m j left e b i K) λx=>x.length=w.length:=by
    intro K Y m
    induction m with
    |zero=>intro i b F J S;omega
    |succ m E=>
     intro i b H g2 Z g4
     rw[Az]
     refine dY (λC=>?_) λC=>Y b g4
     rw[cP] at C
     have D:=iZ (l:=left) (i:=i) (by omega)
     have I:=iZ (l:=left) (i:=b) (by omega)
     simp only[D,I,cu,dE (show i<2^31 by omega)]
     exact dY (λ_=>E (i+1) i (by omega) (by omega) (by omega) (by omega)) λ_=>E (i+1) b (by omega) (by omega) (by omega) g4
   refine k4 _ (λb M=>?_) n 1 0 (by omega) (by omega) (by omega) (by omega)
   have D:=iZ (l:=j) (i:=b) (by omega)
   have I:=iZ (l:=left) (i:=b) (by omega)
   simp only[D,I,cu]
   rw[lJ (by omega) (by omega) (by omega) (by omega)]
   exact E _ _ _ (by rw[lq];exact F) (by rw[lq];exact J) (by omega) (by omega) (by omega) (by omega)
 unfold Et;refine jl (N:=w.length) (by omega) (λm(s:List Int×List Int×Int)i=>Ay n m a w sum s.1 s.2.1 s.2.2 i _) (λi s=>s.1.length=i/\s.2.1.length=i/\s.2.2<=1000000000000/\-(200000000000000000*(i:Int))<=s.2.2) (m:=n) (s:=([],[],a)) (by omega) ⟨rfl,rfl,by show a<=_;omega,by show _<=a;omega⟩ (λm s y=>?_) λm i s C y K=>?_
 ·rw[Ay];refine iO (by rw[cP];omega) ?_;exact k2 n _ _ _ y.1 y.2.1 (by omega) (by omega) (by omega) (by omega)
 ·obtain⟨H,g2,Z,g4⟩:=y;have M:=h.b _ (dG C);rw[Ay];refine jm (by rw[cP];omega) ?_;have A:0<=a*w[i]:=Ha P.1 (by omega);have aa:a*w[i]<=1000000000000*100000:=Y4 (by omega) M.2 (by omega) (by omega);have ab:0<=a*w[i]/sum:=Dd A (by omega);have ad:a*w[i]/sum<=a*w[i]:=G9 _ A;have em:ez .i64 a w[i]=a*w[i]:=mO (by omega);simp only[dt C,cu,em];refine s6 (by omega) A (by omega) (eU (by simp;omega) (by omega) (s7 (by omega) A (eU (by simp;omega) (by omega) ?_)));have D:cm (s.1++[a*w[i]/sum]) (i:Int)=some (a*w[i]/sum):=by
   rw[iZ (by simp;omega)]
   congr 1
   generalize a*w[i]/sum=q
   rw[<-H,Ve]
  rw[D,cu,cu,dE (by omega),lJ (by omega) (by omega) (by omega) (by omega)];exact K (s.1++[a*w[i]/sum],s.2.1++[a*w[i] % sum],s.2.2-a*w[i]/sum) ⟨by simp[H],by simp[g2],by show s.2.2-_<=_;omega,by show _<=s.2.2-_;omega⟩
theorem abf{a:Int}{w:List Int}(h:PK w)(j:0<=a/\a<=1000000000000)(e:2^41<=n):Ok (Hk n a w) λx=>x.length=w.length:=by
 unfold Hk L7;refine c8 (P:=λx=>x.length=w.length) ?_ λx hx=>cF hx;refine c8 (aac h e) λx hx=>CA (dS (jD (λ_=>ok_eq (λu=>by omega) λ_=>nu (λ_=>c8 (abe h j hx e) λy A=>cF A) λu=>by omega) λC=>absurd (show In a by omega) C))
structure kX(t:cY):Prop where
 l:t.legs.length<=100
 w:∀s∈t.legs,s.length<=100
 f:t.iP.length<=100
 s:-1000<=t.cM/\t.cM<=1000
structure qf(net:List cE):Prop where
 l:∀l∈net,gP l
 b:1<=net.length/\net.length<=6
theorem agz{net:List cE}{name:cq}{f:Int->Option R}(u:qf net)(y:2^41<=n)(h:∀x:Int,x=-1\/(∃k:Nat,x=k/\k<net.length/\(gL net k).name=name)->ni n net name=some x->Ok (f x) Q):Ok (ck (ni n net name) f) Q:=by
 have C:=u.b;have e:=OT (n:=n) (net:=net) (name:=name) (by omega) y;rw[e,cu];refine h _ ?_ e;rcases qu (p:=λl:cE=>decide (l.name=name)) (xs:=net) (i:=0) with⟨e,_⟩|⟨j,a,e,A,_⟩
 ·exact .inl e
 ·exact .inr ⟨j,by rw[e];simp,a,by rw[rR a];simpa using A⟩
theorem ac2{t:cY}(h:kX t)(u:2^41<=n):Ok (yR n t) λb=>b=true->1<=t.legs.length/\t.legs.length<=3/\1<=t.cM/\t.cM<=4:=by
 have C:=h.l;have D:=h.f;have a:∀{p:Prop},false=true->p:=λh=>(by cases h);unfold yR;refine jl (N:=t.legs.length) (by omega) (λm(_:Unit)i=>uf n m i t _) (λ_ _=>True) (m:=n) (s:=()) (by omega) trivial (λm _ _=>?_) λm i _ e _ K=>?_
 ·rw[uf];refine iO (by rw[cP];omega) (ke (jD (λx=>?_) λ_=>cF a));rw[ru (by omega) u,cu];refine dR (λ_=>ke (cF λy=>?_)) λ_=>cF a;rw[dF] at y;rw[cP] at x;omega
 ·rw[uf];refine jm (by rw[cP];omega) ?_;have E:=h.w _ (dG e);rw[dt e,cu,ru (by omega) u,cu];refine dS (dR (λ_=>?_) λ_=>cF a);refine jl (N:=i) (by omega) (λm(_:Unit)k=>ue n m i k t _) (λ_ _=>True) (m:=n) (s:=()) (by omega) trivial (λm _ _=>?_) λm j _ F _ A=>?_
  ·rw[ue];refine iO (by omega) ?_;rw[dE (by omega)];exact K () trivial
  ·rw[ue];refine jm (by omega) ?_;rw[dt (show j<t.legs.length by omega),cu,dt e,cu,dE (by omega)];exact n4 (λ_=>cF a) λ_=>A () trivial
theorem TU{a b:cE}:Ok (E1 n a b) λ_=>True:=by
 unfold E1;exact dR (λ_=>cF trivial) λ_=>cF trivial
theorem afC{a:List cE}{t:cY}(J:qf a)(h:kX t)(F:2^41<=n):Ok (Kh n a t) λb=>b=true->(1<=t.legs.length/\t.legs.length<=3/\1<=t.cM/\t.cM<=4)/\∀s∈t.legs,∃k:Nat,ni n a s=some (k:Int)/\k<a.length/\(gL a k).name=s:=by
 have hl:=h.l;have A:∀{p:Prop},false=true->p:=λh=>(by cases h);unfold Kh;refine c8 (ac2 h F) λb M=>dS (dR (λP=>?_) λ_=>cF A);refine jl (N:=t.legs.length) (by omega) (λm(_:Unit)i=>v8 n m a i t _) (λi _=>∀j(u:j<t.legs.length),j<i->∃k:Nat,ni n a t.legs[j]=some (k:Int)/\k<a.length/\(gL a k).name=t.legs[j]) (m:=n) (s:=()) (by omega) (λj _ u=>by omega) (λm _ y=>?_) λm i _ S y K=>?_
 ·rw[v8];refine iO (by rw[cP];omega) (cF λ_=>⟨M P,λs U=>?_⟩);obtain⟨j,u,rfl⟩:=pD U;exact y j u u
 ·rw[v8];refine jm (by rw[cP];omega) ?_;rw[dt S,cu];refine agz J F λx hx Y=>dY (λ_=>cF A) λZ=>?_;rcases hx with hx|⟨k,rfl,H,C⟩
  ·omega
  have I:Ok (v8 n m a (cw .i64 (i:Int) 1) t (some true)) λb=>b=true->(1<=t.legs.length/\t.legs.length<=3/\1<=t.cM/\t.cM<=4)/\∀s∈t.legs,∃k:Nat,ni n a s=some (k:Int)/\k<a.length/\(gL a k).name=s:=by
   rw[dE (by omega)]
   refine K () λj u aa=>?_
   by_cases c:j=i
   ·subst c;exact⟨k,Y,H,C⟩
   ·exact y j u (by omega)
  refine dY (λh0=>?_) λ_=>I;have e:cQ .i64 (i:Int) 1=((i-1:Nat):Int):=by rw[ij];omega
  obtain⟨k',D,E,_⟩:=y (i-1) (by omega) (by omega);rw[e,dt (show i-1<t.legs.length by omega),cu,D,cu,dt E,cu,dt H,cu];exact c8 TU λb _=>dS (dR (λ_=>I) λ_=>cF A)
end
end
section
section
variable{n:Nat}{R:Type}{Q:R->Prop}
structure Kw(n:Nat)(fs:List fx):Prop where
 f:∀f∈fs,uW n f
 l:1<=fs.length/\fs.length<=4
theorem ac3{fs:List fx}{name:cq}(h:Kw n fs)(e:2^41<=n):Ok (Ja n fs name) λx=>x=-1\/∃k:Nat,x=k/\k<fs.length:=by
 have j:=h.l;unfold Ja;refine jl (N:=fs.length) (by omega) (λm(_:Unit)i=>AV n m fs name i _) (λ_ _=>True) (m:=n) (s:=()) (by omega) trivial (λm _ _=>?_) λm i _ a _ K=>?_
 ·rw[AV];exact iO (by rw[cP];omega) (cF (.inl rfl))
 ·rw[AV];refine jm (by rw[cP];omega) ?_;rw[dt a,cu,dE (by omega)];exact n4 (λ_=>cF (.inr ⟨i,rfl,a⟩)) λ_=>K () trivial
structure u9(n:Nat)(net:List cE)(ops:List de):Prop where
 l:ops.length<=3
 o:∀o∈ops,o.di.length<=100/\∃k:Nat,ni n net o.di=some (k:Int)/\k<net.length
theorem u9.nil{net:List cE}:u9 n net []:=⟨by simp,by simp⟩
theorem OE{j:List cE}{u:List fx}{t:cY}(P:qf j)(S:Kw n u)(h:kX t)(hn:2^42<=n):Ok (sV n j u t) λx=>u9 n j x.1/\(0<=x.2.1/\x.2.1<=1000000000000)/\0<=x.2.2/\x.2.2<=100:=by
 have hl:=h.l;have A:∀{e:Int},0<=e/\e<=100->u9 n j (([]:List de),(0:Int),e).1/\(0<=(([]:List de),(0:Int),e).2.1/\(([]:List de),(0:Int),e).2.1<=1000000000000)/\0<=(([]:List de),(0:Int),e).2.2/\(([]:List de),(0:Int),e).2.2<=100:=λU=>⟨u9.nil,⟨by show(0:Int)<=0;omega,by show(0:Int)<=_;omega⟩,U.1,U.2⟩;unfold sV;refine c8 (ac3 S (by omega)) λf F=>dY (λ_=>cF (A (by omega))) λf0=>?_;rcases F with F|⟨f,rfl,C⟩
 ·omega
 refine c8 (afC P h (by omega)) λb hb=>dS (dR (λbt=>?_) λ_=>cF (A (by omega)));obtain⟨hs,H⟩:=hb bt;refine jl (N:=t.legs.length) (by omega) (λm(s:List Int×Int)i=>Bd n m j u f s.1 s.2 i t _) (λi s=>s.1.length=i/\∀x∈s.1,1<=x/\x<=100000) (m:=n) (s:=([],0)) (by omega) ⟨rfl,by simp⟩ (λm s J=>?_) λm i s D J K=>?_
 ·rw[Bd];refine iO (by rw[cP];omega) ?_;rw[dt C,cu];refine c8 (abd (S.f _ (dG C)) (by omega)) λp Y=>dS (ok_eq (λe0=>?_) λ_=>cF (A (by omega)));have Z:=Y.2 e0;have p1:=Y.1;have I:-1000000000000<=p.1/\p.1<=1000000000000:=p1;refine c8 (abf ⟨by omega,J.2⟩ ⟨Z,I.2⟩ (by omega)) λsh aa=>?_;refine jl (N:=t.legs.length) (by omega) (λm(s:List de)i=>Be n m u f p.1 sh s i t _) (λi s=>s.length=i/\∀o∈s,o.di.length<=100/\∃k:Nat,ni n j o.di=some (k:Int)/\k<j.length) (m:=n) (s:=[]) (by omega) ⟨rfl,by simp⟩ (λm s M=>?_) λm i s D M K=>?_
  ·rw[Be];refine iO (by rw[cP];omega) (cF ⟨⟨by show s.length<=3;omega,M.2⟩,⟨Z,I.2⟩,by show(0:Int)<=0;omega,by show(0:Int)<=100;omega⟩)
  ·rw[Be];refine jm (by rw[cP];omega) ?_;rw[dt D,cu,dt C,cu,iZ (show i<sh.length by omega),cu,cu,dE (by omega)];refine eU (by simp;omega) (by omega) (K _ ⟨by simp[M.1],λo E=>?_⟩);rcases eB.1 E with E|E
   ·exact M.2 o E
   ·rw[fM] at E;subst E;obtain⟨k,a,b,_⟩:=H _ (dG D);exact⟨h.w _ (dG D),k,a,b⟩
 ·rw[Bd];refine jm (by rw[cP];omega) ?_;obtain⟨k,ek,hk,_⟩:=H _ (dG D);have y:=P.l _ (dG hk);have hd:=y.fb;have ha:=y.arr;rw[dt D,cu,ek,cu,dt hk,cu,dE (by omega),lJ (a:=j[k].arr) (by omega) (by omega) (by omega) (by omega)];refine eU (by simp;omega) (by omega) (K (s.1++[j[k].arr-j[k].fb],_) ⟨by simp[J.1],λx hx=>?_⟩);rcases eB.1 hx with hx|hx
  ·exact J.2 x hx
  ·rw[fM] at hx;omega
structure GU(n:Nat)(c:dD):Prop where
 net:qf c.net
 base:nZ c.net=true
 mB:c.mB.length=c.net.length
 wb:zy c.mB
 gU:Kw n c.gU
theorem NM{c:dD}{t:dW}(h:GU n c)(j:kX t.fI)(u:2^42<=n):Ok (sO n c t) (u9 n c.net):=by
 unfold sO;refine c8 (OE h.net h.gU j u) λx hx=>?_;have y:=hx.1.l;refine jl (N:=x.1.length) (by omega) (λm(s:List de)i=>AY n m s i t _) (λi s=>s.length=x.1.length/\u9 n c.net s) (m:=n) (s:=x.1) (by omega) ⟨rfl,hx.1⟩ (λm s a=>?_) λm i s A a K=>?_
 ·rw[AY];exact iO (by rw[cP];omega) (cF a.2)
 ·rw[AY];refine jm (by rw[cP];omega) (dY (λ_=>?_) λ_=>cF a.2);simp only[dt (show i<s.length by omega),cu,dE (show i<2^31 by omega)];refine K _ ⟨by rw[lq];exact a.1,⟨by rw[lq];exact a.2.l,λo e=>?_⟩⟩;unfold db at e;rcases zQ e with e|e
  ·exact a.2.o o e
  ·subst e;have:=a.2.o _ (dG (show i<s.length by omega));exact this
theorem TW{c:dD}{a:List de}{o:de}{f:Int->Option R}(h:GU n c)(e:u9 n c.net a)(j:o∈a)(u:∀x,1<=x/\x<=2->Ok (f x) Q):Ok (ck (DZ n c o.di) f) Q:=by
 obtain⟨_,k,y,A⟩:=e.o o j;have C:=h.mB;refine c8 (P:=λx=>1<=x/\x<=2) ?_ u;unfold DZ;rw[y,cu,dt (show k<c.mB.length by omega),cu];exact cF (h.wb _ (dG _))
structure pY(c:Nat)(t:cY):Prop where
 l:t.legs.length<=c
 w:∀s∈t.legs,s.length<=100
 f:t.iP.length<=100
 s:-1000<=t.cM/\t.cM<=1000
theorem pY.mono{c d:Nat}{t:cY}(h:pY c t)(a:c<=d):pY d t:=⟨by have:=h.l;omega,h.w,h.f,h.s⟩
theorem pY.z{c:Nat}{t:cY}(h:pY c t)(a:c<=100):kX t:=⟨by have:=h.l;omega,h.w,h.f,h.s⟩
theorem pY.add{c:Nat}{t:cY}{s:cq}(h:pY c t)(a:s.length<=100):pY (c+1) {t with legs:=t.legs++[s]}:=⟨by have:=h.l;simp;omega,λx hx=>by
 rcases eB.1 hx with hx|hx
 ·exact h.w x hx
 ·rw[fM] at hx;rw[hx];exact a,h.f,h.s⟩
theorem M7{a:List cE}(e:qf a){l:cE}(h:l∈a):l.name.length<=100:=by
 have:=ls (e.l l h).n1;omega
theorem ac4{a:List cE}{u:Int}{M:Int}(A:qf a)(U:M<=999000000000){c:Nat}(Y:c<=50){t:cY}{l:cE}{r:Rd}(y:pY c t)(J:dN M r)(Z:2^41<=n){K:List cE->Int->cY->cE->Rd->Option (cY×Rd)}{Q:cY×Rd->Prop}(C:∀D P E,pY (c+1) D->dN (M+10) E->Ok (K a u D P E) Q):Ok (vF n n a u 0 t l r K) Q:=by
 have hb:=A.b;refine jl (N:=a.length) (by omega) (λm(s:Rd)i=>vF n m a u i t l s _) (λi s=>dN (M+i) s) (m:=n) (s:=r) (by omega) (J.mono (by omega)) (λm s j=>?_) λm i s F j H=>?_
 ·rw[vF];exact iO (by rw[cP];omega) (C t l s (y.mono (by omega)) (j.mono (by omega)))
 ·rw[vF];refine jm (by rw[cP];omega) ?_;have S:=dG F;rw[dt F,cu,dE (by omega)];refine c8 TU λb _=>dR (λ_=>?_) λ_=>H s (j.mono (by omega));refine ef j (by omega) (by omega) λx I _ _ e=>ok_eq (λ_=>?_) λ_=>H I (e.mono (by omega));rw[cu];exact eU (by have:=y.l;simp;omega) (by omega) (C _ _ I (y.add (M7 A S)) (e.mono (by omega)))
theorem TX{a:List cE}{M:Int}(C:qf a)(F:M<=998000000000)(D:2^41<=n){K:List cE->cY->Rd->Option (cY×Rd)}{Q:cY×Rd->Prop}(E:∀e j,pY 10 e->dN (M+40) j->Ok (K a e j) Q):∀(m d:Nat)(t:cY)(l:cE)(r:Rd),d<=3->d<m->pY (5-d) t->dN (M+10*(4-d)) r->Ok (ye n m a d t l r K) Q
 |0,d,t,l,r,H,I,u,x=>by omega
 |m+1,d,t,l,r,H,I,u,x=>by
  rw[ye];refine dY (λh=>?_) λh=>E t r (u.mono (by omega)) (x.mono (by omega));refine ac4 C (by omega) (by omega) u x D λe J j y A=>?_;rw[show cQ .i64 (d:Int) 1=((d-1:Nat):Int) by rw[ij];omega];exact TX C F D E m (d-1) e J j (by omega) (by omega) (y.mono (by omega)) (A.mono (by omega))
theorem abg{u:List cE}{y:List fx}{N:Int}{r:Rd}(hz:qf u)(hf:Kw n y)(hr:dN N r)(hN:N<=900000000000)(hn:2^41<=n):Ok (sK n r u y) λx=>kX x.1/\dN (N+100) x.2:=by
 have hb:=hz.b;have ae:=hf.l;have ab:∀(t:cY)(r:Rd),pY 10 t->dN (N+50) r->Ok (ck (cO n r 12) λA=>
 cond (cp A.1 0)
  (ck (cO n A.2 (cz u)) λE=>
  ck (cm u E.1) λaa=>
  ck (cT 16 t.legs [aa.name]) λF=>
  ck (cO n E.2 20) λC=>
  cond (cp C.1 0)
   (ck (mJ n C.2 [[110,111,110,101],[65],[]]) λH=>
   some (cY.mk F H.1 t.cM,H.2))
   (some ({t with legs:=F},C.2)))
  (ck (cO n A.2 20) λD=>
  cond (cp D.1 0)
   (ck (mJ n D.2 [[110,111,110,101],[65],[]]) λI=>
   some ({t with iP:=I.1},I.2))
   (some (t,D.2)))) λx=>kX x.1/\dN (N+100) x.2:=λt r ht hr=>by
   have fl:∀x:cq,x∈([[110,111,110,101],[65],[]]:List cq)->x.length<=100:=λx hx=>by
    simp only[eo,mH,mI] at hx
    rcases hx with rfl|rfl|rfl<;>simp
   refine ef hr (by omega) (by omega) λa r1 _ _ U=>ok_eq (λ_=>?_) λ_=>?_
   ·refine ef U (by omega) (by rw[cP];omega) λb r2 b0 b1 J=>iI b0 (by rw[cP] at b1;omega) λl hl _=>?_;have ha:=ht.add (M7 hz hl);refine eU (by have:=ht.l;simp;omega) (by omega) (ef J (by omega) (by omega) λe r3 _ _ j=>ok_eq (λ_=>?_) λ_=>cF ⟨ha.z (by omega),j.mono (by omega)⟩);exact CO j (by omega) (by simp) λs r4 hs P=>cF ⟨⟨by have:=ha.l;show(t.legs++[l.name]).length<=100;exact zO this (by omega),ha.w,fl s hs,ha.s⟩,P.mono (by omega)⟩
   ·refine ef U (by omega) (by omega) λe r3 _ _ j=>ok_eq (λ_=>?_) λ_=>cF ⟨ht.z (by omega),j.mono (by omega)⟩;exact CO j (by omega) (by simp) λs r4 hs P=>cF ⟨⟨by have:=ht.l;show t.legs.length<=100;omega,ht.w,fl s hs,ht.s⟩,P.mono (by omega)⟩
 have Z:∀(f:fx)(q:Int)(r:Rd),f∈y->(-1000<=q/\q<=1000)->dN (N+5) r->Ok (ck (cO n r (cz u)) λx5=>
 ck (cm u x5.1) λx6=>
 ck (cT 16 [] [x6.name]) λx7=>
 ck (cO n x5.2 3) λx8=>
 ye n n u x8.1 (cY.mk x7 f.name q) x6 x8.2 λS t40 ad=>
 ck (cO n ad 12) λA=>
 cond (cp A.1 0)
  (ck (cO n A.2 (cz S)) λE=>
  ck (cm S E.1) λaa=>
  ck (cT 16 t40.legs [aa.name]) λF=>
  ck (cO n E.2 20) λC=>
  cond (cp C.1 0)
   (ck (mJ n C.2 [[110,111,110,101],[65],[]]) λH=>
   some (cY.mk F H.1 t40.cM,H.2))
   (some ({t40 with legs:=F},C.2)))
  (ck (cO n A.2 20) λD=>
  cond (cp D.1 0)
   (ck (mJ n D.2 [[110,111,110,101],[65],[]]) λI=>
   some ({t40 with iP:=I.1},I.2))
   (some (t40,D.2)))) λx=>kX x.1/\dN (N+100) x.2:=λf q r Y hq hr=>by
   refine ef hr (by omega) (by rw[cP];omega) λb r2 b0 b1 J=>iI b0 (by rw[cP] at b1;omega) λl hl _=>?_
   refine eU (by simp) (by omega) (ef J (by omega) (by omega) λd r3 d0 d1 j=>?_)
   obtain⟨d,rfl⟩:=gD d0
   have af:=(ls (hf.f f Y).nm).2.2
   exact TX (n:=n) (M:=N+8) hz (by omega) hn (λt' r' h1 h2=>ab t' r' h1 (h2.mono (by omega))) n d _ l r3 (by omega) (by omega) ⟨by show(1:Nat)<=_;omega,λx hx=>by
    have hx:x∈([]++[l.name]:List cq):=hx
    rw[ic,fM] at hx;rw[hx];exact M7 hz hl,by show f.name.length<=100;omega,hq⟩ (j.mono (by omega))
 unfold sK;refine ef hr (by omega) (by rw[cP];omega) λa r1 a0 a1 U=>iI a0 (by rw[cP] at a1;omega) λf Y _=>?_;refine ef U (by omega) (by omega) λb r2 b0 b1 J=>ef J (by omega) (by omega) λc r3 _ _ j=>ok_eq (λ_=>?_) λ_=>?_
 ·exact ef j (by omega) (by omega) λq r4 q0 q1 P=>Z f q r4 Y (by omega) (P.mono (by omega))
 ·refine Z f _ r3 Y ?_ (j.mono (by omega));show-1000<=cw .i64 1 b/\cw .i64 1 b<=1000;rw[iY (by omega) (by omega) (by omega) (by omega)];omega
end
end
section
section
variable{n:Nat}{R:Type}{Q:R->Prop}
theorem RC{c:cq}(h:(jA c).2=true):Ps c:=by
 obtain⟨C,D,E⟩:=Ee h;intro ops F H o y;have j:=nP C;have u:=nP F;have I:=IZ (ops:=(jA c).1) (by intro e;rw[e] at j;simp at j) j.1;have J:=IZ (ops:=ops) (by intro e;rw[e] at u;simp at u) u.1;have M:(jA c).1.map jV=ops.map jV:=by rw[<-I,<-J,<-D,<-H]
 have N:jV o∈(jA c).1.map jV:=by rw[M];exact List.mem_map_of_mem y
 obtain⟨p,A,x⟩:=gR.1 N;have a:=Fu (j.1 p A);have P:=Fu (u.1 o y);rw[x,P] at a;injection a with _ a;injection a with _ a;injection a with _ a;injection a with a _;rw[Jn a];exact E p A
theorem abh{j:List cE}{u:List eH}{r:cq}{y:List cE×List eH}(h:oc j u r=some y):zn r:=by
 intro a b c e;unfold oc at h;rw[e] at h;simp only at h;split at h
 ·rename_i x;exact RC x.2.2.2
 ·cases h
structure iM(K:Nat)(s:cS):Prop where
 b:iJ s.base
 b6:s.base.length<=6
 l:iJ s.legs
 lg:s.log.length<=9000
 g:pW s.log
 t:qQ s.cB
 tl:s.cB.length<=1000+K
theorem iM.mono{K L:Nat}{s:cS}(h:iM K s)(a:K<=L):iM L s:=⟨h.b,h.b6,h.l,h.lg,h.g,h.t,by have:=h.tl;omega⟩
structure oe(m:cR):Prop where
 to:0<=m.to/\m.to<=2
 o:m.ops.length<=3
 w:∀o∈m.ops,o.di.length<=100
theorem oe.s{m:cR}(h:oe m):xi m.ops:=⟨by have:=h.o;omega,λo a=>by have:=h.w o a;omega⟩
theorem K8{k f x:Int}{y:Bool}:oe ⟨k,f,0,x,[],y⟩:=⟨by show(0:Int)<=0/\(0:Int)<=2;omega,by show(0:Nat)<=3;omega,λo a=>by cases a⟩
theorem TY{K:Nat}{s x:cS}{r:cq}(h:iM K s)(C:r.length<100000)(D:qE s r=some x):iM (K+1) x/\s.log<+:x.log:=by
 obtain⟨y,a,j,E,u,N,A,P⟩:=ZG D;have F:=h.lg;obtain⟨H,S,I⟩:=So (by omega) C a;obtain⟨J,M,U,Y⟩:=Kq (l:=y.1) (t:=y.2) h.l h.t j;refine⟨⟨by rw[A];exact h.b,by rw[A];exact h.b6,by rw[E];exact J,H,?_,by rw[u];exact M,by rw[u];have:=h.tl;omega⟩,?_⟩
 ·unfold pW;rw[I];intro q e;rcases eB.1 e with e|e
  ·exact h.g q e
  ·rw[fM] at e;subst e;exact abh j
 ·unfold tF at a;split at a
  ·injection a with a;rw[<-a];exact qZ _ _
  ·cases a
theorem abi{m:cR}(h:1<=m.txn/\m.txn<=99)(a:iS m.ops=true):(F9 m).length<100000:=by
 have j:=IY (nP a).1;have u:=(nP a).2;have e:=ki (x:=m.txn) (by omega) (by omega);unfold F9;simp only[eS,fY,jx];omega
theorem aez{K:Nat}{s:cS}{m:cR}(h:iM K s):iM (K+1) (zm s m).1/\s.log<+:(zm s m).1.log/\(zm s m).2.length<=1/\(∀x∈(zm s m).2,oe x):=by
 have a:iM (K+1) (s,([]:List cR)).1/\s.log<+:(s,([]:List cR)).1.log/\(s,([]:List cR)).2.length<=1/\(∀x∈(s,([]:List cR)).2,oe x):=⟨h.mono (by omega),sF _,by show(0:Nat)<=1;omega,λx hx=>by cases hx⟩;have one:∀(z:cS)(k:Int)(y:Bool),(iM (K+1) z/\s.log<+:z.log)->iM (K+1) (z,[(⟨k,s.id,0,m.txn,[],y⟩:cR)]).1/\s.log<+:(z,[(⟨k,s.id,0,m.txn,[],y⟩:cR)]).1.log/\(z,[(⟨k,s.id,0,m.txn,[],y⟩:cR)]).2.length<=1/\(∀x∈(z,[(⟨k,s.id,0,m.txn,[],y⟩:cR)]).2,oe x):=λz k y u=>⟨u.1,u.2,by show(1:Nat)<=1;omega,λx hx=>by
  have hx:x∈[(⟨k,s.id,0,m.txn,[],y⟩:cR)]:=hx
  rw[fM] at hx;rw[hx];exact K8⟩;have self:iM (K+1) s/\s.log<+:s.log:=⟨h.mono (by omega),sF _⟩;unfold zm;split
 ·rename_i e;split
  ·unfold KQ;simp only;split
   ·exact one s 2 _ self
   ·split
    ·rename_i A;cases j:qE s (F9 m) with
     |none=>exact one s 2 _ self
     |some x=>exact one x 2 _ (TY h (abi ⟨e.2.2.2.1,e.2.2.2.2⟩ A) j)
    ·exact one s 2 _ self
  ·split
   ·unfold K3;simp only;generalize(if 0<=iz s.cB m.txn then(gT s.cB (iz s.cB m.txn).toNat).da else 0)=C;split
    ·cases j:qE s (Gl m) with
     |none=>exact a
     |some x=>exact one x 4 _ (TY h (by have:=acT (m:=m) ⟨e.2.2.2.1,e.2.2.2.2⟩;omega) j)
    ·split<;>split
     ·exact one s 4 _ self
     ·exact a
     ·exact one s 4 _ self
     ·exact a
   ·exact a
 ·exact a
theorem St{K:Nat}{s:cS}{m:cR}(h:iM K s)(a:oe m)(j:K<=10000)(e:2^41<=n):Ok (Bv n s m) λx=>iM (K+1) x.1/\s.log<+:x.1.log/\x.2.length<=1/\∀y∈x.2,oe y:=
 Gj (aeo a.s (by have:=h.lg;omega) h.l (by have:=h.tl;omega) e) (aez h)
theorem M8{a b:cq}(h:a<+:b)(u:b.length<1000000)(e:pW b):pW a:=by
 obtain⟨c,rfl⟩:=h;have:=acF a c (by omega);intro r j;exact e r (this.subset j)
theorem Vl{a now:cq}{bytes:Int}(e:a<+:now)(u:-1000<=bytes/\bytes<=100000)(y:now.length<=9000):Ok (EA n a now bytes) λx=>x<+:now:=by
 have j:=e.length_le;unfold EA;refine dY (λ_=>cF e) λA=>?_;rw[fV,fV,lJ (by omega) (by omega) (by omega) (by omega),iY (by omega) (by omega) (by omega) (by omega)];refine dY (λ_=>cF (sF _)) λC=>Pn (by omega) (by omega) (by omega) (cF ?_);exact Y5 _ _
theorem RD{K:Nat}{s:cS}{m:cR}{bytes:Int}(h:iM K s)(u:oe m)(y:-1000<=bytes/\bytes<=100000)(A:K<=10000)(C:2^41<=n):Ok (Bh n s m bytes) (iM (K+1)):=by
 unfold Bh;refine c8 (St h u A C) λx hx=>c8 (Vl hx.2.1 y hx.1.lg) λe a=>cF ?_;have j:=a.length_le;have:=hx.1.lg;exact⟨h.b,h.b6,⟨by show(0:Nat)<=1000;omega,λl j=>by cases j⟩,by show e.length<=9000;omega,M8 a (by omega) hx.1.g,tV,by show(0:Nat)<=_;omega⟩
theorem abj{K:Nat}{s:cS}(h:iM K s)(a:2^41<=n):Ok (Bw n s) (iM K):=by
 refine Gj (Vb (by have:=h.lg;omega) h.b a) ?_;have e:=h.lg;unfold kj;split
 ·exact h
 ·cases j:nB s.base [] (ed s.log).1 with
  |none=>exact h
  |some y=>
   obtain⟨u,x,A,_⟩:=Cm (l:=y.1) (t:=y.2) h.b tV j;have C:=rB (s:=s.log) (by omega);simp at A;exact⟨h.b,h.b6,u,by show(s.log.take _).length<=9000;rw[kh];omega,M8 (Y5 _ _) (by omega) h.g,x,by show y.2.length<=_;omega⟩
theorem abk{K:Nat}{s:cS}(h:iM K s)(j:K<=10000)(e:2^41<=n):Ok (Ez n s) λx=>x.length<=20000/\∀y∈x,oe y:=by
 refine Gj (aen (by have:=h.tl;omega) e) ⟨?_,λy a=>?_⟩
 ·unfold Pt;rw[oC];have:=List.length_filter_le (λt:eH=>decide (t.da=1)) s.cB;have:=h.tl;omega
 ·unfold Pt at a;obtain⟨t,_,rfl⟩:=gR.1 a;exact K8
end
end
section
section
variable{n:Nat}{R:Type}{Q:R->Prop}
structure nD(K:Nat)(t:dW):Prop where
 txn:0<=t.txn/\t.txn<=1000
 kL:0<=t.kL/\t.kL<=1000
 back:0<=t.back/\t.back<=1000
 fI:kX t.fI
 dV:0<=t.dV/\t.dV<=1000000000000
 sl:t.eI.length<=2
 sb:∀x∈t.eI,1<=x/\x<=2
 yes:t.yes.length<=1000+K
 jb:t.jb.length<=1000+K
theorem nD.mono{K L:Nat}{t:dW}(h:nD K t)(a:K<=L):nD L t:=⟨h.txn,h.kL,h.back,h.fI,h.dV,h.sl,h.sb,by have:=h.yes;omega,by have:=h.jb;omega⟩
structure gz(n:Nat)(K:Nat)(c:dD):Prop where
 b:GU n c
 lg:c.log.length<=9000
 nx:0<=c.next/\c.next<=100
 tl:c.cB.length<=1000+K
 t:∀t∈c.cB,nD K t
theorem gz.mono{K L:Nat}{c:dD}(h:gz n K c)(a:K<=L):gz n L c:=⟨h.b,h.lg,h.nx,by have:=h.tl;omega,λt e=>(h.t t e).mono a⟩
theorem gz.cB{K:Nat}{c:dD}(h:gz n K c){ts:List dW}(a:ts.length<=1000+K)(e:∀t∈ts,nD K t):gz n K {c with cB:=ts}:=⟨⟨h.b.net,h.b.base,h.b.mB,h.b.wb,h.b.gU⟩,h.lg,h.nx,a,e⟩
theorem gz.log{K:Nat}{c:dD}(h:gz n K c){l:cq}(a:l.length<=9000):gz n K {c with log:=l}:=⟨⟨h.b.net,h.b.base,h.b.mB,h.b.wb,h.b.gU⟩,a,h.nx,h.tl,h.t⟩
theorem TZ{list:List dW}{a:Int}(u:list.length<=100000)(y:2^41<=n):Ok (E2 n list a) λx=>x=-1\/∃k:Nat,x=k/\k<list.length:=by
 unfold E2;refine jl (N:=list.length) (by omega) (λm(s:Int)i=>yn n m list a s i _) (λi s=>s=-1\/∃k:Nat,s=k/\k<list.length) (m:=n) (s:=-1) (by omega) (.inl rfl) (λm s e=>?_) λm i s j e K=>?_
 ·rw[yn];exact iO (by rw[cP];omega) (cF e)
 ·rw[yn];refine jm (by rw[cP];omega) ?_;rw[dt j,cu,dE (by omega)];exact ok_eq (λ_=>K _ (.inr ⟨i,rfl,j⟩)) λ_=>K _ e
theorem Ua{list:List dW}{a:Int}(j:list.length<=100000)(u:2^41<=n):Ok (uv n list a) λx=>x=-1\/∃k:Nat,x=k/\k<list.length:=by
 unfold uv;refine jl (N:=list.length) (by omega) (λm(_:Unit)i=>A0 n m list a i _) (λ_ _=>True) (m:=n) (s:=()) (by omega) trivial (λm _ _=>?_) λm i _ e _ K=>?_
 ·rw[A0];exact iO (by rw[cP];omega) (cF (.inl rfl))
 ·rw[A0];refine jm (by rw[cP];omega) ?_;rw[dt e,cu,dE (by omega)];exact ok_eq (λ_=>cF (.inr ⟨i,rfl,e⟩)) λ_=>K () trivial
theorem abl{list:List dW}{a:Int}(j:list.length<=100000)(u:2^41<=n):Ok (ID n list a) λx=>x=-1\/∃k:Nat,x=k/\k<list.length:=by
 unfold ID;refine jl (N:=list.length) (by omega) (λm(_:Unit)i=>vG n m list a i _) (λ_ _=>True) (m:=n) (s:=()) (by omega) trivial (λm _ _=>?_) λm i _ e _ K=>?_
 ·rw[vG];exact iO (by rw[cP];omega) (cF (.inl rfl))
 ·rw[vG];refine jm (by rw[cP];omega) ?_;simp only[dt e,cu,dE (show i<2^31 by omega)];exact ok_eq (λ_=>ok_eq (λ_=>ok_eq (λ_=>cF (.inr ⟨i,rfl,e⟩)) λ_=>K () trivial) λ_=>K () trivial) λ_=>K () trivial
theorem aad{a:List dW}{e:Int}(u:a.length<=100000)(x:2^41<=n):Ok (HQ n a e) λ_=>True:=by
 unfold HQ;refine jl (N:=a.length) (by omega) (λm(_:Unit)i=>xW n m a e i _) (λ_ _=>True) (m:=n) (s:=()) (by omega) trivial (λm _ _=>?_) λm i _ j _ K=>?_
 ·rw[xW];exact iO (by rw[cP];omega) (cF trivial)
 ·rw[xW];refine jm (by rw[cP];omega) ?_;simp only[dt j,cu,dE (show i<2^31 by omega)];exact ok_eq (λ_=>dS (ok_eq (λ_=>K () trivial) λ_=>cF trivial)) λ_=>K () trivial
theorem BW{a:List Int}{x:Int}(j:a.length<=100000)(u:2^41<=n):Ok (mL n a x) λ_=>True:=by
 unfold mL;refine jl (N:=a.length) (by omega) (λm(_:Unit)i=>AZ n m a x i _) (λ_ _=>True) (m:=n) (s:=()) (by omega) trivial (λm _ _=>?_) λm i _ e _ K=>?_
 ·rw[AZ];exact iO (by rw[cP];omega) (cF trivial)
 ·rw[AZ];refine jm (by rw[cP];omega) ?_;simp only[dt e,cu,dE (show i<2^31 by omega)];exact ok_eq (λ_=>cF trivial) λ_=>K () trivial
theorem abm{x:Int}(hx:0<=x/\x<=1000000000000)(H:2^41+1<=n):Ok (yG n x) λs=>s.length<=100:=by
 obtain⟨n,rfl⟩:∃m,n=m+1:=⟨n-1,by omega⟩;rw[yG];have I:0<=x/100:=Dd hx.1 (by omega);have J:x/100<=x:=G9 _ hx.1;have j:0<=x % 100:=De _ (by omega);have u:x % 100<100:=Df _ (by omega);generalize y:x % 100=r at j u;have M:0<=r/10:=Dd j (by omega);have N:r/10<=r:=G9 _ j;have t0:0<=r % 10:=De _ (by omega);have t1:r % 10<10:=Df _ (by omega);refine iO (by omega) (s7 (by omega) hx.1 (s6 (by omega) hx.1 (by omega) ?_));rw[y];refine n6 (by omega) (by omega) λa A=>iA _ 1 A (by simp) (by omega) λb C=>s6 (by omega) j (by omega) (n6 (by omega) (by omega) λc D=>iA _ _ C D (by omega) λd E=>s7 (by omega) j (n6 (by omega) (by omega) λe F=>iA _ _ E F (by omega) λf P=>cF (by omega)))
theorem M9{K:Nat}{t:dW}(h:nD K t)(y:2^41+1<=n):Ok (AU n t) λ_=>True:=by
 have u:=h.back;have J:=h.txn;have j:Ok (ck (eO n t.txn) λA=>ck (cV [115,111,108,100,32] A) λC=>ck (cV C [32,97,116,32]) λD=>ck (yG n t.dV) λE=>ck (cV D E) λF=>some F) λ_=>True:=
  n6 (by omega) (by omega) λa x=>iA 5 _ (by simp) x (by omega) λb u=>iA _ 4 u (by simp) (by omega) λc H=>c8 (abm h.dV y) λd I=>iA _ _ H I (by omega) λe M=>cF trivial;unfold AU;refine ok_eq (λ_=>dY (λ_=>?_) λ_=>ok_eq (λ_=>j) λ_=>ok_eq (λ_=>cF trivial) λ_=>cF trivial) λ_=>ok_eq (λ_=>j) λ_=>ok_eq (λ_=>cF trivial) λ_=>cF trivial;exact n6 (by omega) (by omega) λa x=>iA 5 _ (by simp) x (by omega) λb u=>cF trivial
theorem Su{t:cY}(h:kX t)(C:2^41<=n):Ok (yI n t) λs=>s.length<=11000:=by
 have H:=h.l;have D:=h.f;have I:=h.s;unfold yI;refine jl (N:=t.legs.length) (by omega) (λm(s:cq)i=>yg n m s i t _) (λi s=>s.length<=101*i) (m:=n) (s:=[]) (by omega) (by simp) (λm s j=>?_) λm i s y j K=>?_
 ·rw[yg];refine iO (by rw[cP];omega) ?_;exact iA (101*100) 1 (by omega) (by simp) (by omega) λa u=>iA _ 100 u D (by omega) λb x=>iA _ 1 x (by simp) (by omega) λc E=>n6 C (by omega) λd F=>iA _ _ E F (by omega) λe J=>cF (by omega)
 ·rw[yg];have A:=h.w _ (dG y);refine jm (by rw[cP];omega) ?_;simp only[dt y,cu,dE (show i<2^31 by omega)];refine dY (λ_=>?_) λ_=>?_
  ·exact iA _ 1 j (by simp) (by omega) λa u=>iA _ _ u A (by omega) λb x=>K b (by omega)
  ·exact iA _ _ j A (by omega) λb x=>K b (by omega)
theorem Sv{t:dW}(h1:-1000000000000000<=t.txn/\t.txn<=1000000000000000)(h2:-1000000000000000<=t.kL/\t.kL<=1000000000000000)(h3:-1000000000000000<=t.back/\t.back<=1000000000000000)(A:kX t.fI)(x:2^41<=n):Ok (uk n t) λs=>s.length<=20000:=by
 have u:∀w:cq,w.length<=2->Ok (ck (eO n t.txn) λC=>ck (cV w C) λD=>ck (cV D [32]) λE=>ck (eO n t.kL) λF=>ck (cV E F) λH=>ck (cV H [32]) λI=>ck (eO n t.back) λJ=>ck (cV I J) λM=>ck (cV M [32]) λN=>ck (yI n t.fI) λP=>ck (cV N P) λy=>some y) λs=>s.length<=20000:=λw S=>
  n6 x (by omega) λa U=>iA _ _ S U (by omega) λb Y=>iA _ 1 Y (by simp) (by omega) λc Z=>n6 x (by omega) λd hd=>iA _ _ Z hd (by omega) λe he=>iA _ 1 he (by simp) (by omega) λf hf=>n6 x (by omega) λg hg=>iA _ _ hf hg (by omega) λi hi=>iA _ 1 hi (by simp) (by omega) λj hj=>c8 (Su A x) λk hk=>iA _ _ hj hk (by omega) λl hl=>cF (by omega)
 unfold uk;exact ok_eq (λ_=>u _ (by simp)) λ_=>u _ (by simp)
theorem V9{a r:cq}(j:a.length<=9000)(y:r.length<=100000)(u:2^41<=n):Ok (wy n a r) λx=>x.1.length<=9000/\a<+:x.1:=by
 refine Gj (M1 (by omega) (by omega) u) ?_;unfold tF;split
 ·rename_i x e;split at e
  ·injection e with e;rename_i A;subst e;exact⟨by show(a++_).length<=9000;rw[eS];omega,qZ _ _⟩
  ·cases e
 ·exact⟨j,sF _⟩
theorem QZ{c:dD}{e:List de}(h:GU n c)(y:u9 n c.net e)(J:2^41<=n):Ok (vN n c e) λl=>l.length<=2/\∀x∈l,1<=x/\x<=2:=by
 have M:=y.l;have k0:∀m s:Nat,∀a:List Int,1<=s->s<=3->3<m+s->a.length+1<=s->(∀x∈a,1<=x/\x<=2)->Ok (Dl n m e a s c λj=>some j) λl=>l.length<=2/\∀x∈l,1<=x/\x<=2:=by
  intro m
  induction m with
  |zero=>intro s a D E F;omega
  |succ m A=>
   intro s a D E F P u
   rw[Dl]
   refine nu (λH=>?_) λH=>cF ⟨by omega,u⟩
   refine jl (N:=e.length) (by omega) (λm(_:Unit)i=>Ak n m e a s i c _) (λ_ _=>True) (m:=n) (s:=()) (by omega) trivial (λI _ _=>?_) λI i _ C _ K=>?_
   ·rw[Ak];refine iO (by rw[cP];omega) ?_;rw[dE (by omega)];exact A (s+1) a (by omega) (by omega) (by omega) (by omega) u
   ·rw[Ak];refine jm (by rw[cP];omega) ?_;rw[dt C,cu,dE (show i<2^31 by omega)];refine TW h y (dG C) λx _=>ok_eq (λ_=>?_) λ_=>K () trivial;refine eU (by simp;omega) (by omega) ?_;rw[dE (by omega)];refine A (s+1) (a++[(s:Int)]) (by omega) (by omega) (by omega) (by simp;omega) λx hx=>?_;rcases eB.1 hx with hx|hx
    ·exact u x hx
    ·rw[fM] at hx;omega
 exact k0 n 1 [] (by omega) (by omega) (by omega) (by simp) (by simp)
structure fT(b:Nat)(ms:List cR):Prop where
 l:ms.length<=b
 m:∀m∈ms,oe m
theorem fT.nil{b:Nat}:fT b []:=⟨by simp,λx hx=>by cases hx⟩
theorem fT.mono{a b:Nat}{l:List cR}(h:fT a l)(e:a<=b):fT b l:=⟨by have:=h.l;omega,h.m⟩
theorem fT.add{a:Nat}{l:List cR}{m:cR}(h:fT a l)(e:oe m):fT (a+1) (l++[m]):=⟨by have:=h.l;simp;omega,λx hx=>by
 rcases eB.1 hx with hx|hx
 ·exact h.m x hx
 ·rw[fM] at hx;rw[hx];exact e⟩
theorem fT.app{a b:Nat}{l k:List cR}(h:fT a l)(e:fT b k):fT (a+b) (l++k):=⟨by have:=h.l;have:=e.l;simp;omega,λx hx=>(eB.1 hx).elim (h.m x) (e.m x)⟩
theorem fT.one{m:cR}(h:oe m):fT 1 [m]:=⟨by simp,λx hx=>by rw[fM] at hx;rw[hx];exact h⟩
theorem Q0{K:Nat}{c:dD}{t:dW}(h:GU n c)(A:nD K t)(P:K<=10000)(J:2^42<=n):Ok (xV n c t) (fT 2):=by
 have C:=A.sl;have F:=A.yes;unfold xV;refine c8 (NM h A.fI J) λe j=>?_;have S:=j.l;refine jl (N:=t.eI.length) (by omega) (λm(s:List cR)i=>xP n m s e i c t _) (λi s=>fT i s) (m:=n) (s:=[]) (by omega) fT.nil (λm s u=>?_) λm i s D u H=>?_
 ·rw[xP];exact iO (by rw[cP];omega) (cF (u.mono C))
 ·rw[xP];have U:=A.sb _ (dG D);refine jm (by rw[cP];omega) ?_;rw[dt D,cu,cu,dE (show i<2^31 by omega)];refine c8 (BW (by omega) (by omega)) λb _=>dR (λ_=>H s (u.mono (by omega))) λ_=>?_;refine jl (N:=e.length) (by omega) (λm(x:cR)k=>xO n m s e i k c t x _) (λk x=>x.to=t.eI[i]/\x.ops.length<=k/\∀o∈x.ops,o∈e) (m:=n) (s:=cR.mk 1 0 t.eI[i] t.txn [] false) (by omega) ⟨rfl,by show(0:Nat)<=0;omega,λo j=>by cases j⟩ (λM x hx=>?_) λM k x E hx I=>?_
  ·rw[xO];refine iO (by rw[cP];omega) (eU (by have:=u.l;simp;omega) (by omega) ?_);rw[dE (show i<2^31 by omega)];exact H _ (u.add ⟨by rw[hx.1];omega,by have:=hx.2.1;omega,λo a=>(j.o o (hx.2.2 o a)).1⟩)
  ·rw[xO];refine jm (by rw[cP];omega) ?_;simp only[dt E,dt D,cu,dE (show k<2^31 by omega)];refine TW h j (dG E) λy _=>ok_eq (λ_=>?_) λ_=>I x ⟨hx.1,by omega,hx.2.2⟩;refine eU (by have:=hx.2.1;simp;omega) (by omega) (I _ ⟨hx.1,by have:=hx.2.1;show(x.ops++_).length<=k+1;simp;omega,λo a=>?_⟩);rcases eB.1 a with a|a
   ·exact hx.2.2 o a
   ·rw[fM] at a;rw[a];exact dG E
theorem DP{K:Nat}{list:List dW}(y:list.length<=100000)(h:∀t∈list,nD K t)(A:K<=10000)(C:2^41<=n):nM n list=some list:=by
 unfold nM;have:=J2 (xs:=list) (f:=λt:dW=>t) (by omega) (L:=λm a i=>Ae n m list a i λe=>some e) (k:=λa=>some a) (λm a x=>by
  rw[Ae,th (by rw[cP];omega),cN]) (λm i a u x=>by
  have j:=h _ (dG u)
  have D:=j.fI.l
  have E:=j.sl
  have F:=j.yes
  have H:=j.jb
  rw[Ae,xa (by rw[cP];omega),cL,dt u,cu]
  unfold NB
  rw[fH (by simp;omega) (by omega),cu,cu,fH (by simp;omega) (by omega),cu,fH (by simp;omega) (by omega),cu,fH (by simp;omega) (by omega),cu,fH (by simp;omega) (by omega),cu]
  simp only[ic]) (m:=n) (by omega);rw[this,List.map_id']
theorem RE{K:Nat}{t:dW}(e:nD K t)(C:K<=10000)(D:2^41<=n):Ok (yh n t) (fT 2):=by
 have j:=e.sl;have y:=e.jb;unfold yh;refine jl (N:=t.eI.length) (by omega) (λm(s:List cR)i=>xS n m s i t _) (λi s=>fT i s) (m:=n) (s:=[]) (by omega) fT.nil (λm s a=>?_) λm i s u a x=>?_
 ·rw[xS];exact iO (by rw[cP];omega) (cF (a.mono j))
 ·rw[xS];have E:=e.sb _ (dG u);refine jm (by rw[cP];omega) ?_;simp only[dt u,cu,dE (show i<2^31 by omega)];refine c8 (BW (by omega) (by omega)) λb _=>dS (dR (λ_=>x s (a.mono (by omega))) λ_=>?_);refine eU (by have:=a.l;simp;omega) (by omega) (x _ (a.add ⟨by show 0<=t.eI[i]/\t.eI[i]<=2;omega,by show(0:Nat)<=3;omega,λo A=>by cases A⟩))
end
end
section
section
variable{n:Nat}{R:Type}{Q:R->Prop}
theorem sQ{a:Type}{l:List a}{i:Int}{v x:a}(h:x∈db l i v):x∈l\/x=v:=by
 unfold db at h;exact zQ h
structure zA(n K B:Nat)(c0:dD)(x:dD×List cR×List iG):Prop where
 c:gz n K x.1
 l:c0.log<+:x.1.log
 m:fT B x.2.1
 t:x.2.2.length<=B
 s:x.1.cB.length=c0.cB.length
theorem NN{K:Nat}{c:dD}{k:Nat}{y:Int}(h:gz n K c)(A:k<c.cB.length)(E:K<=10000)(H:2^42<=n):Ok (BO n c k y) (zA n K 2 c):=by
 have e:=h.t _ (dG A);have I:=e.txn;have J:=e.kL;have M:=e.back;have j:nD K {c.cB[k] with da:=y,la:=0}:=⟨e.txn,e.kL,e.back,e.fI,e.dV,e.sl,e.sb,e.yes,e.jb⟩;unfold BO;rw[dt A,cu];refine c8 (Sv (by show _<=c.cB[k].txn/\c.cB[k].txn<=_;omega) (by show _<=c.cB[k].kL/\c.cB[k].kL<=_;omega) (by show _<=c.cB[k].back/\c.cB[k].back<=_;omega) e.fI (by omega)) λline C=>c8 (V9 h.lg (by omega) (by omega)) λN x=>dS (dR (λ_=>?_) λ_=>cF ⟨h,sF _,fT.nil,by show(0:Nat)<=2;omega,rfl⟩);rw[DP (K:=K) (by have:=h.tl;omega) h.t E (by omega),cu,dt A,cu,cu];refine c8 (RE j E (by omega)) λP D=>c8 (M9 j (by omega)) λa _=>cF ?_;have F:=(h.log x.1).cB (ts:=db c.cB k {c.cB[k] with da:=y,la:=0}) (by rw[lq];exact h.tl) λt u=>by
  rcases sQ u with u|rfl
  ·exact h.t t u
  ·exact j
 exact⟨F,x.2,D,by show(1:Nat)<=2;omega,lq _ _ _⟩
theorem Pz{a:Int}{f:Unit->Option R}(h:Ok (f ()) Q):Ok (ck (dJ (cp a a)) f) Q:=by
 rw[en,gu rfl];exact h
theorem aeA{K:Nat}{c:dD}{k:Nat}{m:cR}(h:gz n K c)(u:k<c.cB.length)(E:K<=9999)(A:2^42<=n):Ok (Eu n c k m) (zA n (K+1) 2 c):=by
 have a:=h.t _ (dG u);have F:=a.yes;have H:=a.sl;have j:=h.mono (show K<=K+1 by omega);have C:zA n (K+1) 2 c (c,[],[]):=⟨j,sF _,fT.nil,by show(0:Nat)<=2;omega,rfl⟩;unfold Eu;refine dS (dR (λ_=>?_) λ_=>c8 (NN j u (by omega) A) λx hx=>cF ⟨hx.c,hx.l,hx.m,hx.t,hx.s⟩);rw[dt u,cu];refine c8 (BW (by omega) (by omega)) λb _=>dR (λ_=>cF C) λ_=>c8 (BW (by omega) (by omega)) λb _=>dS (dR (λ_=>?_) λ_=>cF C);rw[DP (K:=K) (by have:=h.tl;omega) h.t (by omega) (by omega)];simp only[cu,dt u];have y:nD (K+1) {c.cB[k] with yes:=c.cB[k].yes++[m.cI]}:=⟨a.txn,a.kL,a.back,a.fI,a.dV,a.sl,a.sb,by show(_++[_]).length<=_;simp;omega,by have:=a.jb;show c.cB[k].jb.length<=_;omega⟩;have D:=j.cB (ts:=db c.cB k {c.cB[k] with yes:=c.cB[k].yes++[m.cI]}) (by rw[lq];exact j.tl) λt e=>by
  rcases sQ e with e|rfl
  ·exact j.t t e
  ·exact y
 refine dR (λ_=>eU (by simp;omega) (by omega) (Pz (cF ⟨D,sF _,fT.nil,by show(0:Nat)<=2;omega,lq _ _ _⟩))) λ_=>eU (by simp;omega) (by omega) (Pz ?_);refine c8 (NN D (by show k<(db _ _ _).length;rw[lq];exact u) (by omega) A) λx hx=>dR (λ_=>cF ⟨j,sF _,hx.m,hx.t,rfl⟩) λ_=>cF ⟨hx.c,hx.l,hx.m,hx.t,by rw[hx.s];exact lq _ _ _⟩
theorem Sw{K:Nat}{c:dD}{m:cR}(h:gz n K c)(N:K<=9999)(P:2^42<=n):Ok (Ew n c m) (zA n (K+1) 2 c):=by
 have A:=h.mono (show K<=K+1 by omega);have u:zA n (K+1) 2 c (c,[],[]):=⟨A,sF _,fT.nil,by show(0:Nat)<=2;omega,rfl⟩;unfold Ew;refine dS (dR (λ_=>dS (ok_eq (λ_=>ke (dS (jD (λhf=>?_) λ_=>cF u))) λ_=>cF u)) λ_=>cF u);have ask:∀C F:Bool,Ok (cond (cp m.kind 5) (cond C (ck (dn n m.txn 1 99) λa=>cond a (some (c,[cR.mk 3 0 m.cI m.txn [] F],([]:List iG))) (some (c,[],[]))) (some (c,[],[]))) (some (c,[],[]))) (zA n (K+1) 2 c):=λC F=>
  dR (λ_=>dR (λ_=>ke (dR (λ_=>cF ⟨A,sF _,(fT.one (m:=cR.mk 3 0 m.cI m.txn [] F) ⟨by show 0<=m.cI/\m.cI<=2;omega,by show(0:Nat)<=3;omega,λo S=>by cases S⟩).mono (by omega),by show(0:Nat)<=2;omega,rfl⟩) λ_=>cF u)) λ_=>cF u) λ_=>cF u
 refine c8 (Ua (by have:=h.tl;omega) (by omega)) λx hx=>nu (λU=>?_) λU=>?_
 ·rcases hx with hx|⟨k,rfl,E⟩
  ·omega
  have e:=h.t _ (dG E);have hs:=e.sl;have ha:=e.jb;rw[dt E,cu];have D:∀C M:Bool,Ok (cond (cp m.kind 4) (cond (dz 0 (k:Int)) (cond C (cond M (ck (some c.cB[k]) λY=>ck (mL n Y.eI m.cI) λZ=>cond Z (ck (some c.cB[k]) λx6=>ck (mL n x6.jb m.cI) λx7=>cond (cD x7) (ck (nM n c.cB) λy=>ck (cm y k) λx9=>ck (cm y k) λaa=>ck (cm y k) λH=>ck (cT 8 H.jb [m.cI]) λI=>ck (cm y k) λab=>ck (dJ (cp (k:Int) k)) λad=>ck (cm y k) λJ=>some ({c with cB:=db y k {J with jb:=I}},[],[]))
    (cond (cp m.kind 5) (cond (cD (cp c.cB[k].da 1)) (ck (dn n m.txn 1 99) λa=>cond a (some (c,[cR.mk 3 0 m.cI m.txn [] (cp c.cB[k].da 2)],([]:List iG))) (some (c,[],[]))) (some (c,[],[]))) (some (c,[],[]))))
    (cond (cp m.kind 5) (cond (cD (cp c.cB[k].da 1)) (ck (dn n m.txn 1 99) λa=>cond a (some (c,[cR.mk 3 0 m.cI m.txn [] (cp c.cB[k].da 2)],([]:List iG))) (some (c,[],[]))) (some (c,[],[]))) (some (c,[],[]))))
    (cond (cp m.kind 5) (cond (cD (cp c.cB[k].da 1)) (ck (dn n m.txn 1 99) λa=>cond a (some (c,[cR.mk 3 0 m.cI m.txn [] (cp c.cB[k].da 2)],([]:List iG))) (some (c,[],[]))) (some (c,[],[]))) (some (c,[],[]))))
    (cond (cp m.kind 5) (cond (cD (cp c.cB[k].da 1)) (ck (dn n m.txn 1 99) λa=>cond a (some (c,[cR.mk 3 0 m.cI m.txn [] (cp c.cB[k].da 2)],([]:List iG))) (some (c,[],[]))) (some (c,[],[]))) (some (c,[],[]))))
    (cond (cp m.kind 5) (cond (cD (cp c.cB[k].da 1)) (ck (dn n m.txn 1 99) λa=>cond a (some (c,[cR.mk 3 0 m.cI m.txn [] (cp c.cB[k].da 2)],([]:List iG))) (some (c,[],[]))) (some (c,[],[]))) (some (c,[],[]))))
    (cond (cp m.kind 5) (cond (cD (cp c.cB[k].da 1)) (ck (dn n m.txn 1 99) λa=>cond a (some (c,[cR.mk 3 0 m.cI m.txn [] (cp c.cB[k].da 2)],([]:List iG))) (some (c,[],[]))) (some (c,[],[]))) (some (c,[],[])))) (zA n (K+1) 2 c):=λC M=>by
   refine dR (λ_=>dR (λ_=>dR (λ_=>dR (λ_=>?_) λ_=>ask _ _) λ_=>ask _ _) λ_=>ask _ _) λ_=>ask _ _
   rw[cu]
   refine c8 (BW (by omega) (by omega)) λb _=>dR (λ_=>?_) λ_=>ask _ _
   rw[cu]
   refine c8 (BW (by omega) (by omega)) λb _=>dS (dR (λ_=>ask _ _) λ_=>?_)
   rw[DP (K:=K) (by have:=h.tl;omega) h.t (by omega) (by omega)]
   simp only[cu,dt E]
   refine eU (by simp;omega) (by omega) (Pz (cF ⟨A.cB (by rw[lq];exact A.tl) λt j=>?_,sF _,fT.nil,by show(0:Nat)<=2;omega,lq _ _ _⟩))
   rcases sQ j with j|rfl
   ·exact A.t t j
   ·exact⟨e.txn,e.kL,e.back,e.fI,e.dV,e.sl,e.sb,by have:=e.yes;show c.cB[k].yes.length<=_;omega,by show(_++[_]).length<=_;simp;omega⟩
  refine ok_eq (λ_=>ok_eq (λ_=>c8 (aeA h E N P) λx hx=>cF ⟨hx.c,hx.l,hx.m,hx.t,hx.s⟩) λ_=>D _ _) λ_=>D _ _
 ·refine ok_eq (λ_=>ok_eq (λh=>absurd h (by omega)) λ_=>dR (λ_=>nu (λh=>absurd h (by omega)) λ_=>ask _ _) λ_=>ask _ _) λ_=>dR (λ_=>nu (λh=>absurd h (by omega)) λ_=>ask _ _) λ_=>ask _ _
end
end
section
section
variable{n:Nat}{R:Type}{Q:R->Prop}
structure Gn(n K:Nat)(x:dD×List cR×cq):Prop where
 c:gz n K x.1
 m:fT 2 x.2.1
theorem Ub{K:Nat}{c:dD}{t:dW}(h:gz n K c)(e:nD K t)(Y:K<=9999)(E:2^42<=n):Ok (D0 n c t) λx=>gz n (K+1) x.1/\fT 2 x.2.1:=by
 have hx:=h.nx;have J:=h.tl;have F:=h.mono (show K<=K+1 by omega);have H:∀b:Bool,gz n (K+1) (c,([]:List cR),b).1/\fT 2 (c,([]:List cR),b).2.1:=λb=>⟨F,fT.nil⟩;unfold D0;refine n6 (by omega) (by omega) λa M=>iA 2 _ (by simp) M (by omega) λr Z=>c8 (V9 h.lg (by omega) (by omega)) λN A=>dS (dR (λ_=>dY (λ_=>cF (H _)) λP=>?_) λ_=>cF (H _));have C:kX ({t with txn:=c.next,da:=1}:dW).fI:=e.fI;refine c8 (NM h.b C E) λS U=>c8 (QZ h.b U (by omega)) λsh u=>?_;have y:nD (K+1) {t with txn:=c.next,da:=1,eI:=sh}:=⟨by show 0<=c.next/\c.next<=1000;omega,e.kL,e.back,e.fI,e.dV,u.1,u.2,by have:=e.yes;show t.yes.length<=_;omega,by have:=e.jb;show t.jb.length<=_;omega⟩;refine eU (by simp;omega) (by omega) (eU (by simp;omega) (by omega) ?_);rw[iY (by omega) (by omega) (by omega) (by omega),ic];have I:gz n (K+1) {c with log:=N.1,next:=c.next+1,cB:=c.cB++[{t with txn:=c.next,da:=1,eI:=sh}]}:=⟨⟨h.b.net,h.b.base,h.b.mB,h.b.wb,h.b.gU⟩,A.1,by show 0<=c.next+1/\c.next+1<=100;omega,by show(c.cB++[_]).length<=_;simp;omega,λq j=>by
  rcases eB.1 j with j|j
  ·exact F.t q j
  ·rw[fM] at j;rw[j];exact y⟩;exact c8 (Q0 I.b y (by omega) E) λms D=>cF ⟨I,D⟩
theorem aeB{K:Nat}{c:dD}{e:Int}{t:cY}(h:gz n K c)(u:kX t)(F:K<=9999)(A:2^42<=n):Ok (IC n c e t) (Gn n (K+1)):=by
 have H:=h.mono (show K<=K+1 by omega);have j:∀s:cq,Gn n (K+1) (c,[],s):=λs=>⟨H,fT.nil⟩;unfold IC;refine dS (dR (λ_=>ke (dS (jD (λM=>?_) λ_=>cF (j _)))) λ_=>cF (j _));refine c8 (TZ (by have:=h.tl;omega) (by omega)) λx hx=>nu (λN=>?_) λ_=>?_
 ·rcases hx with hx|⟨k,rfl,C⟩
  ·omega
  rw[dt C,cu];exact c8 (M9 (h.t _ (dG C)) (by omega)) λa _=>cF (j _)
 ·refine c8 (OE h.b.net h.b.gU u A) λo D=>dS (ok_eq (λ_=>?_) λ_=>?_)
  ·have I:nD K (dW.mk 0 e 0 t o.2.1 0 [] [] [] 0):=⟨by show(0:Int)<=0/\(0:Int)<=1000;omega,by show 0<=e/\e<=1000;omega,by show(0:Int)<=0/\(0:Int)<=1000;omega,u,D.2.1,by show(0:Nat)<=2;omega,λx hx=>(by cases hx),by show(0:Nat)<=_;omega,by show(0:Nat)<=_;omega⟩;exact c8 (Ub h I F A) λy E=>dS (dR (λ_=>cF ⟨E.1,E.2⟩) λ_=>cF (j _))
  ·have:=D.2.2;exact n6 (by omega) (by omega) λa J=>iA 4 _ (by simp) J (by omega) λb _=>cF (j _)
theorem aeC{K:Nat}{c:dD}{j e:Int}(h:gz n K c)(E:0<=e/\e<=1000)(F:K<=9999)(H:2^42<=n):Ok (IE n c j e) (Gn n (K+1)):=by
 have I:=h.mono (show K<=K+1 by omega);have u:∀s:cq,Gn n (K+1) (c,[],s):=λs=>⟨I,fT.nil⟩;unfold IE;refine dS (dR (λ_=>ke (dS (jD (λN=>?_) λ_=>cF (u _)))) λ_=>cF (u _));refine c8 (TZ (by have:=h.tl;omega) (by omega)) λx hx=>nu (λJ=>?_) λ_=>?_
 ·rcases hx with hx|⟨k,rfl,A⟩
  ·omega
  rw[dt A,cu];exact c8 (M9 (h.t _ (dG A)) (by omega)) λa _=>cF (u _)
 ·refine c8 (abl (by have:=h.tl;omega) (by omega)) λx hx=>dY (λ_=>cF (u _)) λJ=>?_;rcases hx with hx|⟨k,rfl,A⟩
  ·omega
  refine c8 (aad (by have:=h.tl;omega) (by omega)) λb _=>dR (λ_=>cF (u _)) λ_=>?_;have C:=h.t _ (dG A);rw[dt A,cu,cu];have M:nD K (dW.mk 0 j e c.cB[k].fI c.cB[k].dV 0 [] [] [] 0):=⟨by show(0:Int)<=0/\(0:Int)<=1000;omega,by show 0<=j/\j<=1000;omega,E,C.fI,C.dV,by show(0:Nat)<=2;omega,λx hx=>(by cases hx),by show(0:Nat)<=_;omega,by show(0:Nat)<=_;omega⟩;exact c8 (Ub h M F H) λy D=>dS (dR (λ_=>cF ⟨D.1,D.2⟩) λ_=>cF (u _))
theorem abn{K:Nat}{c:dD}(h:gz n K c)(hK:K<=9999)(hn:2^42<=n):Ok (IH n c) λx=>gz n K x.1/\fT 30000 x.2.1/\x.2.2.length<=30000:=by
 have ab:=h.tl;unfold IH;refine jl (N:=c.cB.length) (by omega) (λm(s:List cR×List iG×dD)i=>nN n m s.1 s.2.1 i s.2.2 _) (λi s=>fT (2*i) s.1/\s.2.1.length<=2*i/\gz n K s.2.2/\s.2.2.cB.length=c.cB.length) (m:=n) (s:=([],[],c)) (by omega) ⟨fT.nil,by show(0:Nat)<=_;omega,h,rfl⟩ (λm s P=>?_) λm i s hi P J=>?_
 ·obtain⟨D,h2,j,H⟩:=P;rw[nN];exact iO (by rw[cP];omega) (cF ⟨j,D.mono (by omega),by show s.2.1.length<=_;omega⟩)
 ·obtain⟨D,h2,j,H⟩:=P;have M:i<s.2.2.cB.length:=by omega
  have ad:=D.l;have u:=j.t _ (dG M);rw[nN];refine jm (by rw[cP];omega) (dR (λ_=>?_) λ_=>cF ⟨j,D.mono (by omega),by show s.2.1.length<=_;omega⟩);have next:Ok (nN n m s.1 s.2.1 (cw .i64 (i:Int) 1) s.2.2 λa e y=>some (y,a,e)) λx=>gz n K x.1/\fT 30000 x.2.1/\x.2.2.length<=30000:=by
   rw[dE (by omega)]
   exact J s ⟨D.mono (by omega),by omega,j,H⟩
  rw[dt M,cu];have dec:Ok (ck (yh n s.2.2.cB[i]) λS=>ck (cT 64 s.1 S) λU=>nN n m U s.2.1 (cw .i64 (i:Int) 1) s.2.2 λa e y=>some (y,a,e)) λx=>gz n K x.1/\fT 30000 x.2.1/\x.2.2.length<=30000:=by
   refine c8 (RE u (by omega) (by omega)) λY A=>eU (by have:=A.l;omega) (by omega) ?_
   rw[dE (by omega)]
   exact J (s.1++Y,s.2.1,s.2.2) ⟨(D.app A).mono (by omega),by show s.2.1.length<=_;omega,j,H⟩
  have E:Ok (ck (nM n s.2.2.cB) λC=>ck (cm C i) λae=>ck (cm C i) λI=>ck (xV n {s.2.2 with cB:=db C i {I with la:=cw .i64 s.2.2.cB[i].la 1}} s.2.2.cB[i]) λZ=>ck (cT 64 s.1 Z) λaa=>nN n m aa s.2.1 (cw .i64 (i:Int) 1) {s.2.2 with cB:=db C i {I with la:=cw .i64 s.2.2.cB[i].la 1}} λa e y=>some (y,a,e)) λx=>gz n K x.1/\fT 30000 x.2.1/\x.2.2.length<=30000:=by
   rw[DP (K:=K) (by have:=j.tl;omega) j.t (by omega) (by omega)]
   simp only[cu,dt M]
   have hc:=j.cB (ts:=db s.2.2.cB i {s.2.2.cB[i] with la:=cw .i64 s.2.2.cB[i].la 1}) (by rw[lq];exact j.tl) λt F=>by
    rcases sQ F with F|rfl
    ·exact j.t t F
    ·exact⟨u.txn,u.kL,u.back,u.fI,u.dV,u.sl,u.sb,u.yes,u.jb⟩
   refine c8 (Q0 hc.b u (by omega) hn) λY A=>eU (by have:=A.l;omega) (by omega) ?_;rw[dE (by omega)];exact J (s.1++Y,s.2.1,_) ⟨(D.app A).mono (by omega),by show s.2.1.length<=_;omega,hc,by show(db _ _ _).length=_;rw[lq];exact H⟩
  refine ok_eq (λ_=>nu (λ_=>?_) λ_=>ok_eq (λ_=>E) λ_=>ok_eq (λ_=>dec) λ_=>next) λ_=>ok_eq (λ_=>E) λ_=>ok_eq (λ_=>dec) λ_=>next
  refine c8 (NN j M (by omega) hn) λx hx=>eU (by have:=hx.m.l;omega) (by omega) (eU (by have:=hx.t;omega) (by omega) ?_);rw[dE (by omega)];exact J (s.1++x.2.1,s.2.1++x.2.2,x.1) ⟨(D.app hx.m).mono (by omega),by have:=hx.t;show(s.2.1++x.2.2).length<=_;rw[eS];omega,hx.c,by show x.1.cB.length=_;rw[hx.s];exact H⟩
theorem aae{K:Nat}{c:dD}{m:cR}{bytes:Int}(h:gz n K c)(e:-1000<=bytes/\bytes<=100000)(j:K<=9999)(u:2^42<=n):Ok (D2 n c m bytes) (gz n (K+1)):=by
 unfold D2;refine c8 (Sw h j u) λx hx=>c8 (Vl hx.l e hx.c.lg) λy a=>cF ?_;have:=a.length_le;have:=hx.c.lg;exact⟨⟨h.b.net,h.b.base,h.b.mB,h.b.wb,h.b.gU⟩,by show y.length<=9000;omega,by show(0:Int)<=0/\(0:Int)<=100;omega,by show(0:Nat)<=_;omega,λt A=>by cases A⟩
end
end
section
section
variable{n:Nat}{R:Type}{Q:R->Prop}
theorem ac5(s:cq):-1<=ea s/\ea s<1000000000000:=by
 rcases Eb s with⟨v,_,_,h,a⟩|⟨h,_⟩<;>omega
structure WB(t:cY):Prop where
 l:t.legs.length<=100000
 w:∀s∈t.legs,s.length<=100000
 f:t.iP.length<=100000
theorem ac6{t:cY}(h:WB t)(D:2^41<=n):Ok (yR n t) λb=>b=true->kX t:=by
 have I:=h.l;have J:=h.f;have e:∀{p:Prop},false=true->p:=λh=>(by cases h);unfold yR;refine jl (N:=t.legs.length) (by omega) (λm(_:Unit)i=>uf n m i t _) (λi _=>∀j(a:j<t.legs.length),j<i->gy t.legs[j]=true) (m:=n) (s:=()) (by omega) (λj _ a=>by omega) (λm _ u=>?_) λm i _ x u K=>?_
 ·rw[uf];refine iO (by rw[cP];omega) (ke (jD (λE=>?_) λ_=>cF e));rw[ru (by omega) D,cu];refine dR (λy=>ke (cF λA=>?_)) λ_=>cF e;rw[dF] at A;rw[cP] at E;have:=(ls y).2.2;refine⟨by omega,λs A=>?_,by omega,by omega⟩;obtain⟨j,a,rfl⟩:=pD A;have:=(ls (u j a a)).2.2;omega
 ·rw[uf];refine jm (by rw[cP];omega) ?_;have M:=h.w _ (dG x);rw[dt x,cu,ru (by omega) D,cu];refine dS (dR (λC=>?_) λ_=>cF e);refine jl (N:=i) (by omega) (λm(_:Unit)k=>ue n m i k t _) (λ_ _=>True) (m:=n) (s:=()) (by omega) trivial (λm _ _=>?_) λm j _ a _ F=>?_
  ·rw[ue];refine iO (by omega) ?_;rw[dE (by omega)];refine K () λj a H=>?_
   by_cases c:j=i
   ·subst c;exact C
   ·exact u j a (by omega)
  ·rw[ue];refine jm (by omega) ?_;rw[dt (show j<t.legs.length by omega),cu,dt x,cu,dE (by omega)];exact n4 (λ_=>cF e) λ_=>F () trivial
theorem ZJ{text:cq}(N:text.length<=9000)(a:2^41<=n):Ok (D3 n text) λx=>kX x.1:=by
 have C:kX (cY.mk [] [] 0):=⟨by show(0:Nat)<=100;omega,λx hx=>(by cases hx),by show(0:Nat)<=100;omega,by show-1000<=(0:Int)/\(0:Int)<=1000;omega⟩;unfold D3;rw[show nR n text 47=some (dr 47 text) from B9 (c:=47) (by omega) a,cu];refine dS (ok_eq (λD=>?_) λ_=>cF C);rw[cP] at D;have j:∀i(h:i<(dr 47 text).length),(dr 47 text)[i].length<=9000:=λi h=>by
  have:=uo (dG h);omega
 have e:∀i:Nat,(h:i<(dr 47 text).length)->cm (dr 47 text) (i:Int)=some (dr 47 text)[i]:=λi h=>dt h;have E:=e 0 (by omega);have F:=e 1 (by omega);have H:=e 2 (by omega);have S:=j 0 (by omega);have U:=j 1 (by omega);rw[show((0:Nat):Int)=0 from rfl] at E;rw[show((1:Nat):Int)=1 from rfl] at F;rw[show((2:Nat):Int)=2 from rfl] at H;have J:nR n (dr 47 text)[0] 45=some (dr 45 (dr 47 text)[0]):=B9 (c:=45) (by omega) a;simp only[E,F,H,cu,J,uJ a];have M:=Jl 45 (dr 47 text)[0];have hW:WB (cY.mk (dr 45 (dr 47 text)[0]) (dr 47 text)[1] (ea (dr 47 text)[2])):=⟨by show(dr 45 _).length<=_;omega,λs u=>by have:=uo (show s∈dr 45 (dr 47 text)[0] from u);omega,by show((dr 47 text)[1]).length<=_;omega⟩;have y:text≠[]:=by
  rintro rfl
  simp[dr] at D
 have A:=ac5 (dr 47 text)[2];refine c8 (P:=λs=>s=text->kX (cY.mk (dr 45 (dr 47 text)[0]) (dr 47 text)[1] (ea (dr 47 text)[2]))) ?_ λs u=>dS (n4 (λh=>cF (u h)) λ_=>cF C);unfold Mh;refine c8 (ac6 hW a) λb A=>dS (dR (λI=>?_) λ_=>cF λh=>absurd h.symm y);exact c8 (Su (A I) a) λs _=>cF λ_=>A I
theorem ZK{c:dD}{r:cq}{L:Nat}(h:gz n 0 c)(hL:c.cB.length<=L)(an:L<=900)(hr:r.length<=9000)(hn:2^42<=n):Ok (Hz n c r) λx=>x.2=true->gz n 0 x.1/\x.1.cB.length<=L+1:=by
 have hx:=h.nx;have C:∀{p:Prop},false=true->p:=λh=>(by cases h);unfold Hz;rw[show nR n r 32=some (dr 32 r) from B9 (c:=32) (by omega) (by omega),cu];refine n6 (by omega) (by omega) λa ha=>iA 2 _ (by simp) ha (by omega) λb _=>?_;rw[iY (a:=c.next) (by omega) (by omega) (by omega) (by omega)];refine n4 (λ_=>cF λZ=>?_) λ_=>?_
 ·rw[gv,dF] at Z;exact⟨⟨⟨h.b.net,h.b.base,h.b.mB,h.b.wb,h.b.gU⟩,h.lg,by show 0<=c.next+1/\c.next+1<=100;omega,h.tl,h.t⟩,by show c.cB.length<=_;omega⟩
 refine dS (ok_eq (λh5=>?_) λ_=>cF C);rw[cP] at h5;have e:∀i:Nat,(h:i<(dr 32 r).length)->cm (dr 32 r) (i:Int)=some (dr 32 r)[i]:=λi h=>dt h;have e0:=e 0 (by omega);have e1:=e 1 (by omega);have e2:=e 2 (by omega);have e3:=e 3 (by omega);have e4:=e 4 (by omega);have w4:((dr 32 r)[4]).length<=9000:=by have:=uo (c:=32) (s:=r) (dG (show 4<(dr 32 r).length by omega));omega
 rw[show((0:Nat):Int)=0 from rfl] at e0;rw[show((1:Nat):Int)=1 from rfl] at e1;rw[show((2:Nat):Int)=2 from rfl] at e2;rw[show((3:Nat):Int)=3 from rfl] at e3;rw[show((4:Nat):Int)=4 from rfl] at e4;simp only[e0,e1,e2,e3,e4,cu,uJ (show 2^41<=n by omega),lJ (a:=c.next) (b:=1) (by omega) (by omega) (by omega) (by omega)];generalize(dr 32 r)[0]=p0;generalize ao:ea (dr 32 r)[1]=j;generalize ap:ea (dr 32 r)[2]=u;generalize aq:ea (dr 32 r)[3]=A;generalize(dr 32 r)[4]=p4 at w4;have D:∀(t:cY)(H:Int)(I:Bool),kX t->Ok (ck (sV n c.net c.gU t) λE=>
   cond (cD I)
    (some (c,false))
    (cond (cD (cp E.2.2 0))
     (some (c,false))
     (ck (dn n j 1 (c.next-1)) λaa=>
     cond (cD aa)
      (some (c,false))
      (ck (uv n c.cB j) λab=>
      cond (dz 0 ab)
       (some (c,false))
       (ck (dn n u 1 99) λad=>
       cond (cD ad)
        (some (c,false))
        (ck (dn n A 0 99) λae=>
        cond (cD ae)
         (some (c,false))
         (ck (uk n (dW.mk j u A t 0 H [] [] [] 0)) λaf=>
         cond (cD (dm af r))
          (some (c,false))
          (ck (sO n c (dW.mk j u A t E.2.1 H [] [] [] 0)) λah=>
          ck (vN n c ah) λJ=>
          ck (cT 8 [] J) λai=>
          cond (dm p0 [78])
           (ck (cT 168 [] c.cB) λM=>
           ck (cT 168 M [dW.mk j u A t E.2.1 H J [] [] 0]) λN=>
           some ({c with cB:=N},true))
           (ck (cT 168 [] c.cB) λaj=>
           ck (cT 168 aj [dW.mk j u A t E.2.1 H J ai [] 0]) λak=>
           some ({c with cB:=ak},true)))))))))) λx=>x.2=true->gz n 0 x.1/\x.1.cB.length<=L+1:=by
  intro t H I Y
  refine c8 (OE h.b.net h.b.gU Y hn) λo ho=>dS (dR (λ_=>dS (ok_eq (λ_=>ke (dS (jD (λb1=>?_) λ_=>cF C))) λ_=>cF C)) λ_=>cF C)
  refine c8 (Ua (by omega) (by omega)) λx _=>nu (λ_=>cF C) λ_=>ke (dS (jD (λb2=>ke (dS (jD (λb3=>?_) λ_=>cF C))) λ_=>cF C))
  refine c8 (Sv (by show _<=j/\j<=_;omega) (by show _<=u/\u<=_;omega) (by show _<=A/\A<=_;omega) Y (by omega)) λs _=>dS (n4 (λ_=>?_) λ_=>cF C)
  have am:kX (dW.mk j u A t o.2.1 H [] [] [] 0).fI:=Y
  refine c8 (NM h.b am hn) λau S=>c8 (QZ h.b S (by omega)) λsh F=>eU (by have:=F.1;simp;omega) (by omega) ?_
  have mk:∀y:List Int,y.length<=2->nD 0 (dW.mk j u A t o.2.1 H sh y [] 0):=λy hy=>⟨by show 0<=j/\j<=1000;omega,by show 0<=u/\u<=1000;omega,by show 0<=A/\A<=1000;omega,Y,ho.2.1,F.1,F.2,by show y.length<=_;omega,by show(0:Nat)<=_;omega⟩
  have U:∀y:List Int,y.length<=2->Ok (ck (cT 168 [] c.cB) λM=>ck (cT 168 M [dW.mk j u A t o.2.1 H sh y [] 0]) λN=>some ({c with cB:=N},true)) λx=>x.2=true->gz n 0 x.1/\x.1.cB.length<=L+1:=λy hy=>by
   refine eU (by simp;omega) (by omega) (eU (by simp;omega) (by omega) (cF λ_=>⟨h.cB (by simp;omega) λq P=>?_,by show(_++[_]).length<=_;simp;omega⟩))
   rw[ic] at P
   rcases eB.1 P with P|P
   ·exact h.t q P
   ·rw[fM] at P;rw[P];exact mk y hy
  exact dR (λ_=>U [] (by simp)) λ_=>U _ (by rw[ic];exact F.1)
 have rd:=ZJ (n:=n) w4 (by omega);refine dS (dR (λ_=>?_) λ_=>dS (dR (λ_=>?_) λ_=>cF C))
 ·exact c8 rd λx hx=>dR (λ_=>D x.1 2 x.2 hx) λ_=>D x.1 3 x.2 hx
 ·exact c8 rd λx hx=>dR (λ_=>D x.1 2 x.2 hx) λ_=>D x.1 3 x.2 hx
theorem abo{K:Nat}{c:dD}(h:gz n K c)(u:2^42<=n):Ok (II n c) (gz n K):=by
 have y:=h.lg;unfold II;refine dR (λ_=>cF h) λ_=>c8 (P:=λx=>gz n K x.1) ?_ λx hx=>cF hx;unfold Mi;have A:=rB (s:=c.log) (by omega);rw[H9 (by omega) (by omega),cu];refine Pn (by omega) (by omega) (by omega) ?_;have a:(List.take (((ed c.log).2:Int).toNat-(0:Int).toNat) (List.drop (0:Int).toNat c.log)).length<=9000:=by
  rw[kh,mF];omega
 refine jl (N:=(ed c.log).1.length) (by omega) (λm(s:dD)i=>Al n m (ed c.log).1 i c s _) (λi s=>gz n 0 s/\s.cB.length<=i) (m:=n) (by omega) ⟨⟨⟨h.b.net,h.b.base,h.b.mB,h.b.wb,h.b.gU⟩,a,by show(0:Int)<=1/\(1:Int)<=100;omega,by show(0:Nat)<=_;omega,λt C=>by cases C⟩,by show(0:Nat)<=0;omega⟩ (λm s e=>?_) λm i s j e D=>?_
 ·rw[Al];exact iO (by rw[cP];omega) (cF (e.1.mono (by omega)))
 ·rw[Al];have F:=NK (s:=c.log) (by omega) (dG j);refine jm (by rw[cP];omega) ?_;rw[dt j,cu,dE (by omega)];refine c8 (ZK e.1 e.2 (by omega) (by omega) u) λx hx=>dS (dR (λE=>D x.1 (hx E)) λ_=>cF h)
end
end
section
section
variable{n:Nat}{R:Type}{Q:R->Prop}
structure fG(n K:Nat)(w:World):Prop where
 c:gz n K w.e9
 s2:w.eI.length=2
 s:∀s∈w.eI,iM K s
 r:fT 60 w.ga
 t:w.told.length<=40000*(K+1)
theorem fG.mono{K L:Nat}{w:World}(h:fG n K w)(a:K<=L):fG n L w:=⟨h.c.mono a,h.s2,λs e=>(h.s s e).mono a,h.r,by have:=h.t;omega⟩
theorem OF{K:Nat}{w:World}{l:List iG}(h:fG n K w)(e:l.length<=40000)(j:K<=10000):Ok (wa n w l) (fG n (K+1)):=by
 have u:=h.t;have a:=h.mono (show K<=K+1 by omega);unfold wa;refine eU (by simp;omega) (by omega) (eU (by simp;omega) (by omega) (cF ⟨a.c,a.s2,a.s,a.r,by show([]++w.told++l).length<=_;simp;omega⟩))
theorem Cb{K:Nat}{w:World}{l:List cR}{B:Nat}(h:fG n K w)(j:fT B l)(A:B<=100000)(C:2^41<=n):Ok (pL n w l) (fG n K):=by
 have x:=j.l;unfold pL;refine jl (N:=l.length) (by omega) (λm(s:World)i=>AD n m l i s _) (λ_ s=>fG n K s) (m:=n) (by omega) h (λm s a=>?_) λm i s u a y=>?_
 ·rw[AD];exact iO (by rw[cP];omega) (cF a)
 ·rw[AD];have D:=a.r.l;refine jm (by rw[cP];omega) (dY (λe=>?_) λ_=>cF a);rw[cP] at e;refine eU (by simp;omega) (by omega) ?_;rw[dt u,cu,dE (by omega),ic];refine eU (by simp;omega) (by omega) (y _ ⟨a.c,a.s2,a.s,⟨by show(s.ga++[_]).length<=60;simp;omega,(a.r.add (j.m _ (dG u))).m⟩,a.t⟩)
theorem afD{K:Nat}{w:World}{e:Event}(h:fG n K w)(E:0<=e.n/\e.n<=1000)(F:kX e.fI)(N:K<=9000)(A:2^42<=n):Ok (BN n w e) λx=>fG n (K+2) x.1:=by
 have C:=h.mono (show K<=K+2 by omega);have u:=h.mono (show K<=K+1 by omega);unfold BN;refine dS (dR (λ_=>ke (dS (jD (λ_=>?_) λ_=>cF C))) λ_=>cF C);have a:∀x:dD×List cR×cq,Gn n (K+1) x->∀d:Int,Ok (cond (cD (dm x.2.2 [])) (ck (wa n {w with e9:=x.1} [iG.mk d x.2.2]) λH=>ck (pL n H x.2.1) λI=>some (I,true)) (ck (pL n {w with e9:=x.1} x.2.1) λJ=>some (J,true))) λx=>fG n (K+2) x.1:=λx hx d=>by
  have D:fG n (K+1) {w with e9:=x.1}:=⟨hx.c,u.s2,u.s,u.r,u.t⟩
  refine dS (dR (λ_=>?_) λ_=>?_)
  ·exact c8 (Cb D hx.m (by omega) (by omega)) λy j=>cF (j.mono (by omega))
  ·exact c8 (OF D (by simp) (by omega)) λy j=>c8 (Cb j hx.m (by omega) (by omega)) λz M=>cF M
 refine c8 (aeB h.c F (by omega) A) λx hx=>ok_eq (λ_=>?_) λ_=>a x hx _;exact c8 (aeC h.c E (by omega) A) λy j=>a y j _
theorem Mo{K:Nat}{l:List cS}{k:Nat}{s:cS}(a:l.length=2)(u:k<2)(e:∀s∈l,iM K s)(j:iM K s):Ok (yr n l k s) λx=>x.length=2/\∀s∈x,iM K s:=by
 unfold yr;refine eU (by simp;omega) (by omega) ?_;rw[ic,dt (show k<l.length by omega),cu,cu];refine cF ⟨by rw[lq];exact a,λx hx=>?_⟩;rcases sQ hx with hx|rfl
 ·exact e x hx
 ·exact j
theorem Sx{K:Nat}{w:World}{m:cR}(h:fG n K w)(D:oe m)(J:K<=9000)(F:2^42<=n):Ok (Ey n w m) (fG n (K+2)):=by
 have a:=h.mono (show K<=K+1 by omega);have H:=D.to;unfold Ey;refine ok_eq (λ_=>?_) λM=>?_
 ·refine c8 (Sw h.c (by omega) F) λx hx=>?_;have u:fG n (K+1) {w with e9:=x.1}:=⟨hx.c,a.s2,a.s,a.r,a.t⟩;exact c8 (OF u (by have:=hx.t;omega) (by omega)) λy I=>c8 (Cb I hx.m (by omega) (by omega)) λz A=>cF A
 ·obtain⟨k,N⟩:∃k:Nat,m.to=((k+1:Nat):Int):=⟨(m.to-1).toNat,by omega⟩;have C:=h.s2;have e:cQ .i64 m.to 1=(k:Int):=by rw[ij];omega
  have j:k<w.eI.length:=by omega
  rw[e,dt j,cu];refine c8 (St (h.s _ (dG j)) D (by omega) (by omega)) λx hx=>c8 (Mo (K:=K+1) C (by omega) a.s hx.1) λl E=>?_;have u:fG n (K+1) {w with eI:=l}:=⟨a.c,E.1,E.2,a.r,a.t⟩;exact c8 (Cb (B:=1) u ⟨hx.2.2.1,hx.2.2.2⟩ (by omega) (by omega)) λz A=>cF (A.mono (by omega))
theorem MD{l:List cR}{k:Nat}(a:fT 60 l)(j:k<l.length):Ok (qs n l k) (fT 60):=by
 have e:=a.l;unfold qs;rw[dE (show k<2^31 by omega)];refine w5 (by omega) (by omega) (by omega) (eU (by simp;omega) (by omega) (w5 (by omega) (by rw[cP];omega) (by rw[cP];omega) (eU (by simp[cP];omega) (by omega) (cF ⟨by simp[cP];omega,λx hx=>?_⟩))));rw[ic] at hx;rcases eB.1 hx with hx|hx
 ·exact a.m x (Dz hx)
 ·exact a.m x (Dz hx)
theorem ac7{K:Nat}{w:World}{k:Nat}{b:Bool}(h:fG n K w)(a:k<w.ga.length)(e:K<=9000)(j:2^42<=n):Ok (sH n w k b) (fG n (K+2)):=by
 have u:=h.r.m _ (dG a);unfold sH;rw[dt a,cu];refine dS (dR (λ_=>c8 (Sx h u e j) λx hx=>cF hx) λ_=>?_);exact c8 (MD h.r a) λr y=>c8 (Sx (K:=K) (w:={w with ga:=r}) ⟨h.c,h.s2,h.s,y,h.t⟩ u e j) λx hx=>cF hx
theorem abp{K:Nat}{w:World}{k:Nat}(h:fG n K w)(E:k<=2)(F:K<=9000)(u:2^42<=n):Ok (sL n w k) (fG n (K+2)):=by
 have H:=h.mono (show K<=K+1 by omega);unfold sL;refine ok_eq (λ_=>?_) λI=>?_
 ·refine c8 (abn h.c (by omega) u) λx hx=>?_;have A:fG n K {w with e9:=x.1}:=⟨hx.1,h.s2,h.s,h.r,h.t⟩;exact c8 (OF A (by have:=hx.2.2;omega) (by omega)) λy C=>c8 (Cb C hx.2.1 (by omega) (by omega)) λz j=>cF (j.mono (by omega))
 ·have D:=h.s2;have e:cQ .i64 (k:Int) 1=((k-1:Nat):Int):=by rw[ij];omega
  have a:k-1<w.eI.length:=by omega
  rw[e,dt a,cu];exact c8 (abk (h.s _ (dG a)) (by omega) (by omega)) λx hx=>c8 (Cb (B:=20000) h ⟨hx.1,hx.2⟩ (by omega) (by omega)) λz j=>cF (j.mono (by omega))
theorem aaf{K:Nat}{w:World}{k:Nat}{bytes:Int}(h:fG n K w)(U:k<=2)(H:-1000<=bytes/\bytes<=100000)(Y:K<=9000)(M:2^42<=n):Ok (sI n w k bytes) (fG n (K+2)):=by
 have I:=h.r.l;have a:∀(w:World)(m:cR),fG n K w->oe m->Ok (cond (cp (k:Int) 0)
 (ck (D2 n w.e9 m bytes) λy=>
 some {w with e9:=y})
 (ck (cm w.eI (cQ .i64 (k:Int) 1)) λA=>
 ck (Bh n A m bytes) λC=>
 ck (yr n w.eI (cQ .i64 (k:Int) 1) C) λD=>
 some {w with eI:=D})) (fG n (K+2)):=λw m h P=>by
  have j:=h.mono (show K<=K+1 by omega)
  refine ok_eq (λ_=>?_) λZ=>?_
  ·exact c8 (aae h.c H (by omega) M) λx hx=>cF ((show fG n (K+1) {w with e9:=x} from⟨hx,j.s2,j.s,j.r,j.t⟩).mono (by omega))
  ·have E:=h.s2;have e:cQ .i64 (k:Int) 1=((k-1:Nat):Int):=by rw[ij];omega
   have u:k-1<w.eI.length:=by omega
   rw[e,dt u,cu];exact c8 (RD (h.s _ (dG u)) P H (by omega) (by omega)) λx hx=>c8 (Mo (K:=K+1) E (by omega) j.s hx) λl J=>cF ((show fG n (K+1) {w with eI:=l} from⟨j.c,J.1,J.2,j.r,j.t⟩).mono (by omega))
 unfold sI;refine jl (N:=w.ga.length) (by omega) (λm(_:Unit)i=>Ap n m k bytes i w (cR.mk 0 0 0 0 [] false) _) (λ_ _=>True) (m:=n) (s:=()) (by omega) trivial (λm _ _=>?_) λm i _ F _ S=>?_
 ·rw[Ap];exact iO (by rw[cP];omega) (a w _ h K8)
 ·rw[Ap];refine jm (by rw[cP];omega) ?_;rw[dt F,cu,dE (by omega)];refine ok_eq (λ_=>?_) λ_=>S () trivial;rw[cu];exact c8 (MD h.r F) λr I=>a {w with ga:=r} _ ⟨h.c,h.s2,h.s,I,h.t⟩ (h.r.m _ (dG F))
theorem abq{K:Nat}{w:World}{k:Nat}(h:fG n K w)(A:k<=2)(y:2^42<=n):Ok (sM n w k) (fG n K):=by
 unfold sM;refine ok_eq (λ_=>?_) λC=>?_
 ·exact c8 (abo h.c y) λx hx=>cF ⟨hx,h.s2,h.s,h.r,h.t⟩
 ·have j:=h.s2;have e:cQ .i64 (k:Int) 1=((k-1:Nat):Int):=by rw[ij];omega
  have a:k-1<w.eI.length:=by omega
  rw[e,dt a,cu];exact c8 (abj (h.s _ (dG a)) (by omega)) λx hx=>c8 (Mo (K:=K) j (by omega) h.s hx) λl u=>cF ⟨h.c,u.1,u.2,h.r,h.t⟩
theorem aeD{K:Nat}{w:World}{k:Nat}(h:fG n K w)(j:k<=2):Ok (sW n w k) λ_=>True:=by
 unfold sW;refine ok_eq (λ_=>cF trivial) λu=>?_;have a:=h.s2;have e:cQ .i64 (k:Int) 1=((k-1:Nat):Int):=by rw[ij];omega
 rw[e,dt (show k-1<w.eI.length by omega),cu];exact cF trivial
structure pS(e:Event):Prop where
 n:0<=e.n/\e.n<=1000
 t:kX e.fI
theorem aeE{K:Nat}{w:World}{e:Event}(h:fG n K w)(F:pS e)(E:K<=9000)(A:2^42<=n):Ok (JQ n w e) λx=>fG n (K+2) x.1:=by
 have a:=h.mono (show K<=K+2 by omega);have hr:=h.r.l;have am:=F.n;have ask:Ok (ck (BN n w e) λx0=>some (x0.1,x0.2)) λx=>fG n (K+2) x.1:=c8 (afD h F.n F.t E A) λx hx=>cF hx;have C:Ok (ck (dn n e.at' 0 (cQ .i64 (cz w.ga) 1)) λH=>
   cond (cD H)
    (some (w,false))
    (cond (cp e.kind 3)
     (ck (sH n w e.at' e.jq) λI=>
     some (I,true))
     (ck (qs n w.ga e.at') λJ=>
     some ({w with ga:=J},true)))) λx=>fG n (K+2) x.1:=by
  refine ke (dS (jD (λy=>?_) λ_=>cF a))
  rw[cP,lJ (by omega) (by omega) (by omega) (by omega)] at y
  obtain⟨k,M⟩:=gD y.1
  rw[M] at y⊢
  refine ok_eq (λ_=>c8 (ac7 h (by omega) E A) λx hx=>cF hx) λ_=>?_
  exact c8 (MD h.r (by omega)) λr hr=>cF ⟨a.c,a.s2,a.s,hr,a.t⟩
 have D:Ok (ck (dn n e.at' 0 2) λN=>
   cond (cD N)
    (some (w,false))
    (ck (dn n e.kind 5 7) λP=>
    cond (cD P)
     (some (w,false))
     (ck (sW n w e.at') λS=>
     cond (kq S (cp e.kind 7))
      (some (w,false))
      (cond (cp e.kind 5)
       (ck (sL n w e.at') λU=>
       some (U,true))
       (cond (cp e.kind 6)
        (ck (sI n w e.at' e.n) λY=>
        some (Y,true))
        (ck (sM n w e.at') λZ=>
        some (Z,true))))))) λx=>fG n (K+2) x.1:=by
  refine ke (dS (jD (λy=>?_) λ_=>cF a))
  obtain⟨k,M⟩:=gD y.1
  rw[M] at y⊢
  refine ke (dS (jD (λ_=>?_) λ_=>cF a))
  refine c8 (aeD h (by omega)) λu _=>dR (λ_=>cF a) λ_=>ok_eq (λ_=>?_) λ_=>ok_eq (λ_=>?_) λ_=>?_
  ·exact c8 (abp h (by omega) E A) λx hx=>cF hx
  ·exact c8 (aaf h (by omega) (by omega) E A) λx hx=>cF hx
  ·exact c8 (abq h (by omega) A) λx hx=>cF (hx.mono (by omega))
 have j:Ok (cond (cp e.kind 3)
  (cond (cp e.kind 3)
   (ck (dn n e.at' 0 (cQ .i64 (cz w.ga) 1)) λH=>
   cond (cD H)
    (some (w,false))
    (cond (cp e.kind 3)
     (ck (sH n w e.at' e.jq) λI=>
     some (I,true))
     (ck (qs n w.ga e.at') λJ=>
     some ({w with ga:=J},true))))
   (ck (dn n e.at' 0 2) λN=>
   cond (cD N)
    (some (w,false))
    (ck (dn n e.kind 5 7) λP=>
    cond (cD P)
     (some (w,false))
     (ck (sW n w e.at') λS=>
     cond (kq S (cp e.kind 7))
      (some (w,false))
      (cond (cp e.kind 5)
       (ck (sL n w e.at') λU=>
       some (U,true))
       (cond (cp e.kind 6)
        (ck (sI n w e.at' e.n) λY=>
        some (Y,true))
        (ck (sM n w e.at') λZ=>
        some (Z,true))))))))
  (cond (cp e.kind 4)
   (ck (dn n e.at' 0 (cQ .i64 (cz w.ga) 1)) λaa=>
   cond (cD aa)
    (some (w,false))
    (cond (cp e.kind 3)
     (ck (sH n w e.at' e.jq) λab=>
     some (ab,true))
     (ck (qs n w.ga e.at') λad=>
     some ({w with ga:=ad},true))))
   (ck (dn n e.at' 0 2) λae=>
   cond (cD ae)
    (some (w,false))
    (ck (dn n e.kind 5 7) λaf=>
    cond (cD af)
     (some (w,false))
     (ck (sW n w e.at') λah=>
     cond (kq ah (cp e.kind 7))
      (some (w,false))
      (cond (cp e.kind 5)
       (ck (sL n w e.at') λai=>
       some (ai,true))
       (cond (cp e.kind 6)
        (ck (sI n w e.at' e.n) λaj=>
        some (aj,true))
        (ck (sM n w e.at') λak=>
        some (ak,true))))))))) λx=>fG n (K+2) x.1:=dR (λ_=>dR (λ_=>C) λ_=>D) λ_=>dR (λ_=>C) λ_=>D;unfold JQ;exact dR (λ_=>dR (λ_=>ask) λ_=>j) λ_=>dR (λ_=>ask) λ_=>j
theorem aeF{K:Nat}{w:World}{l:List Event}(h:fG n K w)(y:∀e∈l,pS e)(A:l.length<=10)(D:K<=8000)(C:2^42<=n):Ok (Bx n w l) (fG n (K+20)):=by
 unfold Bx;refine jl (N:=l.length) (by omega) (λm(s:World)i=>yj n m l i s _) (λi s=>fG n (K+2*i) s) (m:=n) (by omega) h (λm s a=>?_) λm i s j a u=>?_
 ·rw[yj];exact iO (by rw[cP];omega) (cF (a.mono (by omega)))
 ·rw[yj];refine jm (by rw[cP];omega) ?_;rw[dt j,cu,dE (by omega)];exact c8 (aeE a (y _ (dG j)) (by omega) C) λx hx=>dR (λ_=>u x.1 (hx.mono (by omega))) λ_=>u s (a.mono (by omega))
end
end
section
section
variable{n:Nat}{R:Type}{Q:R->Prop}
theorem Xa:iJ []:=⟨by show(0:Nat)<=1000;omega,λl a=>by cases a⟩
theorem O5:pW []:=λr a=>by cases a
theorem abr{e:List cE}{a:List Int}{gU:List fx}(x:qf e)(C:nZ e=true)(D:zy a)(j:a.length=e.length)(E:Cn n gU)(y:2^41<=n):Iu n e a gU=some true:=by
 have F:=x.b;have u:∀(K:List cE->List Int->List fx->Option Bool),∀m i:Nat,i<=a.length->a.length<m+i->DE n m e a gU i K=K e a gU:=by
  intro K m
  induction m with
  |zero=>intro i H I;omega
  |succ m J=>
   intro i H I
   rw[DE]
   by_cases A:i<a.length
   ·rw[xa (by rw[cP];omega),cL,dt A,cu,rG,cu,gu (D _ (dG A)),dO,eN,cN,dE (by omega)];exact J (i+1) (by omega) (by omega)
   ·rw[th (by rw[cP];omega),cN]
 unfold Iu;refine(u _ n 0 (by omega) (by omega)).trans ?_;rw[Oh (by omega) (λl M=>(x.l l M).z.s) y,cu,C,cL,ZI E y,cu,cL,cP,cP,j,en,gu rfl]
theorem ac8{e:List cE}{j:List Int}{a:List fx}(x:qf e)(C:nZ e=true)(D:zy j)(u:j.length=e.length)(y:Cn n a)(E:2^41<=n):Ok (HL n e j a) λc=>gz n 0 c/\c.up=true:=by
 have F:=x.b;have A:=y.l;unfold HL;rw[abr x C D u y E,cu,dO,eN,cN,yA (by omega) (λl H=>(x.l l H).z) E,cu];refine eU (by simp;omega) (by omega) (eU (by simp;omega) (by omega) (cF ⟨⟨⟨x,C,u,D,⟨y.f,A⟩⟩,by show(0:Nat)<=9000;omega,by show(0:Int)<=1/\(1:Int)<=100;omega,by show(0:Nat)<=_;omega,λt I=>by cases I⟩,rfl⟩))
theorem abt{a:List cE}{e:List Int}{s:Int}(A:qf a)(E:e.length=a.length)(H:2^41<=n):Ok (Iv n a e s) λx=>x.length<=6/\∀l∈x,gP l:=by
 have F:=A.b;unfold Iv;refine jl (N:=a.length) (by omega) (λm(x:List cE)i=>yd n m a e s x i _) (λi x=>x.length<=i/\∀l∈x,gP l) (m:=n) (s:=[]) (by omega) ⟨by simp,λl u=>by cases u⟩ (λm x y=>?_) λm i x C y D=>?_
 ·rw[yd];exact iO (by rw[cP];omega) (cF ⟨by omega,y.2⟩)
 ·rw[yd];refine jm (by rw[cP];omega) ?_;have u:=A.l _ (dG C);rw[dt (show i<e.length by omega),cu,dE (show i<2^31 by omega)];refine ok_eq (λ_=>?_) λ_=>D x ⟨by omega,y.2⟩;rw[dt C,cu,Fv u.z,cu];refine eU (by simp;omega) (by omega) (D _ ⟨by simp;omega,λl j=>?_⟩);rcases eB.1 j with j|j
  ·exact y.2 l j
  ·rw[fM] at j;rw[j];exact u
theorem ac9{id:Int}{a:List cE}(e:a.length<=6)(h:∀l∈a,gP l)(j:2^41<=n):Ok (HM n id a) (iM 0):=by
 have z:iM 0 (cS.mk 0 [] [] false [] []):=⟨Xa,by show(0:Nat)<=6;omega,Xa,by show(0:Nat)<=9000;omega,O5,tV,by show(0:Nat)<=_;omega⟩;unfold HM;refine ke (dS (jD (λ_=>?_) λ_=>cF z));rw[Oh (by omega) (λl e=>(h l e).z.s) j,cu,yA (by omega) (λl e=>(h l e).z) j,cu,cu];exact dS (dR (λ_=>cF ⟨⟨by show a.length<=_;omega,h⟩,e,⟨by show a.length<=_;omega,h⟩,by show(0:Nat)<=9000;omega,O5,tV,by show(0:Nat)<=_;omega⟩) λ_=>cF z)
theorem aeG{a:List cE}{j:List Int}{e:List fx}(H:qf a)(C:nZ a=true)(S:zy j)(A:j.length=a.length)(U:Cn n e)(D:2^41<=n):Ok (HN n a j e) (fG n 0):=by
 unfold HN;refine c8 (ac8 H C S A U D) λc I=>?_;rw[I.2,dO,eN,cN];have E:∀m s:Nat,∀w:World,1<=s->s<=3->3<m+s->w.e9=c->w.ga=[]->w.told=[]->w.eI.length+1=s->(∀x∈w.eI,iM 0 x)->Ok (Ds n m a j s w λF=>some F) (fG n 0):=by
  intro m
  induction m with
  |zero=>intro s w Y Z h3;omega
  |succ m ih=>
   intro s w Y Z h3 J M N h7 P
   rw[Ds]
   refine nu (λhs=>?_) λhs=>cF ⟨by rw[J];exact I.1,by omega,P,by rw[M];exact fT.nil,by rw[N];show(0:Nat)<=_;omega⟩
   refine c8 (abt H A D) λb C=>c8 (ac9 C.1 C.2 D) λx hx=>eU (by simp;omega) (by omega) ?_
   rw[dE (by omega)]
   refine ih (s+1) _ (by omega) (by omega) (by omega) J M N (by show(w.eI++[x]).length+1=s+1;simp;omega) λy u=>?_
   rcases eB.1 u with u|u
   ·exact P y u
   ·rw[fM] at u;rw[u];exact hx
 exact E n 1 (World.mk c [] [] []) (by omega) (by omega) (by omega) rfl rfl rfl rfl λx hx=>by cases hx
theorem ada{r:Rd}(u:dN 0 r)(A:2^42<=n):Ok (I9 n r) λx=>fG n 0 x.1/\dN 300000 x.2:=by
 unfold I9;refine c8 (aa6 u (by omega) (by omega)) λx hx=>?_;obtain⟨⟨a,I⟩,C⟩:=hx;have D:=afx a;have E:qf x.1:=⟨λl F=>(a.l l F).1,by omega,a.len⟩;refine c8 (ZH a.len C (by omega) (by omega)) λy e=>c8 (Z9 e.2 (by omega) A) λf j=>c8 (aeG E D.2 e.1.1 e.1.2 j.1 (by omega)) λw H=>cF ⟨H,j.2.mono (by omega)⟩
theorem WC:kX (cY.mk [] [] 0):=⟨by show(0:Nat)<=100;omega,λx hx=>(by cases hx),by show(0:Nat)<=100;omega,by show-1000<=(0:Int)/\(0:Int)<=1000;omega⟩
theorem adb{K:Nat}{w:World}{r:Rd}{N:Int}(h:fG n K w)(hr:dN N r)(hN:N<=800000000000)(hn:2^42<=n):Ok (HO n r w) λx=>pS x.1/\dN (N+200) x.2:=by
 have U:=h.c.b.net;have Y:=h.c.b.gU;have ab:=h.r.l;have ev:∀{k a:Int}{b:Bool}{c:Int}{j:Rd},(0<=c/\c<=1000)->dN (N+50) j->pS ((Event.mk k a c b (cY.mk [] [] 0),j)).1/\dN (N+200) ((Event.mk k a c b (cY.mk [] [] 0),j)).2:=λhc y=>⟨⟨hc,WC⟩,y.mono (by omega)⟩;have D:∀j,dN (N+10) j->Ok (ck (cO n j 9) λx2=>ck (sK n x2.2 w.e9.net w.e9.gU) λx3=>some (Event.mk 1 (cw .i64 1 x2.1) 0 false x3.1,x3.2)) λx=>pS x.1/\dN (N+200) x.2:=λj y=>
  ef y (by omega) (by omega) λa E _ _ A=>c8 (abg U Y A (by omega) (by omega)) λt ht=>cF ⟨⟨by show(0:Int)<=0/\(0:Int)<=1000;omega,ht.1⟩,ht.2.mono (by omega)⟩
 have F:∀j,dN (N+10) j->Ok (ck (cO n j 5) λx4=>ck (cO n x4.2 9) λx5=>some (Event.mk 2 (cw .i64 10 x4.1) (cw .i64 1 x5.1) false (cY.mk [] [] 0),x5.2)) λx=>pS x.1/\dN (N+200) x.2:=λj y=>
  ef y (by omega) (by omega) λa E _ _ A=>ef A (by omega) (by omega) λb r2 b0 b1 C=>cF (ev (by rw[iY (by omega) (by omega) (by omega) (by omega)];omega) (C.mono (by omega)))
 have H:∀(k:Int)j,dN (N+10) j->Ok (some (Event.mk 4 k 0 false (cY.mk [] [] 0),j)) λx=>pS x.1/\dN (N+200) x.2:=λk j y=>cF (ev (by omega) (y.mono (by omega)));have I:∀(k:Int)j,dN (N+10) j->Ok (ck (cO n j 3) λx6=>some (Event.mk k x6.1 0 false (cY.mk [] [] 0),x6.2)) λx=>pS x.1/\dN (N+200) x.2:=λk j y=>
  ef y (by omega) (by omega) λa E _ _ A=>cF (ev (by omega) (A.mono (by omega)))
 have J:∀j,dN (N+10) j->Ok (ck (cO n j 3) λx7=>ck (cO n x7.2 90) λZ=>ck (cO n Z.2 4) λx9=>ck (cm [0,Z.1,300,5] x9.1) λad=>ck (cm [0,Z.1,300,5] x9.1) λaa=>some (Event.mk 6 x7.1 aa false (cY.mk [] [] 0),x9.2)) λx=>pS x.1/\dN (N+200) x.2:=λj y=>
  ef y (by omega) (by omega) λa E _ _ A=>ef A (by omega) (by omega) λb r2 b0 b1 C=>ef C (by omega) (by omega) λc r3 c0 c1 e=>iI c0 (by simp;omega) λu _ _=>iI c0 (by simp;omega) λv hv _=>cF (ev (by
   simp only[eo,mH,mI] at hv
   omega) (e.mono (by omega)))
 have M:∀(k:Int)j,dN (N+10) j->Ok (ck (cO n j 8) λP=>some (Event.mk 3 k 0 (cp P.1 0) (cY.mk [] [] 0),P.2)) λx=>pS x.1/\dN (N+200) x.2:=λk j y=>
  ef y (by omega) (by omega) λa E _ _ A=>cF (ev (by omega) (A.mono (by omega)))
 unfold HO;refine dY (λS=>?_) λ_=>?_
 ·refine ef hr (by omega) S λk E _ _ A=>ef A (by omega) (by omega) λb r2 _ _ C=>?_;have e:dN (N+10) r2:=C.mono (by omega);dsimp only
  repeat' (first|exact D _ e|exact F _ e|exact H _ _ e|exact I _ _ e|exact J _ e|exact M _ _ e|refine dR (λ_=>?_) λ_=>?_)
 ·refine ef hr (by omega) (by omega) λb r2 _ _ C=>?_;have e:dN (N+10) r2:=C.mono (by omega);dsimp only
  repeat' (first|exact D _ e|exact F _ e|exact H _ _ e|exact I _ _ e|exact J _ e|exact M _ _ e|refine dR (λ_=>?_) λ_=>?_)
end
end
section
section
variable{n:Nat}{R:Type}{Q:R->Prop}
theorem iM.z{K:Nat}{s:cS}(h:iM K s)(j:K<=15000):xC s:=⟨by have:=h.b6;omega,λl a=>(h.b.2 l a).z,by have:=h.lg;omega,h.l.1,λl a=>(h.l.2 l a).r,by have:=h.tl;omega,λt e=>by have:=(nP (h.t.t t e).2).2;omega⟩
theorem iM.Xb{K:Nat}{s:cS}(h:iM K s)(a:K<=15000):Good s:=⟨h.z a,h.g⟩
theorem abu{K:Nat}{c:dD}(h:gz n K c)(e:K<=10000)(a:2^41<=n):IJ n c=some c:=by
 have u:=h.b.net.b;have x:=h.b.mB;have y:=h.b.gU.l;unfold IJ;rw[yA (by omega) (λl j=>(h.b.net.l l j).z) a,cu,fH (by simp;omega) (by omega),cu,fH (by simp;omega) (by omega),cu,DP (by have:=h.tl;omega) h.t e a,cu];rfl
theorem ZL{l:List cR}(h:fT 60 l)(x:2^41<=n):Hh n l=some l:=by
 have y:=h.l;unfold Hh;have:=J2 (xs:=l) (f:=λt:cR=>t) (by omega) (L:=λm a i=>Af n m l a i λe=>some e) (k:=λa=>some a) (λm a u=>by
  rw[Af,th (by rw[cP];omega),cN]) (λm i a j u=>by
  have A:=(h.m _ (dG j)).o
  rw[Af,xa (by rw[cP];omega),cL,dt j,cu,fH (by simp;omega) (by omega),cu,fH (by simp;omega) (by omega),cu]
  simp only[ic]) (m:=n) (by omega);rw[this,List.map_id']
theorem abv{K:Nat}{w:World}(h:fG n K w)(A:K<=10000)(u:2^41<=n):Ok (IK n w) (fG n K):=by
 have C:=h.s2;have D:=h.t;unfold IK;rw[abu h.c A u,cu,ZL h.r u,cu];refine eU (by simp;omega) (by omega) ?_;rw[ic];refine jl (N:=w.eI.length) (by omega) (λm(x:World)i=>AH n m i w x _) (λi x=>gz n K x.e9/\x.eI.length=i/\(∀s∈x.eI,iM K s)/\fT 60 x.ga/\x.told.length<=40000*(K+1)) (m:=n) (by omega) ⟨h.c,rfl,λs e=>(by cases e),h.r,D⟩ (λm x a=>?_) λm i x y a E=>?_
 ·rw[AH];exact iO (by rw[cP];omega) (cF ⟨a.1,by omega,a.2.2.1,a.2.2.2.1,a.2.2.2.2⟩)
 ·rw[AH];refine jm (by rw[cP];omega) ?_;have j:=h.s _ (dG y);rw[dt y,cu,I0 (j.z (by omega)) u,cu,dE (by omega)];refine eU (by simp;omega) (by omega) (E _ ⟨a.1,by show(x.eI++[_]).length=i+1;simp;omega,λs e=>?_,a.2.2.2.1,a.2.2.2.2⟩);rcases eB.1 e with e|e
  ·exact a.2.2.1 s e
  ·rw[fM] at e;rw[e];exact j
theorem Sy{j:List Event}{x:Int}{w:World}{r:Rd}{K:List Event->Int->List Event->World->Rd->Option (List Event×World×Rd)}{Q:List Event×World×Rd->Prop}(y:∀l,(∀e∈l,pS e)->l.length<=10->Ok (K j x l w r) Q):∀(m c:Nat)(l:List Event),c<m->c+l.length<=10->(∀e∈l,pS e)->Ok (Du n m j x l c w r K) Q
 |0,c,l,A,C,u=>by omega
 |m+1,c,l,A,C,u=>by
  rw[Du];refine dY (λD=>?_) λD=>y l u (by omega);refine eU (by simp;omega) (by omega) ?_;rw[show cQ .i64 (c:Int) 1=((c-1:Nat):Int) by rw[ij];omega];refine Sy y m (c-1) _ (by omega) (by simp;omega) λe a=>?_;rcases eB.1 a with a|a
  ·exact u e a
  ·rw[fM] at a;rw[a];exact⟨by show(0:Int)<=0/\(0:Int)<=1000;omega,WC⟩
theorem Sz(H:2^42<=n){K:List Event->World->Rd->Option (List Event×World×Rd)}{Q:List Event×World×Rd->Prop}(Y:∀j w r,fG n 2000 w->dN 400000 r->Ok (K j w r) Q):∀(m c:Nat)(j:List Event)(w:World)(r:Rd),c<m->c<=50->j.length<=20*(50-c)->fG n (20*(50-c)) w->dN (300001+300*(50-c)) r->Ok (xY n m j c w r K) Q
 |0,c,j,w,r,Z,h2,h3,F,I=>by omega
 |m+1,c,j,w,r,Z,h2,h3,F,I=>by
  rw[xY];have D:∀(u:List Event)(y:Rd),dN (300001+300*(50-c)+250) y->Ok (K u w y) Q:=λu y A=>Y u w y (F.mono (by omega)) (A.mono (by omega));refine dY (λhc=>?_) λhc=>D j r (I.mono (by omega));have ec:cQ .i64 (c:Int) 1=((c-1:Nat):Int):=by rw[ij];omega
  refine c8 (adb F I (by omega) H) λe J=>ef J.2 (by omega) (by omega) λa r1 _ _ E=>?_;have next:∀(l:List Event)(y:Rd),(∀e∈l,pS e)->l.length<=10->dN (300001+300*(50-c)+250) y->Ok (cond (cA 120 (cw .i64 (cz j) (cz l))) (K j w y) (ck (cT 80 j l) λM=>ck (Bx n w l) λN=>xY n m M (cQ .i64 (c:Int) 1) N y K)) Q:=λl y P C A=>by
   refine dR (λ_=>D j y A) λ_=>eU (by omega) (by omega) (c8 (aeF F P C (by omega) H) λw' S=>?_)
   rw[ec]
   exact Sz H Y m (c-1) _ w' y (by omega) (by omega) (by simp;omega) (S.mono (by omega)) (A.mono (by omega))
  refine ok_eq (λ_=>?_) λ_=>?_
  ·refine ef E (by omega) (by omega) λb r2 b0 b1 U=>?_;obtain⟨b,rfl⟩:=gD b0;dsimp only;rw[show cw .i64 1 (b:Int)=((1+b:Nat):Int) by rw[iY (by omega) (by omega) (by omega) (by omega)];omega];refine Sy (λl P C=>next l r2 P C (U.mono (by omega))) n (1+b) _ (by omega) (by simp;omega) λx hx=>?_;rw[fM] at hx;rw[hx];exact J.1
  ·exact next [e.1] r1 (λx hx=>by rw[fM] at hx;rw[hx];exact J.1) (by simp) (E.mono (by omega))
theorem aag{r:Rd}(e:dN 0 r)(A:2^42<=n):Ok (HR n r) λx=>fG n 2000 x.1/\dN 400000 x.2:=by
 unfold HR;refine c8 (ada e A) λx hx=>c8 (P:=λy=>fG n 2000 y.2.1/\dN 400000 y.2.2) ?_ λy j=>cF j;unfold Mx;refine ef hx.2 (by omega) (by omega) λa C D H u=>?_;obtain⟨a,rfl⟩:=gD D;refine Sz A (λE w r F e=>?_) n a [] x.1 C (by omega) (by omega) (by simp) (hx.1.mono (by omega)) (u.mono (by omega));exact c8 (abv F (by omega) (by omega)) λy j=>cF ⟨j,e⟩
theorem aah{r:Rd}(j:dN 0 r)(u:2^42<=n):Ok (HS n r) λx=>iM 2000 x.1/\dN 400001 x.2:=by
 unfold HS;refine c8 (aag j u) λx hx=>?_;have y:=hx.1.s2;refine ef hx.2 (by omega) (by rw[cP];omega) λa E A C e=>iI A (by rw[cP] at C;omega) λs D _=>cF ⟨hx.1.s s D,e⟩
theorem Q1{l:cE}{r:Rd}{N:Int}(h:gP l)(J:dN N r)(U:N<=1000000)(Y:2^41<=n):Ok (Dv n r l) λx=>rY x.1/\dN (N+10) x.2:=by
 have A:=h.r;have M:=h.z;have Z:=h.cap;have h3:=h.l3;have P:=h.s3;have hb:=h.b;have h6:=h.h6;unfold Dv;rw[Fv M,cu];refine ef J (by omega) (by omega) λa r1 _ _ y=>ok_eq (λ_=>?_) λ_=>ok_eq (λ_=>?_) λ_=>ok_eq (λ_=>?_) λ_=>ok_eq (λ_=>?_) λ_=>ok_eq (λ_=>?_) λ_=>ok_eq (λ_=>?_) λ_=>ok_eq (λ_=>?_) λ_=>ok_eq (λ_=>?_) λ_=>?_
 ·refine CO y (by omega) (by simp) λs E F j=>cF ⟨{A with n1:=?_,b1:=?_},j.mono (by omega)⟩
  ·show s.length<=100;simp only[eo,mH,mI] at F;rcases F with rfl|rfl|rfl<;>decide
  ·show(32:UInt8)∉s;simp only[eo,mH,mI] at F;rcases F with rfl|rfl|rfl<;>decide
 ·exact cF ⟨{A with n3:=A.n2,b3:=A.b2},y.mono (by omega)⟩
 ·exact cF ⟨{A with i2:=A.i1},y.mono (by omega)⟩
 ·refine ef y (by omega) (by omega) λb E D b1 j=>iI D (by simp;omega) λu _ _=>iI D (by simp;omega) λv _ _=>cF ⟨{A with},j.mono (by omega)⟩
 ·refine ef y (by omega) (by omega) λb E D b1 j=>ef j (by omega) (by omega) λd I d0 d1 C=>iI D (by omega) λu _ _=>iI D (by omega) λv _ _=>cF ⟨{A with z1:=?_,i4:=?_},C.mono (by omega)⟩
  ·show(db _ _ _).length<=1000;rw[lq];omega
  ·intro x hx;rcases sQ hx with hx|rfl
   ·exact A.i4 x hx
   ·rw[lJ (by omega) (by omega) (by omega) (by omega)];unfold In;omega
 ·refine ef y (by omega) (by omega) λb E D b1 j=>ef j (by omega) (by omega) λd I d0 d1 C=>iI D (by omega) λu _ _=>iI D (by omega) λv _ _=>cF ⟨{A with z2:=?_,i5:=?_},C.mono (by omega)⟩
  ·show(db _ _ _).length<=1000;rw[lq];omega
  ·intro x hx;rcases sQ hx with hx|rfl
   ·exact A.i5 x hx
   ·rw[lJ (by omega) (by omega) (by omega) (by omega)];unfold In;omega
 ·refine ef y (by omega) (by omega) λb E D b1 j=>eU (by simp;omega) (by omega) (cF ⟨{A with z3:=?_,i6:=?_},j.mono (by omega)⟩)
  ·show(l.eu++[_]).length<=1000;simp;omega
  ·intro x hx;rcases eB.1 hx with hx|hx
   ·exact A.i6 x hx
   ·rw[fM] at hx;rw[hx];show In (cQ .i64 b 1);rw[lJ (by omega) (by omega) (by omega) (by omega)];unfold In;omega
 ·refine ef y (by omega) (by omega) λb E D b1 j=>ef j (by omega) (by omega) λd I d0 d1 C=>ef C (by omega) (by omega) λe r4 e0 e1 H=>eU (by simp;omega) (by omega) (cF ⟨{A with z4:=?_},H.mono (by omega)⟩);show(l.holds++[_]).length<=1000;simp;omega
 ·have S:dJ (kr 1 (cz l.dy) (cz l.dy))=some ():=by
    unfold kr
    rw[cP,gu (by omega)];rfl
  rw[S,cu];refine w5 (by omega) (by rw[cP];omega) (by rw[cP];omega) (cF ⟨{A with z1:=?_,i4:=?_},y.mono (by omega)⟩)
  ·show(List.take _ (List.drop _ _)).length<=1000;rw[kh,mF];omega
  ·intro x hx;exact A.i4 x (Dz hx)
end
end
section
section
variable{n:Nat}{R:Type}{Q:R->Prop}
def spoilt:List cq:=[[120],[80,32,53,32,108,97,58,48,58,49,58,53,48,48],[67,32,57],[65,32,49],[67,32,49]]
theorem ade{r:cq}(h:r∈spoilt):zn r/\r.length<=100:=by
 simp only[spoilt,eo,mH,mI] at h;have j:∀{r:cq}{a b:cq},dr 32 r=[a,b]->zn r:=λe F H I x=>by rw[e] at x;cases x
 rcases h with rfl|rfl|rfl|rfl|rfl
 ·exact⟨(λa b c e=>by
   rw[show dr 32 [120]=[[120]] from rfl] at e
   cases e),by decide⟩
 ·refine⟨λa b c e=>?_,by decide⟩;rw[show dr 32 [80,32,53,32,108,97,58,48,58,49,58,53,48,48]=[[80],[53],[108,97,58,48,58,49,58,53,48,48]] from rfl] at e;injection e with _ e;injection e with _ e;injection e with e _;subst e;have y:itoa 0=[48]:=by rw[show(0:Int)=((0:Nat):Int) from rfl,nh,oH (by omega)];rfl
  have A:itoa 1=[49]:=by rw[show(1:Int)=((1:Nat):Int) from rfl,nh,oH (by omega)];rfl
  have C:itoa 500=[53,48,48]:=by rw[show(500:Int)=((500:Nat):Int) from rfl,nh,rH (by omega),rH (by omega),oH (by omega)];rfl
  have D:([108,97,58,48,58,49,58,53,48,48]:cq)=gG [⟨[108,97],0,1,500⟩]:=by
   simp[gG,jV,eQ,y,A,C]
  rw[D];have E:iS [⟨[108,97],0,1,500⟩]=true:=by decide
  exact RC (by rw[Sg E (λo u=>by rw[fM] at u;rw[u];decide)])
 ·exact⟨j (show dr 32 [67,32,57]=[[67],[57]] from rfl),by decide⟩
 ·exact⟨j (show dr 32 [65,32,49]=[[65],[49]] from rfl),by decide⟩
 ·exact⟨j (show dr 32 [67,32,49]=[[67],[49]] from rfl),by decide⟩
theorem Zf{K:Nat}{s:cS}{r:Rd}{N:Int}(h:iM K s)(hK:K<=10000)(U:dN N r)(hN:N<=900000)(H:2^41<=n):Ok (He n r s) λx=>Good x.1/\dN (N+20) x.2:=by
 have e:=h.z (show K<=15000 by omega);have I:=h.lg;have A:∀(a:Int)(b:Bool),Good {s with id:=a,up:=b}:=λa b=>⟨⟨e.bl,e.bz,e.lg,e.ll,e.lr,e.tl,e.tz⟩,h.g⟩;have self:Good s:=⟨e,h.g⟩;unfold He;rw[I0 e H,cu];refine ef U (by omega) (by omega) λa r1 _ _ j=>ok_eq (λ_=>?_) λ_=>ok_eq (λ_=>?_) λ_=>ok_eq (λ_=>?_) λ_=>ok_eq (λ_=>?_) λ_=>ok_eq (λ_=>?_) λ_=>ok_eq (λ_=>?_) λ_=>?_
 ·exact ef j (by omega) (by omega) λb S _ _ y=>cF ⟨A _ _,y.mono (by omega)⟩
 ·have Y:0<=(s.log.length:Int)/2:=Dd (by omega) (by omega);have Z:(s.log.length:Int)/2<=s.log.length:=G9 _ (by omega);rw[fV];refine s6 (by omega) (by omega) (by omega) (Pn (by omega) Y Z (cF ⟨⟨⟨e.bl,e.bz,?_,e.ll,e.lr,e.tl,e.tz⟩,?_⟩,j.mono (by omega)⟩))
  ·show(List.take _ (List.drop _ _)).length<_;rw[kh,mF];omega
  ·exact M8 (Y5 _ _) (show s.log.length<1000000 by omega) h.g
 ·refine CO (list:=spoilt) j (by omega) (by decide) λq S hq y=>?_;obtain⟨J,aa⟩:=ade hq;refine c8 (P:=λx=>x.1.length<=9000/\pW x.1) (Gj (M1 (by omega) (show q.length<2^28 by omega) H) ?_) λx hx=>cF ⟨⟨⟨e.bl,e.bz,by show x.1.length<_;omega,e.ll,e.lr,e.tl,e.tz⟩,hx.2⟩,y.mono (by omega)⟩;cases ha:tF s.log q with
  |none=>exact⟨I,h.g⟩
  |some x=>
   obtain⟨a1,a2,a3⟩:=So (by omega) (by omega) ha;refine⟨a1,?_⟩;show pW x;unfold pW;rw[a3];intro p E;rcases eB.1 E with E|E
   ·exact h.g p E
   ·rw[fM] at E;rw[E];exact J
 ·exact cF ⟨A _ _,j.mono (by omega)⟩
 ·refine dY (λF=>?_) λ_=>cF ⟨self,j.mono (by omega)⟩;rw[cP] at F;have C:0<s.legs.length:=by omega
  have D:=dt C;rw[show((0:Nat):Int)=0 from rfl] at D;simp only[D,cu];refine c8 (Q1 (h.l.2 _ (dG C)) j (by omega) H) λx hx=>cF ⟨⟨⟨e.bl,e.bz,e.lg,by show(db _ _ _).length<=_;rw[lq];exact e.ll,λl u=>?_,e.tl,e.tz⟩,h.g⟩,hx.2.mono (by omega)⟩;rcases sQ u with u|rfl
  ·exact e.lr l u
  ·exact hx.1
 ·refine dY (λF=>?_) λ_=>cF ⟨self,j.mono (by omega)⟩;rw[cP] at F;have C:0<s.cB.length:=by omega
  have D:=dt C;rw[show((0:Nat):Int)=0 from rfl] at D;refine ef j (by omega) (by omega) λb S _ _ y=>?_;simp only[D,cu];refine cF ⟨⟨⟨e.bl,e.bz,e.lg,e.ll,e.lr,by show(db _ _ _).length<=_;rw[lq];exact e.tl,λt M=>?_⟩,h.g⟩,y.mono (by omega)⟩;rcases sQ M with M|rfl
  ·exact e.tz t M
  ·have:=e.tz _ (dG C);exact this
 ·refine dY (λF=>?_) λ_=>cF ⟨self,j.mono (by omega)⟩;rw[cP] at F;have C:0<s.base.length:=by omega
  have D:=dt C;rw[show((0:Nat):Int)=0 from rfl] at D;simp only[D,cu];refine c8 (Q1 (h.b.2 _ (dG C)) j (by omega) H) λx hx=>cF ⟨⟨⟨by show(db _ _ _).length<=_;rw[lq];exact e.bl,λl u=>?_,e.lg,e.ll,e.lr,e.tl,e.tz⟩,h.g⟩,hx.2.mono (by omega)⟩;rcases sQ u with u|rfl
  ·exact e.bz l u
  ·exact hx.1.toph
def CB(code:List Int):Prop:=∀x∈code,0<=x/\x<256
theorem aeH{code:List Int}(h:CB code)(e:code.length<2^62):Ok (EY n code) (dN 0):=by
 unfold EY;refine dY (λa=>?_) λa=>?_
 ·rw[cP] at a;refine w5 (by omega) (by omega) (by omega) (cF ⟨λx hx=>h x (Dz hx),?_,by show(0:Int)<=0;omega,by show(0:Int)<=0;omega⟩);show(List.take _ (List.drop _ _)).length<=2000;rw[kh];omega
 ·rw[cP] at a;exact cF ⟨h,by show code.length<=2000;omega,by show(0:Int)<=0;omega,by show(0:Int)<=0;omega⟩
theorem afE{r:Rd}(u:dN 0 r)(A:2^42<=n):Ok (Dw n r) λx=>Good x.1/\dN 500000 x.2:=by
 unfold Dw;refine c8 (aah u A) λx hx=>ef hx.2 (by omega) (by omega) λa C _ _ e=>ok_eq (λ_=>?_) λ_=>cF ⟨hx.1.Xb (by omega),e.mono (by omega)⟩;exact c8 (Zf hx.1 (by omega) e (by omega) (by omega)) λy j=>cF ⟨j.1,j.2.mono (by omega)⟩
theorem agA{s:cS}(A:Good s)(h:pB s):iM 0 s:=by
 have j:=acS h;obtain⟨F,C,D,y,E,a⟩:=h;have e:=Bz C;have H:=rB (s:=s.log) (by omega);refine⟨e.1,e.2.1,j.1,D,A.g,j.2,?_⟩
 by_cases u:s.up=true
 ·rw[cJ u] at a;obtain⟨_,_,x,_⟩:=Cm (l:=y.1) (t:=y.2) e.1 tV E;rw[<-a.2.2] at x;simp at x;omega
 ·rw[cK u] at a;rw[a.2];simp
theorem adf:Good (cS.mk 0 [] [] false [] []):=⟨⟨by show(0:Nat)<=_;omega,λl a=>(by cases a),by show(0:Nat)<_;omega,by show(0:Nat)<=_;omega,λl a=>(by cases a),by show(0:Nat)<=_;omega,λt e=>by cases e⟩,O5⟩
theorem adg{s:cS}(a:Good s)(y:2^42<=n):Ok (Hq n s (cR.mk 0 0 0 0 [] false) 0) Good:=by
 unfold Hq;refine c8 (Rv a.z (by omega)) λb e=>dS (dR (λj=>?_) λ_=>cF adf);have u:=agA a (e.1 j);refine c8 (RD u K8 (by omega) (by omega) (by omega)) λx hx=>?_;rw[I0 (hx.z (by omega)) (by omega),cu];exact cF (hx.Xb (by omega))
theorem adh{code:List Int}(h:CB code)(j:code.length<2^62)(e:2^42<=n):Ok (Dj n code) Good:=by
 unfold Dj;refine c8 (aeH h j) λr u=>c8 (afE u e) λx hx=>ef hx.2 (by omega) (by omega) λa D _ _ A=>ok_eq (λ_=>?_) λ_=>cF hx.1;exact c8 (adg hx.1 e) λy C=>cF C
theorem abw{code:List Int}(h:CB code)(a:code.length<2^62)(j:2^42<=n):Dy n code=some true:=by
 obtain⟨s,e,u⟩:=adh h a j;exact acU e u (by omega)
end
end
end Go.Ev
