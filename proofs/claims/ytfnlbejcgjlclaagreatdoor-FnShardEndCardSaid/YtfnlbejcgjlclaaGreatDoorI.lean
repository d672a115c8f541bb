/- What is drawn is good, and the law answers true of it. -/
import Derived.Test.YtfnlbejcgjlclaaGreatDoorH
set_option linter.all false
namespace Go.Ev
open Go Go.Lib
section
section
variable{n:Nat}{R:Type}{Q:R->Prop}
def jV{p:Prop}[Decidable p]{x y:Option R}(a:p->Ok x Q)(e:¬ p->Ok y Q):Ok (cond (decide p) x y) Q:=ef (λh=>a (fG h)) λh=>e (of_decide_eq_false h)
def Ou{a:Int}(e:-9000000000000000000<=a)(j:a<=9000000000000000000):gG .i64 a=-a:=by
 unfold gG;rw[IntKind.wrap_i64];omega
def aa4(x:Int):nM n x=some (decide (In x)):=by
 unfold nM;rw[sk,cw]
def kD{x:Int}{a b:Int}{f:Bool->Option R}(h:Ok (f (decide (a<=x/\x<=b))) Q):Ok (ck (dC n x a b) f) Q:=by
 rw[sk];exact h
def De{x:Int}{f:Bool->Option R}(h:Ok (f (decide (In x))) Q):Ok (ck (nM n x) f) Q:=by
 rw[aa4];exact h
def V7{x d:Int}(hx:0<=x/\x<2^62)(a:0<d/\d<=1000000):Ok (FJ n x d) λ_=>True:=by
 unfold FJ;refine tN a.1 hx.1 hx.2 (tO a.1 hx.1 (eu (λ_=>cH trivial) λ_=>dr (λ_=>?_) λ_=>cH trivial));exact tO (by omega) (DP hx.1 (by omega)) (dr (λ_=>cH trivial) λ_=>cH trivial)
def n6(x:Int×Int):Prop:=In x.1
def sZ:In 0:=by omega
def uC{e:Int}:n6 (0,e):=sZ
def adT{a b c:Int}(D:In a):Ok (JK n a b c) n6:=by
 unfold JK MN;refine dr (λ_=>cH uC) λ_=>?_;refine dq (P:=λx=>In x.1) ?_ λx hx=>eg (ef (λ_=>cH hx) λ_=>cH uC);refine De (eg (jV (λ_=>?_) λ_=>cH sZ));refine kD (eg (jV (λe=>?_) λ_=>cH sZ));refine kD (eg (jV (λE=>?_) λ_=>cH sZ));refine eu (λu=>?_) λu=>?_
 ·rw[Ou (by omega) (by omega)];have A:0<=-a*b:=HM (by omega) e.1;have C:-a*b<=1000000000000*1000000:=ZX (by omega) e.2 e.1 (by omega);rw[ny (by omega)];refine dq (V7 (by omega) (by omega)) λy _=>De (eg (jV (λj=>cH j) λ_=>cH sZ))
 ·have A:0<=a*b:=HM u e.1;have C:a*b<=1000000000000*1000000:=ZX (by omega) e.2 e.1 (by omega);rw[ny (by omega)];refine dq (V7 (by omega) (by omega)) λy _=>De (eg (jV (λj=>cH j) λ_=>cH sZ))
def X1{x y T:Int}(hx:0<x)(h:y<=T/x):x*y<=T:=by
 have a:x*y<=x*(T/x):=Q5 h (by omega);have e:x*(T/x)<=T:=Int.mul_ediv_self_le (by omega);omega
def LA{a b x y:Int}(e:0<x)(u:x<=1000000000000)(A:a*b=x*y\/a*b=-(x*y))(j:0<=y):Ok (ck (jT .i64 1000000000000 x) λq=>cond (cC q y) (some (0,2)) (some (eM .i64 a b,(0:Int)))) n6:=by
 refine tN e (by omega) (by omega) (eu (λ_=>cH uC) λh=>cH ?_);have C:=X1 e h;have D:0<=x*y:=HM (by omega) j;show In _;rw[ny (by omega)];omega
def LB{a b:Int}(h:a=0):Ok (some (eM .i64 a b,(0:Int))) n6:=cH (by
 subst h
 show In _
 have:(0:Int)*b=0:=Int.zero_mul b
 rw[ny (by omega),this]
 omega)
def afm{a b:Int}(x:In a)(y:In b):Ok (Kg n a b) n6:=by
 unfold Kg;rw[Ou (a:=a) (by omega) (by omega),Ou (a:=b) (by omega) (by omega)];refine eu (λu=>eu (λj=>?_) λj=>?_) λu=>eu (λj=>?_) λj=>?_
 ·exact eu (λe=>LA e (by omega) (.inl (Int.neg_mul_neg a b).symm) (by omega)) λe=>LB (by omega)
 ·exact eu (λe=>LA e (by omega) (.inr (by rw[Int.neg_mul,Int.neg_neg])) (by omega)) λe=>LB (by omega)
 ·exact eu (λe=>LA e (by omega) (.inr (by rw[Int.mul_neg,Int.neg_neg])) (by omega)) λe=>LB (by omega)
 ·exact eu (λe=>LA e (by omega) (.inl rfl) (by omega)) λe=>LB (by omega)
def afn{j a b:Int}(u:In a)(A:In b):Ok (Kh n j a b) n6:=by
 have e:∀x:Int,Ok (ck (nM n x) λy=>cond (cF y) (some (0,2)) (some (x,(0:Int)))) n6:=λx=>De (eg (jV (λh=>cH h) λ_=>cH uC));unfold Kh;refine dr (λ_=>e _) λ_=>dr (λ_=>e _) λ_=>dr (λ_=>dq (afm u A) λy C=>cH C) λ_=>dr (λ_=>?_) λ_=>?_
 ·exact eu (λ_=>e _) λ_=>e _
 ·exact eu (λ_=>e _) λ_=>e _
def UN{a:List Mark}(h:xq a=true){i:Nat}(j:i<a.length):cm a (i:Int)=some (gM a i)/\(0<=(gM a i).cL/\(gM a i).cL<=1000000000)/\0<=(gM a i).en/\(gM a i).en<=1000000:=by
 have e:gM a i=a[i]:=by rw[gM,iT,eN j];rfl
 exact⟨eP j _,by rw[e];exact(EU h).1 _ (dM j)⟩
def ab7{x:Int}{e:List Mark}(hx:0<=x/\x<=1000000000000)(h:xq e=true)(hn:2^41<=n):Ok (Nu n x e) n6:=by
 have hl:=(EU h).2.2;have I:∀m i:Nat,∀A:Int,i<=e.length->e.length<m+i->0<=A->A<=1000000000000->Ok (mV n m x e A i λj=>some (j,0)) n6:=by
  intro m
  induction m with
  |zero=>intro i s M N;omega
  |succ m P=>
   intro i s M N S U
   rw[mV]
   refine eu (λJ=>?_) λJ=>cH (by show In _;omega)
   rw[cW] at J
   obtain⟨Y,b1,Z⟩:=UN h (show i<e.length by omega)
   have next:∀E,0<=E->E<=1000000000000->Ok (mV n m x e E ((i+1:Nat):Int) λj=>some (j,0)) n6:=λE D g2=>P (i+1) E (by omega) (by omega) D g2
   have F:∀d:Int,0<=d->d<=1000000000000->(0<(gM e i).en->d<=1000000000000/(gM e i).en)->Ok (cond (cC 1000000000000 (cz .i64 s (eM .i64 d (gM e i).en))) (some (0,2)) (mV n m x e (cz .i64 s (eM .i64 d (gM e i).en)) ((i+1:Nat):Int) λj=>some (j,0))) n6:=λd D g2 g3=>by
    have aa:0<=d*(gM e i).en:=HM D Z.1
    have ab:d*(gM e i).en<=1000000000000:=by
     by_cases c:0<(gM e i).en
     ·have:=X1 c (g3 c);rwa[Int.mul_comm] at this
     ·have:(gM e i).en=0:=by omega
      rw[this,Int.mul_zero];omega
    rw[ny (by omega),jb (by omega) (by omega) (by omega) (by omega)];exact eu (λ_=>cH uC) λ_=>next _ (by omega) (by omega)
   have y:∀d:Int,0<=d->d<=1000000000000->Ok (cond (cC 0 (gM e i).en) (ck (jT .i64 1000000000000 (gM e i).en) λq=>cond (cC q d) (some (0,2)) (cond (cC 1000000000000 (cz .i64 s (eM .i64 d (gM e i).en))) (some (0,2)) (mV n m x e (cz .i64 s (eM .i64 d (gM e i).en)) ((i+1:Nat):Int) λj=>some (j,0)))) (cond (cC 1000000000000 (cz .i64 s (eM .i64 d (gM e i).en))) (some (0,2)) (mV n m x e (cz .i64 s (eM .i64 d (gM e i).en)) ((i+1:Nat):Int) λj=>some (j,0)))) n6:=λd D g2=>
    eu (λc=>tN c (by omega) (by omega) (eu (λ_=>cH uC) λg=>F d D g2 λ_=>g)) λc=>F d D g2 λc'=>by omega
   have u:Ok (cond (cC 1000000000000 s) (some (0,2)) (mV n m x e s ((i+1:Nat):Int) λj=>some (j,0))) n6:=eu (λ_=>cH uC) λ_=>next s S U
   have C:∀a b:Int,0<=a->a<=1000000000000->0<=b->b<=1000000000000->cX .i64 a b=a-b:=λa b _ _ _ _=>mb (by omega) (by omega) (by omega) (by omega);simp only[Y,cw,dO (show i<2^31 by omega)];refine eu (λH=>?_) λH=>?_
   ·rw[cW] at H;obtain⟨e2,c1,c2⟩:=UN h (show i+1<e.length by omega);simp only[e2,cw];refine eu (λg=>eu (λg2=>?_) λ_=>u) λ_=>eu (λg2=>?_) λ_=>u
    ·rw[C _ _ (by omega) (by omega) (by omega) (by omega)];exact y _ (by omega) (by omega)
    ·rw[C _ _ (by omega) (by omega) (by omega) (by omega)];exact y _ (by omega) (by omega)
   ·refine eu (λg2=>?_) λ_=>u;rw[C _ _ (by omega) (by omega) (by omega) (by omega)];exact y _ (by omega) (by omega)
 exact I n 0 0 (by omega) (by omega) (by omega) (by omega)
def K0(l:List mE):Prop:=l.length<=1000
def afo{a:List mE}{name:cq}(u:K0 a)(D:2^41<=n):Ok (OX n a name) n6:=by
 have u:a.length<=1000:=u;have j:∀m i:Nat,i<=a.length->a.length<m+i->Ok (Ez n m a name i (some (0,4))) n6:=by
  intro m
  induction m with
  |zero=>intro i y A;omega
  |succ m C=>
   intro i y A
   rw[Ez]
   refine eu (λx=>?_) λx=>cH uC
   rw[cW] at x
   have e:=dA (show i<a.length by omega)
   simp only[e,cw,dO (show i<2^31 by omega)]
   exact ef (λ_=>De (eg (jV (λh=>cH h) λ_=>cH uC))) λ_=>C (i+1) (by omega) (by omega)
 exact j n 0 (by omega) (by omega)
def jm(a:Int):Int×Int:=if a=1\/a=2 then(0,1) else if a=10 then(1,1) else if a=3\/a=4\/a=5\/a=7\/a=8 then(2,1) else if a=6 then(3,1) else if a=9 then(2,0) else if a=11 then(0,0) else(-1,0)
def UO(a:Int):E5 n a=some (jm a):=by
 unfold E5 jm;simp only[ez,ZK,dQ]
 by_cases u:a=1
 ·simp[u]
 by_cases x:a=2
 ·simp[x]
 by_cases e:a=10
 ·simp[e]
 by_cases y:a=3
 ·simp[y]
 by_cases A:a=4
 ·simp[A]
 by_cases C:a=5
 ·simp[C]
 by_cases D:a=7
 ·simp[D]
 by_cases E:a=8
 ·simp[E]
 by_cases F:a=6
 ·simp[F]
 by_cases H:a=9
 ·simp[H]
 by_cases j:a=11
 ·simp[j]
 simp[u,x,y,A,C,F,D,E,H,e,j]
end
end
section
section
variable{n:Nat}
structure LC(x:eI):Prop where
 nm:x.name.length<=1000
 rH:x.db.length<=10
def me(code:List eI):Prop:=∀x∈code,LC x
def me.app{a b:List eI}(e:me a)(j:me b):me (a++b):=λx hx=>(eJ.1 hx).elim (e x) (j x)
def me.one{x:eI}(h:LC x):me [x]:=λy a=>by rw[gf] at a;rw[a];exact h
def JW:∀(d n:Nat)(r:cn),2^41+d<=n->d<=6->mC d r->Ok (pw n r) λcode=>me code/\code.length<=11^d
 |0,n,r,hn,hd,h=>absurd h (by simp[mC])
 |d+1,n,r,hn,hd,h=>by
  obtain⟨n,rfl⟩:∃m,n=m+1:=⟨n-1,by omega⟩;have M:=mC.z _ _ h;obtain⟨N,P⟩:=h;have k4:=(wS r.op).1;have kl:r.cU.length<=4:=by have:=N.k;omega
  have ae:(11:Nat)^(d+1)=11*11^d:=by rw[uF];omega
  have af:1<=11^d:=Q6 _ _ (by omega);have ah:11^d<=11^6:=v8 (by omega) (by omega);have D:∀(c:Nat)(K:List eI->cn->Option (List eI))(Q:List eI->Prop),c<=r.cU.length->(∀code,me code->code.length<=11^d*c->Ok (K code r) Q)->∀m i:Nat,∀e:List eI,i<=c->c<m+i->me e->e.length<=11^d*i->Ok (BA n (pw n) m e c i r K) Q:=by
   intro c K Q hc hK m
   induction m with
   |zero=>intro i e u E;omega
   |succ m ih=>
    intro i e u E h3 h4
    have hm:11^d*i<=11^d*4:=DS _ (by omega)
    rw[BA]
    refine eu (λhi=>?_) λhi=>?_
    ·have F:i<r.cU.length:=by omega
     rw[dA F,cw,iD,iD,dO (by omega)];refine dq (JW d n r.cU[i] (by omega) (by omega) (P _ (dM F))) λy R=>?_;refine fc (by have:=R.2;omega) (by omega) ?_;exact ih (i+1) _ (by omega) (by omega) (h3.app R.1) (by rw[fg,Q4];have:=R.2;omega)
    ·rw[iD];have:i=c:=by omega
     subst this;exact hK e h3 h4
  rw[pw,iD];have one:∀{a b:Int},LC ⟨a,b,[],[]⟩:=⟨by show(0:Nat)<=1000;omega,by show(0:Nat)<=10;omega⟩;have A:∀code:List eI,me code->code.length<=11^d*4->Ok (ck (cZ 16 [] (cn.db r)) λS=>ck (cZ 56 code [eI.mk (cn.op r) (cn.num r) (cn.name r) S]) λU=>some U) λcode=>me code/\code.length<=11^(d+1):=λcode u E=>by
   have:=M.2.1
   have:=M.2.2.1
   refine fc (by simp;omega) (by omega) (fc (by simp;omega) (by omega) (cH ⟨u.app (me.one ⟨by assumption,by simpa using M.2.1⟩),by simp;omega⟩))
  have H:r.op=9->∀code:List eI,me code->code.length<=11^d*4->Ok (ck (cm (cn.cU r) 2) λI=>ck (pw n (cn.mk (cn.op I) (cn.num I) (cn.name I) (cn.cU I) (cn.db I))) λx9=>ck (cm (cn.cU r) 3) λj=>ck (pw n (cn.mk (cn.op j) (cn.num j) (cn.name j) (cn.cU j) (cn.db j))) λJ=>ck (cZ 56 code [eI.mk 9 (cz .i64 (cA x9) 1) [] []]) λY=>ck (cZ 56 Y x9) λZ=>ck (cZ 56 Z [eI.mk 11 (cA J) [] []]) λaa=>ck (cZ 56 aa J) λab=>some ab) λcode=>me code/\code.length<=11^(d+1):=λC code u E=>by
   have ad:r.cU.length=4:=by have:=N.k;rw[C,show qu 9=4 from rfl] at this;omega
   refine Lh (dA (i:=2) (by omega)) ?_
   rw[iD]
   refine dq (JW d n _ (by omega) (by omega) (P _ (dM (by omega)))) λa ha=>?_
   refine Lh (dA (i:=3) (by omega)) ?_
   rw[iD]
   refine dq (JW d n _ (by omega) (by omega) (P _ (dM (by omega)))) λb hb=>?_
   have:=ha.2
   have:=hb.2
   refine fc (by simp only[fg,gy,jP];omega) (by omega) (fc (by simp only[fg,gy,jP];omega) (by omega) (fc (by simp only[fg,gy,jP];omega) (by omega) (fc (by simp only[fg,gy,jP];omega) (by omega) (cH ⟨(((u.app (me.one one)).app ha.1).app (me.one one)).app hb.1,by simp only[fg,gy,jP];omega⟩))))
  refine dr (λC=>?_) λC=>?_
  ·have ad:r.cU.length=4:=by have:=N.k;rw[C,show qu 9=4 from rfl] at this;omega
   exact D 2 _ _ (by omega) (λcode u E=>dr (λ_=>H C code u (by omega)) λh=>absurd C h) n 0 [] (by omega) (by omega) (by intro x hx;cases hx) (by simp)
  ·rw[cW];refine D r.cU.length _ _ (by omega) (λcode u E=>dr (λh=>absurd h C) λ_=>?_) n 0 [] (by omega) (by omega) (by intro x hx;cases hx) (by simp);have:11^d*r.cU.length<=11^d*4:=DS _ (by omega);exact A code u (by omega)
end
end
section
section
variable{n:Nat}{R:Type}{Q:R->Prop}
def ahR{a b:Option R}(e:a=b)(h:Ok b Q):Ok a Q:=e ▸h
structure xt(x:eI)(at' len:Int):Prop where
 num:x.op=1->-1000000000<=x.num/\x.num<=1000000000
 jmp:x.op=9\/x.op=11->0<=x.num/\x.num<=len-at'-1
 rH:x.op=10->xq x.db=true
 nom:x.op≠10->x.db=[]
 nam:x.name.length<=8
def xt.m{x:eI}{a l:Int}(h:xt x a l):x.db.length<=5/\∀m∈x.db,(0<=m.cL/\m.cL<=1000000000)/\0<=m.en/\m.en<=1000000:=by
 by_cases c:x.op=10
 ·have:=EU (h.rH c);exact⟨this.2.2,this.1⟩
 ·rw[h.nom c];simp
def PL{x y:Int}{f:Bool->Prop}(h:x=y->f true)(a:x≠y->f false):Ok (some (cp x y)) f:=cH (by
 rw[ez]
 by_cases c:x=y
 ·rw[gF c];exact h c
 ·rw[gP c];exact a c)
def ab8{x:eI}{a len:Int}(I:LC x)(S:0<=a/\a<len/\len<=1000)(J:2^41<=n):Ok (I6 n x a len) λb=>b=true->xt x a len:=by
 have E:cA x.db=0->x.db=[]:=λh=>og.1 (by rw[cW] at h;omega);have u:∀{p:Prop},false=true->p:=λh=>(by cases h);have A:x.name=[]->x.name.length<=8:=λh=>by rw[h];simp
 have e:cX .i64 (cX .i64 len a) 1=len-a-1:=by rw[iE,iE];omega
 have U:=I.nm;have Y:=I.rH;have y:x.op≠10->x.op≠1->(x.op=9\/x.op=11->0<=x.num/\x.num<=len-a-1)->Ok (cond (dz x.name []) (some (cp (cA x.db) 0)) (some false)) λb=>b=true->xt x a len:=λj C h=>oJ (λD=>PL (λc _=>⟨λF=>absurd F C,h,λF=>absurd F j,λ_=>E c,A D⟩) λ_=>u) λ_=>cH u;unfold I6;rw[e];refine dr (λC=>kD (jV (λN=>oJ (λD=>PL (λc _=>⟨λ_=>N,λh=>by omega,λh=>by omega,λ_=>E c,A D⟩) λ_=>u) λ_=>cH u) λ_=>cH u)) λC=>?_;refine dr (λP=>dr (λ_=>?_) λ_=>cH u) λP=>?_
 ·rw[rY (by omega) J,cw];exact ef (λD=>PL (λc _=>⟨λh=>by omega,λh=>by omega,λh=>by omega,λ_=>E c,(lS D).2.2⟩) λ_=>u) λ_=>cH u
 refine dr (λj=>dr (λ_=>oJ (λD=>?_) λ_=>cH u) λ_=>cH u) λj=>?_
 ·rw[UJ (by omega) J,cw];exact cH λc=>⟨λh=>absurd h C,λh=>by omega,λ_=>c,λh=>absurd j h,A D⟩
 refine dr (λM=>dr (λ_=>kD (jV (λb=>y j C λ_=>b) λ_=>cH u)) λh=>absurd M h) λM=>?_;exact dr (λH=>kD (jV (λb=>y j C λ_=>b) λ_=>cH u)) λH=>dr (λ_=>y j C λh=>by omega) λ_=>cH u
abbrev gC(l:List eI)(i:Nat):eI:=l.getD i ⟨0,0,[],[]⟩
def Qd{l:List eI}{i:Nat}(h:i<l.length):cm l (i:Int)=some (gC l i):=eP h _
def ahp{l:List eI}{i:Nat}(h:i<l.length):gC l i=l[i]:=by
 rw[gC,iT,eN h];rfl
structure Xt(code:List eI)(H:List Int)(j:Nat):Prop where
 t:0<=(jm (gC code j).op).1
 p:xt (gC code j) j code.length
 s:0<=gI H j->(jm (gC code j).op).1<=gI H j/\((gC code j).op≠11->gI H (j+1)=gI H j-(jm (gC code j).op).1+(jm (gC code j).op).2)/\((gC code j).op=9\/(gC code j).op=11->gI H (j+1+(gC code j).num.toNat)=gI H j-(jm (gC code j).op).1+(jm (gC code j).op).2)
structure sK(code:List eI)(H:List Int)(i:Nat):Prop where
 len:H.length=code.length+1
 h0:gI H 0=0
 b:∀j,j<H.length->-1<=gI H j/\gI H j<=12
 s:∀j,j<i->Xt code H j
def zP{H:List Int}{p q:Nat}{v:Int}(a:p<H.length):gI (H.set p v) q=if q=p then v else gI H q:=by
 simp only[gI,iT,aiV]
 by_cases c:p=q
 ·subst c;simp[a]
 ·rw[cN c,cN (λh=>c h.symm)]
def Nc(a:Int):(jm a).1<=3/\0<=(jm a).2/\(jm a).2<=1:=by
 unfold jm;split
 ·simp
 split
 ·simp
 split
 ·simp
 split
 ·simp
 split
 ·simp
 split<;>simp
def UP{code:List eI}{H:List Int}{i p:Nat}{v:Int}(A:sK code H i)(F:i<code.length)(S:i<p)(I:p<=code.length)(U:0<=v/\v<=12):Ok (uU n H p v) λx=>x.1=true->sK code x.2 i/\gI x.2 p=v/\∀q,0<=gI H q->gI x.2 q=gI H q:=by
 have J:=A.len;have u:p<H.length:=by omega
 have e:=jr u;unfold uU;simp only[e,cw];refine nV (λh=>cH λM=>?_) λh=>cH λ_=>?_
 ·have D:gI H p=v:=by simpa[ez] using M
  exact⟨A,D,λq _=>rfl⟩
 ·show sK code (du H (p:Int) v) i/\gI (du H (p:Int) v) p=v/\∀q,0<=gI H q->gI (du H (p:Int) v) q=gI H q;have N:du H (p:Int) v=H.set p v:=by simp[du]
  rw[N];have y:∀q,0<=gI H q->gI (H.set p v) q=gI H q:=λq Y=>by
   rw[zP u,cN (by rintro rfl;omega)]
  refine⟨⟨by rw[QQ];exact J,?_,λj C=>?_,λj C=>?_⟩,by rw[zP u,cM rfl],y⟩
  ·rw[zP u,cN (by omega)];exact A.h0
  ·rw[QQ] at C;rw[zP u];split
   ·omega
   ·exact A.b j C
  ·have E:=A.s j C;have P:gI (H.set p v) j=gI H j:=by rw[zP u,cN (by omega)]
   refine⟨E.t,E.p,λg=>?_⟩;rw[P] at g⊢;obtain⟨a,b,c⟩:=E.s g;have Z:=Nc (gC code j).op;refine⟨a,λh=>?_,λh=>?_⟩
   ·rw[y _ (by rw[b h];omega)];exact b h
   ·rw[y _ (by rw[c h];omega)];exact c h
def sK.next{code:List eI}{H:List Int}{i:Nat}(h:sK code H i)(a:Xt code H i):sK code H (i+1):=⟨h.len,h.h0,h.b,λj e=>by
 by_cases c:j=i
 ·rw[c];exact a
 ·exact h.s j (by omega)⟩
def aa5{code:List eI}(hz:me code)(hl:1<=code.length/\code.length<=80)(hn:2^41<=n):Ok (H7 n code) λx=>x.2=true->sK code x.1 code.length/\gI x.1 code.length=1:=by
 have k0:∀(K:List eI->List Int->Option (List Int×Bool)),∀m i:Nat,i<=code.length+1->code.length+1<m+i->DW n m code (List.replicate i (-1)) i K=K code (List.replicate (code.length+1) (-1)):=by
  intro K m
  induction m with
  |zero=>intro i Z h2;omega
  |succ m J=>
   intro i Z h2
   rw[DW]
   by_cases Y:i<=code.length
   ·rw[show dI (i:Int) (cA code)=true by rw[gR,cW];exact gF (by omega),cP,fW (by simp;omega) (by omega),cw,dO (by omega),<-ajl];exact J (i+1) (by omega) (by omega)
   ·have:i=code.length+1:=by omega
    subst this;rw[show dI ((code.length+1:Nat):Int) (cA code)=false by rw[gR,cW];exact gP (by omega),cR]
 have k2:∀(K:List eI->List Int->Option (List Int×Bool))(Q:List Int×Bool->Prop),(∀H,sK code H code.length->Ok (K code H) Q)->(∀H,Q (H,false))->∀m i:Nat,∀H:List Int,i<=code.length->code.length<m+i->sK code H i->Ok (pg n m code H i K) Q:=by
  intro K Q hK E m
  induction m with
  |zero=>intro i H Z h2;omega
  |succ m J=>
   intro i H Z h2 F
   have ae:=F.len
   rw[pg]
   refine eu (λY=>?_) λY=>?_
   ·rw[cW] at Y;have A:i<code.length:=by omega
    have ec:=Qd A;have eh:=jr (show i<H.length by omega);simp only[ec,eh,cw,UO];have tb:=Nc (gC code i).op;have hb:=F.b i (by omega);have i1:cz .i64 (i:Int) 1=((i+1:Nat):Int):=dO (by omega);refine eu (λ_=>cH (E _)) λt0=>?_;refine dq (ab8 (by rw[ahp A];exact hz _ (dM A)) (by rw[cW];omega) hn) λb aa=>eg (ef (λbt=>?_) λ_=>cH (E _));have M:=aa bt;rw[cW] at M;rw[i1];refine eu (λad=>?_) λC=>?_
    ·exact J (i+1) H (by omega) (by omega) (F.next ⟨t0,M,λh=>by omega⟩)
    refine eu (λ_=>cH (E _)) λN=>?_;rw[mb (by omega) (by omega) (by omega) (by omega),jb (by omega) (by omega) (by omega) (by omega)];refine eu (λ_=>cH (E _)) λab=>?_;generalize hv:gI H i-(jm (gC code i).op).1+(jm (gC code i).op).2=v at ab;have P:0<=v/\v<=12:=by omega
    have D:∀S,sK code S i->gI S i=gI H i->(gC code i).op=9\/(gC code i).op=11->((gC code i).op≠11->gI S (i+1)=v)->Ok (ck (uU n S (cz .i64 ((i+1:Nat):Int) (gC code i).num) v) λx=>cond (cF x.1) (some (x.2,false)) (pg n m code x.2 ((i+1:Nat):Int) K)) Q:=λS g1 g2 g3 g4=>by
     have I:=M.jmp g3
     obtain⟨u,hu⟩:=hV I.1
     rw[hu] at I
     rw[hu,show cz .i64 ((i+1:Nat):Int) (u:Int)=((i+1+u:Nat):Int) from Lj (by omega)]
     refine dq (UP g1 A (by omega) (by omega) P) λx hx=>eg (ef (λU=>?_) λ_=>cH (E _))
     obtain⟨a,b,c⟩:=hx U
     refine J (i+1) x.2 (by omega) (by omega) (a.next ⟨t0,M,λh=>?_⟩)
     rw[c i (by omega)] at h⊢
     rw[g2] at h⊢
     rw[hv]
     refine⟨N,λy=>?_,λ_=>?_⟩
     ·rw[c (i+1) (by rw[g4 y];omega),g4 y]
     ·rw[hu,fH];exact b
    refine eg (dr (λy=>?_) λy=>?_)
    ·refine dr (λh9=>by omega) λ_=>dr (λ_=>D H F rfl (.inr y) λh=>absurd y h) λh=>absurd y h
    ·refine dq (UP F A (show i<i+1 by omega) (by omega) P) λx hx=>?_;refine dr (λh9=>ef (λU=>?_) λ_=>cH (E _)) λh9=>dr (λh=>absurd h y) λ_=>eg (ef (λU=>?_) λ_=>cH (E _))
     ·obtain⟨a,b,c⟩:=hx U;exact D x.2 a (c i C) (.inl h9) λ_=>b
     ·obtain⟨a,b,c⟩:=hx U;refine J (i+1) x.2 (by omega) (by omega) (a.next ⟨t0,M,λh=>?_⟩);rw[c i C] at h⊢;rw[hv];exact⟨N,λ_=>b,λh=>by omega⟩
   ·rw[cW] at Y;have:i=code.length:=by omega
    subst this;exact hK H F
 unfold H7;refine ahR (k0 _ n 0 (by omega) (by omega)) ?_;have af:(List.replicate (code.length+1) (-1:Int)).length=code.length+1:=by simp
 have e0:=jr (l:=List.replicate (code.length+1) (-1:Int)) (i:=0) (by omega);rw[show((0:Nat):Int)=0 from rfl] at e0;rw[e0,cw,cw];have es:du (List.replicate (code.length+1) (-1:Int)) 0 0=(List.replicate (code.length+1) (-1:Int)).set 0 0:=by simp[du]
 rw[es];refine k2 _ _ (λH hH=>?_) (λH h=>by cases h) n 0 _ (by omega) (by omega) ⟨by simp,by rw[zP (by omega),cM rfl],λj I=>?_,λj I=>by omega⟩
 ·have:=hH.len;have e:=jr (l:=H) (i:=code.length) (by omega);rw[cW,e,cw,cw];exact cH λh=>⟨hH,by simpa[ez] using h⟩
 ·rw[zP (by omega)];split
  ·omega
  ·rw[QQ] at I;have:gI (List.replicate (code.length+1) (-1:Int)) j=-1:=by
    rw[gI,iT,eN I];simp
   rw[this];omega
end
end
section
section
variable{n:Nat}{R:Type}{Q:R->Prop}
def oL{x:Int}{f:cq->Option R}(a:2^41<=n)(hx:-9000000000000000000<=x/\x<=9000000000000000000)(h:∀s:cq,s.length<=21->Ok (f s) Q):Ok (ck (fb n x) f) Q:=by
 rw[nC a hx];refine h _ ?_
 by_cases c:0<=x
 ·obtain⟨u,rfl⟩:=hV c;rw[nO];have:=B6 20 u (by omega) (by omega);omega
 ·obtain⟨u,rfl⟩:∃u:Nat,x=-(u:Int):=⟨x.natAbs,by omega⟩;rw[itoa_neg (by omega)];have:=B6 20 u (by omega) (by omega);simp;omega
def iQ{a b:cq}{f:cq->Option R}(A B:Nat)(e:a.length<=A)(j:b.length<=B)(u:A+B<=1000000000)(h:∀s:cq,s.length<=A+B->Ok (f s) Q):Ok (ck (da a b) f) Q:=ag3 (by omega) (h _ (by rw[fg];omega))
def PM:List cq:=[[],[112,117,115,104],[108,111,97,100],[97,100,100],[115,117,98],[109,117,108],[112,97,114,116],[109,105,110],[109,97,120],[116,101,115,116],[116,105,101,114,115],[115,107,105,112]]
def Te{a:Int}(u:0<=(jm a).1)(x:a≠1)(y:a≠2)(e:a≠10)(A:a≠6)(C:a≠9)(j:a≠11):jm a=(2,1):=by
 by_cases c:a=3\/a=4\/a=5\/a=7\/a=8
 ·simp[jm,x,y,e,c]
 ·have:jm a=(-1,0):=by simp[jm,x,y,e,c,A,C,j]
  rw[this] at u;exact absurd u (by decide)
def adU{x:eI}{a l:Int}(h:xt x a l)(hl:l<=1000/\0<=a)(F:2^41<=n):Ok (JJ n x) λs=>s.length<=400:=by
 obtain⟨m5,mk⟩:=h.m;have hw:∀(i:Nat),i<12->∃w:cq,cm PM (i:Int)=some w/\w.length<=5:=by
  intro i H
  have:i=0\/i=1\/i=2\/i=3\/i=4\/i=5\/i=6\/i=7\/i=8\/i=9\/i=10\/i=11:=by omega
  rcases this with rfl|rfl|rfl|rfl|rfl|rfl|rfl|rfl|rfl|rfl|rfl|rfl<;>exact⟨_,rfl,by decide⟩
 have I:∀(K:cq->Option cq),(∀s:cq,s.length<=300->Ok (K s) λs=>s.length<=400)->∀m i:Nat,∀u:cq,i<=x.db.length->x.db.length<m+i->u.length<=50+50*i->Ok (nL n m u i x K) λs=>s.length<=400:=by
  intro K hK m
  induction m with
  |zero=>intro i u C h2;omega
  |succ m ih=>
   intro i u C h2 h3
   rw[nL]
   refine eu (λH=>?_) λH=>hK u (by omega)
   rw[cW] at H
   have e:=dA (show i<x.db.length by omega)
   have hm:=mk _ (dM (show i<x.db.length by omega))
   simp only[e,cw,dO (show i<2^31 by omega)]
   refine iQ _ 1 h3 (by simp) (by omega) λJ A=>oL F (by omega) λw1 M=>iQ _ _ A M (by omega) λE N=>iQ _ 1 N (by simp) (by omega) λs3 l3=>oL F (by omega) λw2 b2=>iQ _ _ l3 b2 (by omega) λs4 l4=>?_
   exact ih (i+1) s4 (by omega) (by omega) (by omega)
 have k0:∀u:cq,u.length<=50->Ok (nL n n u 0 x λj=>ck (da j [10]) λy=>some y) λs=>s.length<=400:=λu ho=>
  I _ (λs hs=>iQ _ 1 hs (by simp) (by omega) λJ A=>cH (by omega)) n 0 u (by omega) (by omega) (by omega)
 have P:I7 n=some PM:=rfl;unfold JJ;rw[P,cw];refine kD (eg (jV (λhb=>?_) λ_=>cH (by simp)));have S:cX .i64 (cA PM) 1=11:=rfl;rw[S] at hb;obtain⟨op,U⟩:=hV (show 0<=x.op by omega);obtain⟨w,ew,lw⟩:=hw op (by omega);rw[<-U] at ew;simp only[cw,ew];have num:(-9000000000000000000<=x.num/\x.num<=9000000000000000000)->Ok (ck (da w [32]) λY=>ck (fb n x.num) λx6=>ck (da Y x6) λZ=>nL n n Z 0 x λj=>ck (da j [10]) λy=>some y) λs=>s.length<=400:=λhx=>
  iQ 5 1 lw (by simp) (by omega) λJ A=>oL F hx λw1 M=>iQ _ _ A M (by omega) λE N=>k0 E (by omega)
 have aa:=h.nam;have nm:Ok (ck (da w [32]) λY=>ck (da Y x.name) λZ=>nL n n Z 0 x λj=>ck (da j [10]) λy=>some y) λs=>s.length<=400:=
  iQ 5 1 lw (by simp) (by omega) λJ A=>iQ _ _ A aa (by omega) λE N=>k0 E (by omega);refine dr (λC=>dr (λ_=>num (by have:=h.num C;omega)) λhh=>absurd C hh) λC=>?_;refine dr (λh9=>dr (λ_=>num (by have:=h.jmp (.inl h9);omega)) λhh=>absurd h9 hh) λh9=>?_;refine dr (λD=>num (by have:=h.jmp (.inr D);omega)) λD=>?_;exact dr (λ_=>nm) λ_=>k0 w (by omega)
def ahq(code:List eI):Prop:=∀j,j<code.length->xt (gC code j) j code.length
def ab9{code:List eI}(y:ahq code)(J:code.length<=80)(A:2^41<=n):Ok (Nt n code) λs=>s.length<=400*80:=by
 have u:∀m i:Nat,∀a:cq,i<=code.length->code.length<m+i->a.length<=400*i->Ok (Ee n m code a i λe=>some e) λs=>s.length<=400*80:=by
  intro m
  induction m with
  |zero=>intro i a C D;omega
  |succ m E=>
   intro i a C D F
   rw[Ee]
   refine eu (λx=>?_) λx=>cH (by omega)
   rw[cW] at x
   have j:i<code.length:=by omega
   rw[Qd j,cw,dO (by omega)]
   refine dq (adU (y i j) (by omega) A) λs H=>iQ _ _ F H (by omega) λI M=>E (i+1) I (by omega) (by omega) (by omega)
 exact u n 0 [] (by omega) (by omega) (by simp)
def Zi(code:List eI):Prop:=code.length<=80/\∃H,sK code H code.length/\gI H code.length=1
def afp{code:List eI}(u:me code)(E:code.length<=100000000)(a:2^41<=n):Ok (KQ n code) λb=>b=true->Zi code:=by
 unfold KQ;refine kD (eg (jV (λy=>?_) λ_=>cH λh=>by cases h));rw[cW] at y;refine dq (aa5 u (by omega) a) λx hx=>ef (λA=>?_) λ_=>cH λh=>(by cases h);obtain⟨e,C⟩:=hx A;exact dq (ab9 (λj D=>(e.s j D).p) (by omega) a) λs _=>cH λ_=>⟨by omega,x.1,e,C⟩
def agu{x:eI}{a l:Int}{j:List mE}{xs:List Int}(h:xt x a l)(N:K0 j)(P:0<=(jm x.op).1)(S:x.op≠9)(E:x.op≠11)(D:(xs.length:Int)=(jm x.op).1)(hx:∀v∈xs,In v)(I:2^41<=n):Ok (KR n x j xs) n6:=by
 unfold KR;refine dr (λF=>cH (by show In _;have:=h.num F;omega)) λF=>dr (λJ=>dq (afo N I) λy A=>cH A) λJ=>dr (λH=>?_) λH=>dr (λu=>?_) λu=>?_
 ·have M:xs.length=3:=by rw[H,show(jm 6).1=3 from rfl] at D;omega
  refine iX (by omega) (by omega) λp C _=>iX (by omega) (by omega) λq _ _=>iX (by omega) (by omega) λr _ _=>dq (adT (hx p C)) λy A=>cH A
 ·have M:xs.length=1:=by rw[u,show(jm 10).1=1 from rfl] at D;omega
  have e:=jr (l:=xs) (i:=0) (by omega);rw[show((0:Nat):Int)=0 from rfl] at e;simp only[e,cw];have Z:In (gI xs 0):=by
   have:gI xs 0=xs[0]:=by rw[gI,iT,eN (by omega)];rfl
   rw[this];exact hx _ (dM _)
  exact eu (λ_=>cH uC) λU=>dq (ab7 (by omega) (h.rH u) I) λy A=>cH A
 ·have M:2<=xs.length:=by
    rw[Te P F J u H S E] at D
    have D:(xs.length:Int)=2:=D
    omega
  exact iX (by omega) (by omega) λp C _=>iX (by omega) (by omega) λq Y _=>dq (afn (hx p C) (hx q Y)) λy A=>cH A
end
end
section
section
variable{n:Nat}{R:Type}{Q:R->Prop}
def D8{e:Type}{l:List e}{a b:Nat}{x:e}(h:x∈(l.drop a).take b):x∈l:=HK (uH h)
def afq{code:List eI}{C:List mE}{E:Int}(F:Zi code)(hp:K0 C)(hn:2^41<=n):Ok (Ki n code C E) λx=>In x.1:=by
 obtain⟨hl,H,Z,ae⟩:=F;have af:=Z.len;have aa:∀(K:List Int->Int->Option (Int×Int×Int)),(∀j u,j.length=1->(∀v∈j,In v)->Ok (K j u) λx=>In x.1)->∀m p:Nat,∀(j:List Int)(u:Int),p<=code.length->code.length<m+p->(j.length:Int)=gI H p->(∀v∈j,In v)->0<=u/\u<=10*p->Ok (tc n m code C E j u p K) λx=>In x.1:=by
  intro K hK m
  induction m with
  |zero=>intro p j u h1 h2;omega
  |succ m ih=>
   intro p j u h1 h2 h3 h4 h5
   rw[tc]
   refine eu (λhi=>?_) λhi=>?_
   ·rw[cW] at hi;have S:p<code.length:=by omega
    obtain⟨t0,pv,st⟩:=Z.s p S;obtain⟨s1,s2,s3⟩:=st (by omega);have hb:=Z.b p (by omega);have tb:=Nc (gC code p).op;have m5:=pv.m.1;obtain⟨t,ht⟩:=hV t0;rw[ht] at s1 s2 s3 tb;obtain⟨w,J⟩:=hV tb.2.1;rw[J] at s2 s3 tb;rw[Qd S,cw];refine dq (P:=λc=>0<=c/\c<=6) ?_ λc hc=>?_
    ·unfold FI;rw[cW,jb (by omega) (by omega) (by omega) (by omega)];exact dr (λ_=>cH (by omega)) λ_=>cH (by omega)
    rw[jb (a:=u) (b:=c) (by omega) (by omega) (by omega) (by omega)];refine eu (λ_=>?_) λ_=>?_
    ·refine dq (P:=λ_=>True) ?_ λc' _=>cH sZ;unfold FI;exact dr (λ_=>cH trivial) λ_=>cH trivial
    have e1:cX .i64 (cA j) (t:Int)=((j.length-t:Nat):Int):=by rw[cW,iE];omega
    rw[UO,cw,ht,e1];have ec:dV (kM ((j.length-t:Nat):Int) (cA j) (cA j))=some ():=by
     unfold kM
     rw[cW,gF (by omega)];rfl
    rw[ec,cw];refine xF (by omega) (by rw[cW];omega) (by rw[cW];omega) (xF (by omega) (by omega) (by omega) (fc (by simp;omega) (by omega) ?_));rw[cW,fH,fH,show(0:Int).toNat=0 from rfl,s9,iC];have xl:((List.take (j.length-(j.length-t)) (List.drop (j.length-t) j)).length:Int)=t:=by rw[kI,nn];omega
    have xm:∀v∈List.take (j.length-(j.length-t)) (List.drop (j.length-t) j),In v:=λv F=>h4 v (D8 F);have rl:((List.take (j.length-t-0) j).length:Int)=gI H p-t:=by rw[kI];omega
    have U:∀v∈List.take (j.length-t-0) j,In v:=λv F=>h4 v (uH F);generalize List.take (j.length-(j.length-t)) (List.drop (j.length-t) j)=xs at xl xm;generalize List.take (j.length-t-0) j=I at rl U;have next:∀A:List Int,(A.length:Int)=gI H (p+1)->(∀v∈A,In v)->Ok (tc n m code C E A (u+c) (cz .i64 (p:Int) 1) K) λx=>In x.1:=λA g1 g2=>by
     rw[dO (by omega)]
     exact ih (p+1) A (u+c) (by omega) (by omega) g1 g2 (by omega)
    have M:(gC code p).op=9\/(gC code p).op=11->∀A:List Int,(A.length:Int)=gI H p-t+w->(∀v∈A,In v)->Ok (tc n m code C E A (u+c) (cz .i64 (cz .i64 (p:Int) 1) (gC code p).num) K) λx=>In x.1:=λg0 A g1 g2=>by
     have hj:=pv.jmp g0
     have g3:=s3 g0
     obtain⟨q,hq⟩:=hV hj.1
     rw[hq] at hj g3
     rw[fH] at g3
     rw[hq,dO (by omega),Lj (by omega)]
     exact ih (p+1+q) A (u+c) (by omega) (by omega) (by omega) g2 (by omega)
    refine dr (λD=>?_) λD=>dr (λN=>?_) λN=>?_
    ·have ab:w=0:=by
       rw[D] at J
       have:(jm 11).2=0:=rfl
       omega
     exact M (.inr D) I (by omega) U
    ·have ab:w=0:=by
       rw[N] at J
       have:(jm 9).2=0:=rfl
       omega
     have ah:t=2:=by
      rw[N] at ht
      have:(jm 9).1=2:=rfl
      omega
     refine iX (by omega) (by omega) λa _ _=>iX (by omega) (by omega) λb _ _=>nV (λ_=>?_) λ_=>?_
     ·exact M (.inl N) I (by omega) U
     ·exact next I (by rw[s2 D];omega) U
    ·have ai:w=1:=by
       have ad:0<=(jm (gC code p).op).1:=by omega
       by_cases c1:(gC code p).op=1
       ·rw[c1] at J;have:(jm 1).2=1:=rfl;omega
       by_cases c2:(gC code p).op=2
       ·rw[c2] at J;have:(jm 2).2=1:=rfl;omega
       by_cases Y:(gC code p).op=10
       ·rw[Y] at J;have:(jm 10).2=1:=rfl;omega
       by_cases c6:(gC code p).op=6
       ·rw[c6] at J;have:(jm 6).2=1:=rfl;omega
       rw[Te ad c1 c2 Y c6 N D] at J;have:((2:Int),(1:Int)).2=1:=rfl;omega
     refine dq (agu pv hp (by omega) N D (by omega) xm hn) λy hy=>eg (dr (λ_=>?_) λ_=>cH sZ);refine fc (by simp;omega) (by omega) (next _ ?_ λv F=>?_)
     ·rw[s2 D,fg,uE];omega
     ·rcases eJ.1 F with F|F
      ·exact U v F
      ·rw[gf] at F;rw[F];exact hy
   ·rw[cW] at hi;have:p=code.length:=by omega
    subst this;exact hK j u (by omega) h4
 unfold Ki;refine aa _ (λj u h1 h2=>?_) n 0 [] 0 (by omega) (by omega) (by rw[Z.h0];rfl) (by simp) (by omega);have e:=jr (l:=j) (i:=0) (by omega);rw[show((0:Nat):Int)=0 from rfl] at e;rw[e,cw,cw];refine cH (h2 _ ?_);rw[gI,iT,eN (by omega)];exact dM _
def adV{code:List eI}{a:List mE}{e:Int}(u:me code)(y:code.length<=100000000)(A:K0 a)(j:2^41<=n):Ok (Kj n code a e) λx=>In x.1:=by
 unfold Kj;exact dq (afp u y j) λb C=>eg (ef (λD=>kD (eg (jV (λ_=>dq (afq (C D) A j) λx hx=>cH hx) λ_=>cH sZ))) λ_=>cH sZ)
def WW(x:Int×Int):Prop:=In x.1/\(x.2=0->0<=x.1)
def agv{r:cn}{e a j:Int}(u:rj n r)(y:2^41+6<=n):Ok (KS n r e a j) WW:=by
 have A:Ok (JI n r) λcode=>me code/\code.length<=11^6:=by
  unfold JI
  rw[iD,u.ok,cw,dT,eW,cR]
  exact dq (JW 6 n r y (by omega) u.p) λx hx=>cH hx
 unfold KS;rw[iD];refine dq A λcode C=>dq (adV C.1 (by omega) (by show(3:Nat)<=1000;omega) (by omega)) λx hx=>dr (λE=>eu (λ_=>cH ⟨sZ,λh=>absurd (show(2:Int)=0 from h) (by omega)⟩) λh=>cH ⟨hx,λ_=>h⟩) λh=>cH ⟨hx,λD=>absurd D h⟩
def aca{f:fN}{j a u:Int}(y:vv n f)(A:2^41+6<=n):Ok (JL n f j a u) WW:=by
 obtain⟨r,_,C,e⟩:=y.r;unfold JL;rw[e,cw,dT,eW,cR,iD];exact dq (agv C A) λx hx=>cH hx
end
end
section
section
variable{n:Nat}{R:Type}{Q:R->Prop}
def jn{S:Type}{N:Nat}(C:N<2^30)(L:Nat->S->Int->Option R)(I:Nat->S->Prop){m:Nat}{s:S}(D:N<m)(x:I 0 s)(y:∀m s,I N s->Ok (L (m+1) s N) Q)(j:∀m i s,i<N->I i s->(∀a,I (i+1) a->Ok (L m a ((i+1:Nat):Int)) Q)->Ok (L (m+1) s i) Q):Ok (L m s 0) Q:=by
 have e:∀m i:Nat,∀s,i<=N->N<m+i->I i s->Ok (L m s i) Q:=by
  intro m
  induction m with
  |zero=>intro i s j E;omega
  |succ m A=>
   intro i s F g2 u
   by_cases c:i<N
   ·exact j m i s c u λa g=>A (i+1) a (by omega) (by omega) g
   ·have:i=N:=by omega
    subst this;exact y m s u
 exact e m 0 s (by omega) (by omega) x
def jo{a b:Int}{x y:Option R}(h:a<b)(e:Ok x Q):Ok (cond (cC a b) x y) Q:=by rw[xK h];exact e
def iP{a b:Int}{x y:Option R}(h:¬ a<b)(e:Ok y Q):Ok (cond (cC a b) x y) Q:=by rw[tX h];exact e
structure Qq(w:List Int):Prop where
 l:1<=w.length/\w.length<=8
 b:∀x∈w,1<=x/\x<=100000
def aa6{w:List Int}(h:Qq w)(u:2^41<=n):Ok (H8 n w) λx=>1<=x/\x<=1000000:=by
 have y:=h.l;unfold H8;refine jn (N:=w.length) (by omega) (λm s i=>AW n m w s i _) (λi s=>i<=s/\s<=100000*i) (by omega) (by omega) (λm s e=>?_) λm i s a e K=>?_
 ·rw[AW];refine iP (by rw[cW];omega) (iP (by rw[cW];omega) (iP (by omega) (cH (by omega))))
 ·have A:=h.b _ (dM a);rw[AW];refine jo (by rw[cW];omega) ?_;rw[dA a,cw,cw];refine kD (eg (jV (λ_=>?_) λj=>absurd (by omega) j));rw[dO (by omega),jb (by omega) (by omega) (by omega) (by omega)];exact K _ (by omega)
def acb{a sum:Int}{w:List Int}(h:Qq w)(P:0<=a/\a<=1000000000000)(hs:1<=sum/\sum<=1000000)(hn:2^41<=n):Ok (E6 n a w sum) λx=>x.length=w.length:=by
 have hl:=h.l;have k2:∀m:Nat,∀(j left:List Int)(e:Int),j.length=w.length->left.length=w.length->e<m->1<=m->-4611686018427387904<=e->e<=1000000000000->Ok (Ef n m j left e λu=>some u) λx=>x.length=w.length:=by
  intro m
  induction m with
  |zero=>intro j left e _ _ _ h;omega
  |succ m E=>
   intro j left e F J S _ h4 h5
   rw[Ef]
   refine eu (λU=>?_) λU=>cH F
   have k4:∀(K:List Int->List Int->Int->Int->Option (List Int)),(∀b:Nat,b<w.length->Ok (K j left e b) λx=>x.length=w.length)->∀m i b:Nat,1<=i->i<=w.length->w.length<m+i->b<w.length->Ok (Be n m j left e b i K) λx=>x.length=w.length:=by
    intro K Y m
    induction m with
    |zero=>intro i b F J S;omega
    |succ m E=>
     intro i b H g2 Z g4
     rw[Be]
     refine eu (λC=>?_) λC=>Y b g4
     rw[cW] at C
     have D:=jr (l:=left) (i:=i) (by omega)
     have I:=jr (l:=left) (i:=b) (by omega)
     simp only[D,I,cw,dO (show i<2^31 by omega)]
     exact eu (λ_=>E (i+1) i (by omega) (by omega) (by omega) (by omega)) λ_=>E (i+1) b (by omega) (by omega) (by omega) g4
   refine k4 _ (λb M=>?_) n 1 0 (by omega) (by omega) (by omega) (by omega)
   have D:=jr (l:=j) (i:=b) (by omega)
   have I:=jr (l:=left) (i:=b) (by omega)
   simp only[D,I,cw]
   rw[mb (by omega) (by omega) (by omega) (by omega)]
   exact E _ _ _ (by rw[lR];exact F) (by rw[lR];exact J) (by omega) (by omega) (by omega) (by omega)
 unfold E6;refine jn (N:=w.length) (by omega) (λm(s:List Int×List Int×Int)i=>Bd n m a w sum s.1 s.2.1 s.2.2 i _) (λi s=>s.1.length=i/\s.2.1.length=i/\s.2.2<=1000000000000/\-(200000000000000000*(i:Int))<=s.2.2) (m:=n) (s:=([],[],a)) (by omega) ⟨rfl,rfl,by show a<=_;omega,by show _<=a;omega⟩ (λm s y=>?_) λm i s C y K=>?_
 ·rw[Bd];refine iP (by rw[cW];omega) ?_;exact k2 n _ _ _ y.1 y.2.1 (by omega) (by omega) (by omega) (by omega)
 ·obtain⟨H,g2,Z,g4⟩:=y;have M:=h.b _ (dM C);rw[Bd];refine jo (by rw[cW];omega) ?_;have A:0<=a*w[i]:=HM P.1 (by omega);have aa:a*w[i]<=1000000000000*100000:=ZX (by omega) M.2 (by omega) (by omega);have ab:0<=a*w[i]/sum:=DP A (by omega);have ad:a*w[i]/sum<=a*w[i]:=HL _ A;have em:eM .i64 a w[i]=a*w[i]:=ny (by omega);simp only[dA C,cw,em];refine tN (by omega) A (by omega) (fc (by simp;omega) (by omega) (tO (by omega) A (fc (by simp;omega) (by omega) ?_)));have D:cm (s.1++[a*w[i]/sum]) (i:Int)=some (a*w[i]/sum):=by
   rw[jr (by simp;omega)]
   congr 1
   generalize a*w[i]/sum=q
   rw[<-H,V1]
  rw[D,cw,cw,dO (by omega),mb (by omega) (by omega) (by omega) (by omega)];exact K (s.1++[a*w[i]/sum],s.2.1++[a*w[i] % sum],s.2.2-a*w[i]/sum) ⟨by simp[H],by simp[g2],by show s.2.2-_<=_;omega,by show _<=s.2.2-_;omega⟩
def acd{a:Int}{w:List Int}(h:Qq w)(j:0<=a/\a<=1000000000000)(e:2^41<=n):Ok (HV n a w) λx=>x.length=w.length:=by
 unfold HV ME;refine dq (P:=λx=>x.length=w.length) ?_ λx hx=>cH hx;refine dq (aa6 h e) λx hx=>De (eg (jV (λ_=>dr (λu=>by omega) λ_=>nV (λ_=>dq (acb h j hx e) λy A=>cH A) λu=>by omega) λC=>absurd (show In a by omega) C))
structure lI(t:dm):Prop where
 l:t.cJ.length<=100
 w:∀s∈t.cJ,s.length<=100
 f:t.jd.length<=100
 s:-1000<=t.cV/\t.cV<=1000
structure qH(net:List cG):Prop where
 l:∀l∈net,il l
 b:1<=net.length/\net.length<=6
def ahr{net:List cG}{name:cq}{f:Int->Option R}(u:qH net)(y:2^41<=n)(h:∀x:Int,x=-1\/(∃k:Nat,x=k/\k<net.length/\(gL net k).name=name)->nP n net name=some x->Ok (f x) Q):Ok (ck (nP n net name) f) Q:=by
 have C:=u.b;have e:=PB (n:=n) (net:=net) (name:=name) (by omega) y;rw[e,cw];refine h _ ?_ e;rcases qV (p:=λl:cG=>decide (l.name=name)) (xs:=net) (i:=0) with⟨e,_⟩|⟨j,a,e,A,_⟩
 ·exact .inl e
 ·exact .inr ⟨j,by rw[e];simp,a,by rw[sD a];simpa using A⟩
def adW{t:dm}(h:lI t)(u:2^41<=n):Ok (zx n t) λb=>b=true->1<=t.cJ.length/\t.cJ.length<=3/\1<=t.cV/\t.cV<=4:=by
 have C:=h.l;have D:=h.f;have a:∀{p:Prop},false=true->p:=λh=>(by cases h);unfold zx;refine jn (N:=t.cJ.length) (by omega) (λm(_:Unit)i=>uL n m i t _) (λ_ _=>True) (m:=n) (s:=()) (by omega) trivial (λm _ _=>?_) λm i _ e _ K=>?_
 ·rw[uL];refine iP (by rw[cW];omega) (kD (jV (λx=>?_) λ_=>cH a));rw[rY (by omega) u,cw];refine ef (λ_=>kD (cH λy=>?_)) λ_=>cH a;rw[dQ] at y;rw[cW] at x;omega
 ·rw[uL];refine jo (by rw[cW];omega) ?_;have E:=h.w _ (dM e);rw[dA e,cw,rY (by omega) u,cw];refine eg (ef (λ_=>?_) λ_=>cH a);refine jn (N:=i) (by omega) (λm(_:Unit)k=>uK n m i k t _) (λ_ _=>True) (m:=n) (s:=()) (by omega) trivial (λm _ _=>?_) λm j _ F _ A=>?_
  ·rw[uK];refine iP (by omega) ?_;rw[dO (by omega)];exact K () trivial
  ·rw[uK];refine jo (by omega) ?_;rw[dA (show j<t.cJ.length by omega),cw,dA e,cw,dO (by omega)];exact oJ (λ_=>cH a) λ_=>A () trivial
def UQ{a b:cG}:Ok (FF n a b) λ_=>True:=by
 unfold FF;exact ef (λ_=>cH trivial) λ_=>cH trivial
def agw{a:List cG}{t:dm}(J:qH a)(h:lI t)(F:2^41<=n):Ok (KP n a t) λb=>b=true->(1<=t.cJ.length/\t.cJ.length<=3/\1<=t.cV/\t.cV<=4)/\∀s∈t.cJ,∃k:Nat,nP n a s=some (k:Int)/\k<a.length/\(gL a k).name=s:=by
 have hl:=h.l;have A:∀{p:Prop},false=true->p:=λh=>(by cases h);unfold KP;refine dq (adW h F) λb M=>eg (ef (λP=>?_) λ_=>cH A);refine jn (N:=t.cJ.length) (by omega) (λm(_:Unit)i=>wM n m a i t _) (λi _=>∀j(u:j<t.cJ.length),j<i->∃k:Nat,nP n a t.cJ[j]=some (k:Int)/\k<a.length/\(gL a k).name=t.cJ[j]) (m:=n) (s:=()) (by omega) (λj _ u=>by omega) (λm _ y=>?_) λm i _ S y K=>?_
 ·rw[wM];refine iP (by rw[cW];omega) (cH λ_=>⟨M P,λs U=>?_⟩);obtain⟨j,u,rfl⟩:=p8 U;exact y j u u
 ·rw[wM];refine jo (by rw[cW];omega) ?_;rw[dA S,cw];refine ahr J F λx hx Y=>eu (λ_=>cH A) λZ=>?_;rcases hx with hx|⟨k,rfl,H,C⟩
  ·omega
  have I:Ok (wM n m a (cz .i64 (i:Int) 1) t (some true)) λb=>b=true->(1<=t.cJ.length/\t.cJ.length<=3/\1<=t.cV/\t.cV<=4)/\∀s∈t.cJ,∃k:Nat,nP n a s=some (k:Int)/\k<a.length/\(gL a k).name=s:=by
   rw[dO (by omega)]
   refine K () λj u aa=>?_
   by_cases c:j=i
   ·subst c;exact⟨k,Y,H,C⟩
   ·exact y j u (by omega)
  refine eu (λh0=>?_) λ_=>I;have e:cX .i64 (i:Int) 1=((i-1:Nat):Int):=by rw[iE];omega
  obtain⟨k',D,E,_⟩:=y (i-1) (by omega) (by omega);rw[e,dA (show i-1<t.cJ.length by omega),cw,D,cw,dA E,cw,dA H,cw];exact dq UQ λb _=>eg (ef (λ_=>I) λ_=>cH A)
end
end
section
section
variable{n:Nat}{R:Type}{Q:R->Prop}
structure K1(n:Nat)(fs:List fN):Prop where
 f:∀f∈fs,vv n f
 l:1<=fs.length/\fs.length<=4
def adX{fs:List fN}{name:cq}(h:K1 n fs)(e:2^41<=n):Ok (JH n fs name) λx=>x=-1\/∃k:Nat,x=k/\k<fs.length:=by
 have j:=h.l;unfold JH;refine jn (N:=fs.length) (by omega) (λm(_:Unit)i=>Bz n m fs name i _) (λ_ _=>True) (m:=n) (s:=()) (by omega) trivial (λm _ _=>?_) λm i _ a _ K=>?_
 ·rw[Bz];exact iP (by rw[cW];omega) (cH (.inl rfl))
 ·rw[Bz];refine jo (by rw[cW];omega) ?_;rw[dA a,cw,dO (by omega)];exact oJ (λ_=>cH (.inr ⟨i,rfl,a⟩)) λ_=>K () trivial
structure vI(n:Nat)(net:List cG)(ops:List dt):Prop where
 l:ops.length<=3
 o:∀o∈ops,o.dx.length<=100/\∃k:Nat,nP n net o.dx=some (k:Int)/\k<net.length
def vI.nil{net:List cG}:vI n net []:=⟨by simp,by simp⟩
def Pm{j:List cG}{u:List fN}{t:dm}(P:qH j)(S:K1 n u)(h:lI t)(hn:2^42<=n):Ok (tH n j u t) λx=>vI n j x.1/\(0<=x.2.1/\x.2.1<=1000000000000)/\0<=x.2.2/\x.2.2<=100:=by
 have hl:=h.l;have A:∀{e:Int},0<=e/\e<=100->vI n j (([]:List dt),(0:Int),e).1/\(0<=(([]:List dt),(0:Int),e).2.1/\(([]:List dt),(0:Int),e).2.1<=1000000000000)/\0<=(([]:List dt),(0:Int),e).2.2/\(([]:List dt),(0:Int),e).2.2<=100:=λU=>⟨vI.nil,⟨by show(0:Int)<=0;omega,by show(0:Int)<=_;omega⟩,U.1,U.2⟩;unfold tH;refine dq (adX S (by omega)) λf F=>eu (λ_=>cH (A (by omega))) λf0=>?_;rcases F with F|⟨f,rfl,C⟩
 ·omega
 refine dq (agw P h (by omega)) λb hb=>eg (ef (λbt=>?_) λ_=>cH (A (by omega)));obtain⟨hs,H⟩:=hb bt;refine jn (N:=t.cJ.length) (by omega) (λm(s:List Int×Int)i=>BS n m j u f s.1 s.2 i t _) (λi s=>s.1.length=i/\∀x∈s.1,1<=x/\x<=100000) (m:=n) (s:=([],0)) (by omega) ⟨rfl,by simp⟩ (λm s J=>?_) λm i s D J K=>?_
 ·rw[BS];refine iP (by rw[cW];omega) ?_;rw[dA C,cw];refine dq (aca (S.f _ (dM C)) (by omega)) λp Y=>eg (dr (λe0=>?_) λ_=>cH (A (by omega)));have Z:=Y.2 e0;have p1:=Y.1;have I:-1000000000000<=p.1/\p.1<=1000000000000:=p1;refine dq (acd ⟨by omega,J.2⟩ ⟨Z,I.2⟩ (by omega)) λsh aa=>?_;refine jn (N:=t.cJ.length) (by omega) (λm(s:List dt)i=>BT n m u f p.1 sh s i t _) (λi s=>s.length=i/\∀o∈s,o.dx.length<=100/\∃k:Nat,nP n j o.dx=some (k:Int)/\k<j.length) (m:=n) (s:=[]) (by omega) ⟨rfl,by simp⟩ (λm s M=>?_) λm i s D M K=>?_
  ·rw[BT];refine iP (by rw[cW];omega) (cH ⟨⟨by show s.length<=3;omega,M.2⟩,⟨Z,I.2⟩,by show(0:Int)<=0;omega,by show(0:Int)<=100;omega⟩)
  ·rw[BT];refine jo (by rw[cW];omega) ?_;rw[dA D,cw,dA C,cw,jr (show i<sh.length by omega),cw,cw,dO (by omega)];refine fc (by simp;omega) (by omega) (K _ ⟨by simp[M.1],λo E=>?_⟩);rcases eJ.1 E with E|E
   ·exact M.2 o E
   ·rw[gf] at E;subst E;obtain⟨k,a,b,_⟩:=H _ (dM D);exact⟨h.w _ (dM D),k,a,b⟩
 ·rw[BS];refine jo (by rw[cW];omega) ?_;obtain⟨k,ek,hk,_⟩:=H _ (dM D);have y:=P.l _ (dM hk);have hd:=y.fx;have ha:=y.arr;rw[dA D,cw,ek,cw,dA hk,cw,dO (by omega),mb (a:=j[k].arr) (by omega) (by omega) (by omega) (by omega)];refine fc (by simp;omega) (by omega) (K (s.1++[j[k].arr-j[k].fx],_) ⟨by simp[J.1],λx hx=>?_⟩);rcases eJ.1 hx with hx|hx
  ·exact J.2 x hx
  ·rw[gf] at hx;omega
structure Hw(n:Nat)(c:dP):Prop where
 net:qH c.net
 base:oI c.net=true
 ni:c.ni.length=c.net.length
 wb:Ai c.ni
 ir:K1 n c.ir
def Ov{c:dP}{t:eo}(h:Hw n c)(j:lI t.fY)(u:2^42<=n):Ok (tu n c t) (vI n c.net):=by
 unfold tu;refine dq (Pm h.net h.ir j u) λx hx=>?_;have y:=hx.1.l;refine jn (N:=x.1.length) (by omega) (λm(s:List dt)i=>BB n m s i t _) (λi s=>s.length=x.1.length/\vI n c.net s) (m:=n) (s:=x.1) (by omega) ⟨rfl,hx.1⟩ (λm s a=>?_) λm i s A a K=>?_
 ·rw[BB];exact iP (by rw[cW];omega) (cH a.2)
 ·rw[BB];refine jo (by rw[cW];omega) (eu (λ_=>?_) λ_=>cH a.2);simp only[dA (show i<s.length by omega),cw,dO (show i<2^31 by omega)];refine K _ ⟨by rw[lR];exact a.1,⟨by rw[lR];exact a.2.l,λo e=>?_⟩⟩;unfold du at e;rcases Ax e with e|e
  ·exact a.2.o o e
  ·subst e;have:=a.2.o _ (dM (show i<s.length by omega));exact this
def UR{c:dP}{a:List dt}{o:dt}{f:Int->Option R}(h:Hw n c)(e:vI n c.net a)(j:o∈a)(u:∀x,1<=x/\x<=2->Ok (f x) Q):Ok (ck (EC n c o.dx) f) Q:=by
 obtain⟨_,k,y,A⟩:=e.o o j;have C:=h.ni;refine dq (P:=λx=>1<=x/\x<=2) ?_ u;unfold EC;rw[y,cw,dA (show k<c.ni.length by omega),cw];exact cH (h.wb _ (dM _))
structure qv(c:Nat)(t:dm):Prop where
 l:t.cJ.length<=c
 w:∀s∈t.cJ,s.length<=100
 f:t.jd.length<=100
 s:-1000<=t.cV/\t.cV<=1000
def qv.mono{c d:Nat}{t:dm}(h:qv c t)(a:c<=d):qv d t:=⟨by have:=h.l;omega,h.w,h.f,h.s⟩
def qv.z{c:Nat}{t:dm}(h:qv c t)(a:c<=100):lI t:=⟨by have:=h.l;omega,h.w,h.f,h.s⟩
def qv.add{c:Nat}{t:dm}{s:cq}(h:qv c t)(a:s.length<=100):qv (c+1) {t with cJ:=t.cJ++[s]}:=⟨by have:=h.l;simp;omega,λx hx=>by
 rcases eJ.1 hx with hx|hx
 ·exact h.w x hx
 ·rw[gf] at hx;rw[hx];exact a,h.f,h.s⟩
def NL{a:List cG}(e:qH a){l:cG}(h:l∈a):l.name.length<=100:=by
 have:=lS (e.l l h).n1;omega
def adY{a:List cG}{u:Int}{M:Int}(A:qH a)(U:M<=999000000000){c:Nat}(Y:c<=50){t:dm}{l:cG}{r:Rd}(y:qv c t)(J:dU M r)(Z:2^41<=n){K:List cG->Int->dm->cG->Rd->Option (dm×Rd)}{Q:dm×Rd->Prop}(C:∀D P E,qv (c+1) D->dU (M+10) E->Ok (K a u D P E) Q):Ok (wj n n a u 0 t l r K) Q:=by
 have hb:=A.b;refine jn (N:=a.length) (by omega) (λm(s:Rd)i=>wj n m a u i t l s _) (λi s=>dU (M+i) s) (m:=n) (s:=r) (by omega) (J.mono (by omega)) (λm s j=>?_) λm i s F j H=>?_
 ·rw[wj];exact iP (by rw[cW];omega) (C t l s (y.mono (by omega)) (j.mono (by omega)))
 ·rw[wj];refine jo (by rw[cW];omega) ?_;have S:=dM F;rw[dA F,cw,dO (by omega)];refine dq UQ λb _=>ef (λ_=>?_) λ_=>H s (j.mono (by omega));refine ei j (by omega) (by omega) λx I _ _ e=>dr (λ_=>?_) λ_=>H I (e.mono (by omega));rw[cw];exact fc (by have:=y.l;simp;omega) (by omega) (C _ _ I (y.add (NL A S)) (e.mono (by omega)))
def US{a:List cG}{M:Int}(C:qH a)(F:M<=998000000000)(D:2^41<=n){K:List cG->dm->Rd->Option (dm×Rd)}{Q:dm×Rd->Prop}(E:∀e j,qv 10 e->dU (M+40) j->Ok (K a e j) Q):∀(m d:Nat)(t:dm)(l:cG)(r:Rd),d<=3->d<m->qv (5-d) t->dU (M+10*(4-d)) r->Ok (yN n m a d t l r K) Q
 |0,d,t,l,r,H,I,u,x=>by omega
 |m+1,d,t,l,r,H,I,u,x=>by
  rw[yN];refine eu (λh=>?_) λh=>E t r (u.mono (by omega)) (x.mono (by omega));refine adY C (by omega) (by omega) u x D λe J j y A=>?_;rw[show cX .i64 (d:Int) 1=((d-1:Nat):Int) by rw[iE];omega];exact US C F D E m (d-1) e J j (by omega) (by omega) (y.mono (by omega)) (A.mono (by omega))
def ace{u:List cG}{y:List fN}{N:Int}{r:Rd}(hz:qH u)(hf:K1 n y)(hr:dU N r)(hN:N<=900000000000)(hn:2^41<=n):Ok (tk n r u y) λx=>lI x.1/\dU (N+100) x.2:=by
 have hb:=hz.b;have ae:=hf.l;have ab:∀(t:dm)(r:Rd),qv 10 t->dU (N+50) r->Ok (ck (cS n r 12) λA=>
 cond (cp A.1 0)
  (ck (cS n A.2 (cA u)) λE=>
  ck (cm u E.1) λaa=>
  ck (cZ 16 t.cJ [aa.name]) λF=>
  ck (cS n E.2 20) λC=>
  cond (cp C.1 0)
   (ck (mX n C.2 [[110,111,110,101],[65],[]]) λH=>
   some (dm.mk F H.1 t.cV,H.2))
   (some ({t with cJ:=F},C.2)))
  (ck (cS n A.2 20) λD=>
  cond (cp D.1 0)
   (ck (mX n D.2 [[110,111,110,101],[65],[]]) λI=>
   some ({t with jd:=I.1},I.2))
   (some (t,D.2)))) λx=>lI x.1/\dU (N+100) x.2:=λt r ht hr=>by
   have fl:∀x:cq,x∈([[110,111,110,101],[65],[]]:List cq)->x.length<=100:=λx hx=>by
    simp only[eG,mq,l8] at hx
    rcases hx with rfl|rfl|rfl<;>simp
   refine ei hr (by omega) (by omega) λa r1 _ _ U=>dr (λ_=>?_) λ_=>?_
   ·refine ei U (by omega) (by rw[cW];omega) λb r2 b0 b1 J=>iX b0 (by rw[cW] at b1;omega) λl hl _=>?_;have ha:=ht.add (NL hz hl);refine fc (by have:=ht.l;simp;omega) (by omega) (ei J (by omega) (by omega) λe r3 _ _ j=>dr (λ_=>?_) λ_=>cH ⟨ha.z (by omega),j.mono (by omega)⟩);exact Ag j (by omega) (by simp) λs r4 hs P=>cH ⟨⟨by have:=ha.l;show(t.cJ++[l.name]).length<=100;exact Av this (by omega),ha.w,fl s hs,ha.s⟩,P.mono (by omega)⟩
   ·refine ei U (by omega) (by omega) λe r3 _ _ j=>dr (λ_=>?_) λ_=>cH ⟨ht.z (by omega),j.mono (by omega)⟩;exact Ag j (by omega) (by simp) λs r4 hs P=>cH ⟨⟨by have:=ht.l;show t.cJ.length<=100;omega,ht.w,fl s hs,ht.s⟩,P.mono (by omega)⟩
 have Z:∀(f:fN)(q:Int)(r:Rd),f∈y->(-1000<=q/\q<=1000)->dU (N+5) r->Ok (ck (cS n r (cA u)) λx5=>
 ck (cm u x5.1) λx6=>
 ck (cZ 16 [] [x6.name]) λx7=>
 ck (cS n x5.2 3) λx8=>
 yN n n u x8.1 (dm.mk x7 f.name q) x6 x8.2 λS t40 ad=>
 ck (cS n ad 12) λA=>
 cond (cp A.1 0)
  (ck (cS n A.2 (cA S)) λE=>
  ck (cm S E.1) λaa=>
  ck (cZ 16 t40.cJ [aa.name]) λF=>
  ck (cS n E.2 20) λC=>
  cond (cp C.1 0)
   (ck (mX n C.2 [[110,111,110,101],[65],[]]) λH=>
   some (dm.mk F H.1 t40.cV,H.2))
   (some ({t40 with cJ:=F},C.2)))
  (ck (cS n A.2 20) λD=>
  cond (cp D.1 0)
   (ck (mX n D.2 [[110,111,110,101],[65],[]]) λI=>
   some ({t40 with jd:=I.1},I.2))
   (some (t40,D.2)))) λx=>lI x.1/\dU (N+100) x.2:=λf q r Y hq hr=>by
   refine ei hr (by omega) (by rw[cW];omega) λb r2 b0 b1 J=>iX b0 (by rw[cW] at b1;omega) λl hl _=>?_
   refine fc (by simp) (by omega) (ei J (by omega) (by omega) λd r3 d0 d1 j=>?_)
   obtain⟨d,rfl⟩:=hV d0
   have af:=(lS (hf.f f Y).nm).2.2
   exact US (n:=n) (M:=N+8) hz (by omega) hn (λt' r' h1 h2=>ab t' r' h1 (h2.mono (by omega))) n d _ l r3 (by omega) (by omega) ⟨by show(1:Nat)<=_;omega,λx hx=>by
    have hx:x∈([]++[l.name]:List cq):=hx
    rw[iC,gf] at hx;rw[hx];exact NL hz hl,by show f.name.length<=100;omega,hq⟩ (j.mono (by omega))
 unfold tk;refine ei hr (by omega) (by rw[cW];omega) λa r1 a0 a1 U=>iX a0 (by rw[cW] at a1;omega) λf Y _=>?_;refine ei U (by omega) (by omega) λb r2 b0 b1 J=>ei J (by omega) (by omega) λc r3 _ _ j=>dr (λ_=>?_) λ_=>?_
 ·exact ei j (by omega) (by omega) λq r4 q0 q1 P=>Z f q r4 Y (by omega) (P.mono (by omega))
 ·refine Z f _ r3 Y ?_ (j.mono (by omega));show-1000<=cz .i64 1 b/\cz .i64 1 b<=1000;rw[jb (by omega) (by omega) (by omega) (by omega)];omega
end
end
section
section
variable{n:Nat}{R:Type}{Q:R->Prop}
def Sp{c:cq}(h:(jS c).2=true):P6 c:=by
 obtain⟨C,D,E⟩:=ET h;intro ops F H o y;have j:=ow C;have u:=ow F;have I:=Jw (ops:=(jS c).1) (by intro e;rw[e] at j;simp at j) j.1;have J:=Jw (ops:=ops) (by intro e;rw[e] at u;simp at u) u.1;have M:(jS c).1.map kc=ops.map kc:=by rw[<-I,<-J,<-D,<-H]
 have N:kc o∈(jS c).1.map kc:=by rw[M];exact List.mem_map_of_mem y
 obtain⟨p,A,x⟩:=ik.1 N;have a:=Ga (j.1 p A);have P:=Ga (u.1 o y);rw[x,P] at a;injection a with _ a;injection a with _ a;injection a with _ a;injection a with a _;rw[JV a];exact E p A
def acf{j:List cG}{u:List eD}{r:cq}{y:List cG×List eD}(h:mL j u r=some y):tW r:=by
 intro a b c e;unfold mL at h;rw[e] at h;simp only at h;split at h
 ·rename_i x;exact Sp x.2.2.2
 ·cases h
structure jj(K:Nat)(s:cT):Prop where
 b:iK s.base
 b6:s.base.length<=6
 l:iK s.cJ
 lg:s.dw.length<=9000
 g:ri s.dw
 t:pT s.cB
 tl:s.cB.length<=1000+K
def jj.mono{K L:Nat}{s:cT}(h:jj K s)(a:K<=L):jj L s:=⟨h.b,h.b6,h.l,h.lg,h.g,h.t,by have:=h.tl;omega⟩
structure oR(m:cO):Prop where
 to:0<=m.to/\m.to<=2
 o:m.ops.length<=3
 w:∀o∈m.ops,o.dx.length<=100
def oR.s{m:cO}(h:oR m):xS m.ops:=⟨by have:=h.o;omega,λo a=>by have:=h.w o a;omega⟩
def Qr{k f x:Int}{y:Bool}:oR ⟨k,f,0,x,[],y⟩:=⟨by show(0:Int)<=0/\(0:Int)<=2;omega,by show(0:Nat)<=3;omega,λo a=>by cases a⟩
def UT{K:Nat}{s x:cT}{r:cq}(h:jj K s)(C:r.length<100000)(D:lD s r=some x):jj (K+1) x/\s.dw<+:x.dw:=by
 obtain⟨y,a,j,E,u,N,A,P⟩:=MU D;have F:=h.lg;obtain⟨H,S,I⟩:=NK (by omega) C a;obtain⟨J,M,U,Y⟩:=Gx (l:=y.1) (t:=y.2) h.l h.t j;refine⟨⟨by rw[A];exact h.b,by rw[A];exact h.b6,by rw[E];exact J,H,?_,by rw[u];exact M,by rw[u];have:=h.tl;omega⟩,?_⟩
 ·unfold ri;rw[I];intro q e;rcases eJ.1 e with e|e
  ·exact h.g q e
  ·rw[gf] at e;subst e;exact acf j
 ·unfold qG at a;split at a
  ·injection a with a;rw[<-a];exact s5 _ _
  ·cases a
def acg{m:cO}(h:1<=m.cu/\m.cu<=99)(a:jg m.ops=true):(GP m).length<100000:=by
 have j:=Jv (ow a).1;have u:=(ow a).2;have e:=ku (x:=m.cu) (by omega) (by omega);unfold GP;simp only[fg,gy,jP];omega
def afr{K:Nat}{s:cT}{m:cO}(h:jj K s):jj (K+1) (lH s m).1/\s.dw<+:(lH s m).1.dw/\(lH s m).2.length<=1/\(∀x∈(lH s m).2,oR x):=by
 have a:jj (K+1) (s,([]:List cO)).1/\s.dw<+:(s,([]:List cO)).1.dw/\(s,([]:List cO)).2.length<=1/\(∀x∈(s,([]:List cO)).2,oR x):=⟨h.mono (by omega),ta _,by show(0:Nat)<=1;omega,λx hx=>by cases hx⟩;have one:∀(z:cT)(k:Int)(y:Bool),(jj (K+1) z/\s.dw<+:z.dw)->jj (K+1) (z,[(⟨k,s.id,0,m.cu,[],y⟩:cO)]).1/\s.dw<+:(z,[(⟨k,s.id,0,m.cu,[],y⟩:cO)]).1.dw/\(z,[(⟨k,s.id,0,m.cu,[],y⟩:cO)]).2.length<=1/\(∀x∈(z,[(⟨k,s.id,0,m.cu,[],y⟩:cO)]).2,oR x):=λz k y u=>⟨u.1,u.2,by show(1:Nat)<=1;omega,λx hx=>by
  have hx:x∈[(⟨k,s.id,0,m.cu,[],y⟩:cO)]:=hx
  rw[gf] at hx;rw[hx];exact Qr⟩;have self:jj (K+1) s/\s.dw<+:s.dw:=⟨h.mono (by omega),ta _⟩;unfold lH;split
 ·rename_i e;split
  ·unfold Ll;simp only;split
   ·exact one s 2 _ self
   ·split
    ·rename_i A;cases j:lD s (GP m) with
     |none=>exact one s 2 _ self
     |some x=>exact one x 2 _ (UT h (acg ⟨e.2.2.2.1,e.2.2.2.2⟩ A) j)
    ·exact one s 2 _ self
  ·split
   ·unfold G3;simp only;generalize(if 0<=fy s.cB m.cu then(gT s.cB (fy s.cB m.cu).toNat).de else 0)=C;split
    ·cases j:lD s (mM m) with
     |none=>exact a
     |some x=>exact one x 4 _ (UT h (by have:=Ot (m:=m) ⟨e.2.2.2.1,e.2.2.2.2⟩;omega) j)
    ·split<;>split
     ·exact one s 4 _ self
     ·exact a
     ·exact one s 4 _ self
     ·exact a
   ·exact a
 ·exact a
def Tf{K:Nat}{s:cT}{m:cO}(h:jj K s)(a:oR m)(j:K<=10000)(e:2^41<=n):Ok (zn n s m) λx=>jj (K+1) x.1/\s.dw<+:x.1.dw/\x.2.length<=1/\∀y∈x.2,oR y:=
 G1 (VY a.s (by have:=h.lg;omega) h.l (by have:=h.tl;omega) e) (afr h)
def NM{a b:cq}(h:a<+:b)(u:b.length<1000000)(e:ri b):ri a:=by
 obtain⟨c,rfl⟩:=h;have:=adA a c (by omega);intro r j;exact e r (this.subset j)
def V8{a now:cq}{bytes:Int}(e:a<+:now)(u:-1000<=bytes/\bytes<=100000)(y:now.length<=9000):Ok (Fb n a now bytes) λx=>x<+:now:=by
 have j:=e.length_le;unfold Fb;refine eu (λ_=>cH e) λA=>?_;rw[gA,gA,mb (by omega) (by omega) (by omega) (by omega),jb (by omega) (by omega) (by omega) (by omega)];refine eu (λ_=>cH (ta _)) λC=>P2 (by omega) (by omega) (by omega) (cH ?_);exact ZY _ _
def aa7{K:Nat}{s:cT}{m:cO}{bytes:Int}(h:jj K s)(u:oR m)(y:-1000<=bytes/\bytes<=100000)(A:K<=10000)(C:2^41<=n):Ok (BW n s m bytes) (jj (K+1)):=by
 unfold BW;refine dq (Tf h u A C) λx hx=>dq (V8 hx.2.1 y hx.1.lg) λe a=>cH ?_;have j:=a.length_le;have:=hx.1.lg;exact⟨h.b,h.b6,⟨by show(0:Nat)<=1000;omega,λl j=>by cases j⟩,by show e.length<=9000;omega,NM a (by omega) hx.1.g,vU,by show(0:Nat)<=_;omega⟩
def ach{K:Nat}{s:cT}(h:jj K s)(a:2^41<=n):Ok (Cb n s) (jj K):=by
 refine G1 (aff (by have:=h.lg;omega) h.b a) ?_;have e:=h.lg;unfold P8;split
 ·exact h
 ·cases j:lj s.base [] (eC s.dw).1 with
  |none=>exact h
  |some y=>
   obtain⟨u,x,A,_⟩:=Gy (l:=y.1) (t:=y.2) h.b vU j;have C:=uX (s:=s.dw) (by omega);simp at A;exact⟨h.b,h.b6,u,by show(s.dw.take _).length<=9000;rw[kI];omega,NM (ZY _ _) (by omega) h.g,x,by show y.2.length<=_;omega⟩
def aci{K:Nat}{s:cT}(h:jj K s)(j:K<=10000)(e:2^41<=n):Ok (Fa n s) λx=>x.length<=20000/\∀y∈x,oR y:=by
 refine G1 (afe (by have:=h.tl;omega) e) ⟨?_,λy a=>?_⟩
 ·unfold P7;rw[o8];have:=List.length_filter_le (λt:eD=>decide (t.de=1)) s.cB;have:=h.tl;omega
 ·unfold P7 at a;obtain⟨t,_,rfl⟩:=ik.1 a;exact Qr
end
end
section
section
variable{n:Nat}{R:Type}{Q:R->Prop}
structure n7(K:Nat)(t:eo):Prop where
 cu:0<=t.cu/\t.cu<=1000
 lk:0<=t.lk/\t.lk<=1000
 back:0<=t.back/\t.back<=1000
 fY:lI t.fY
 en:0<=t.en/\t.en<=1000000000000
 sl:t.eO.length<=2
 sb:∀x∈t.eO,1<=x/\x<=2
 yes:t.yes.length<=1000+K
 jt:t.jt.length<=1000+K
def n7.mono{K L:Nat}{t:eo}(h:n7 K t)(a:K<=L):n7 L t:=⟨h.cu,h.lk,h.back,h.fY,h.en,h.sl,h.sb,by have:=h.yes;omega,by have:=h.jt;omega⟩
structure hJ(n:Nat)(K:Nat)(c:dP):Prop where
 b:Hw n c
 lg:c.dw.length<=9000
 nx:0<=c.next/\c.next<=100
 tl:c.cB.length<=1000+K
 t:∀t∈c.cB,n7 K t
def hJ.mono{K L:Nat}{c:dP}(h:hJ n K c)(a:K<=L):hJ n L c:=⟨h.b,h.lg,h.nx,by have:=h.tl;omega,λt e=>(h.t t e).mono a⟩
def hJ.cB{K:Nat}{c:dP}(h:hJ n K c){ts:List eo}(a:ts.length<=1000+K)(e:∀t∈ts,n7 K t):hJ n K {c with cB:=ts}:=⟨⟨h.b.net,h.b.base,h.b.ni,h.b.wb,h.b.ir⟩,h.lg,h.nx,a,e⟩
def hJ.dw{K:Nat}{c:dP}(h:hJ n K c){l:cq}(a:l.length<=9000):hJ n K {c with dw:=l}:=⟨⟨h.b.net,h.b.base,h.b.ni,h.b.wb,h.b.ir⟩,a,h.nx,h.tl,h.t⟩
def UU{list:List eo}{a:Int}(u:list.length<=100000)(y:2^41<=n):Ok (FH n list a) λx=>x=-1\/∃k:Nat,x=k/\k<list.length:=by
 unfold FH;refine jn (N:=list.length) (by omega) (λm(s:Int)i=>yW n m list a s i _) (λi s=>s=-1\/∃k:Nat,s=k/\k<list.length) (m:=n) (s:=-1) (by omega) (.inl rfl) (λm s e=>?_) λm i s j e K=>?_
 ·rw[yW];exact iP (by rw[cW];omega) (cH e)
 ·rw[yW];refine jo (by rw[cW];omega) ?_;rw[dA j,cw,dO (by omega)];exact dr (λ_=>K _ (.inr ⟨i,rfl,j⟩)) λ_=>K _ e
def UW{list:List eo}{a:Int}(j:list.length<=100000)(u:2^41<=n):Ok (uV n list a) λx=>x=-1\/∃k:Nat,x=k/\k<list.length:=by
 unfold uV;refine jn (N:=list.length) (by omega) (λm(_:Unit)i=>BE n m list a i _) (λ_ _=>True) (m:=n) (s:=()) (by omega) trivial (λm _ _=>?_) λm i _ e _ K=>?_
 ·rw[BE];exact iP (by rw[cW];omega) (cH (.inl rfl))
 ·rw[BE];refine jo (by rw[cW];omega) ?_;rw[dA e,cw,dO (by omega)];exact dr (λ_=>cH (.inr ⟨i,rfl,e⟩)) λ_=>K () trivial
def acj{list:List eo}{a:Int}(j:list.length<=100000)(u:2^41<=n):Ok (Jd n list a) λx=>x=-1\/∃k:Nat,x=k/\k<list.length:=by
 unfold Jd;refine jn (N:=list.length) (by omega) (λm(_:Unit)i=>wk n m list a i _) (λ_ _=>True) (m:=n) (s:=()) (by omega) trivial (λm _ _=>?_) λm i _ e _ K=>?_
 ·rw[wk];exact iP (by rw[cW];omega) (cH (.inl rfl))
 ·rw[wk];refine jo (by rw[cW];omega) ?_;simp only[dA e,cw,dO (show i<2^31 by omega)];exact dr (λ_=>dr (λ_=>dr (λ_=>cH (.inr ⟨i,rfl,e⟩)) λ_=>K () trivial) λ_=>K () trivial) λ_=>K () trivial
def aa8{a:List eo}{e:Int}(u:a.length<=100000)(x:2^41<=n):Ok (Iu n a e) λ_=>True:=by
 unfold Iu;refine jn (N:=a.length) (by omega) (λm(_:Unit)i=>yE n m a e i _) (λ_ _=>True) (m:=n) (s:=()) (by omega) trivial (λm _ _=>?_) λm i _ j _ K=>?_
 ·rw[yE];exact iP (by rw[cW];omega) (cH trivial)
 ·rw[yE];refine jo (by rw[cW];omega) ?_;simp only[dA j,cw,dO (show i<2^31 by omega)];exact dr (λ_=>eg (dr (λ_=>K () trivial) λ_=>cH trivial)) λ_=>K () trivial
def CB{a:List Int}{x:Int}(j:a.length<=100000)(u:2^41<=n):Ok (nu n a x) λ_=>True:=by
 unfold nu;refine jn (N:=a.length) (by omega) (λm(_:Unit)i=>BD n m a x i _) (λ_ _=>True) (m:=n) (s:=()) (by omega) trivial (λm _ _=>?_) λm i _ e _ K=>?_
 ·rw[BD];exact iP (by rw[cW];omega) (cH trivial)
 ·rw[BD];refine jo (by rw[cW];omega) ?_;simp only[dA e,cw,dO (show i<2^31 by omega)];exact dr (λ_=>cH trivial) λ_=>K () trivial
def ack{x:Int}(hx:0<=x/\x<=1000000000000)(H:2^41+1<=n):Ok (zk n x) λs=>s.length<=100:=by
 obtain⟨n,rfl⟩:∃m,n=m+1:=⟨n-1,by omega⟩;rw[zk];have I:0<=x/100:=DP hx.1 (by omega);have J:x/100<=x:=HL _ hx.1;have j:0<=x % 100:=DQ _ (by omega);have u:x % 100<100:=DR _ (by omega);generalize y:x % 100=r at j u;have M:0<=r/10:=DP j (by omega);have N:r/10<=r:=HL _ j;have t0:0<=r % 10:=DQ _ (by omega);have t1:r % 10<10:=DR _ (by omega);refine iP (by omega) (tO (by omega) hx.1 (tN (by omega) hx.1 (by omega) ?_));rw[y];refine oL (by omega) (by omega) λa A=>iQ _ 1 A (by simp) (by omega) λb C=>tN (by omega) j (by omega) (oL (by omega) (by omega) λc D=>iQ _ _ C D (by omega) λd E=>tO (by omega) j (oL (by omega) (by omega) λe F=>iQ _ _ E F (by omega) λf P=>cH (by omega)))
def NN{K:Nat}{t:eo}(h:n7 K t)(y:2^41+1<=n):Ok (By n t) λ_=>True:=by
 have u:=h.back;have J:=h.cu;have j:Ok (ck (fb n t.cu) λA=>ck (da [115,111,108,100,32] A) λC=>ck (da C [32,97,116,32]) λD=>ck (zk n t.en) λE=>ck (da D E) λF=>some F) λ_=>True:=
  oL (by omega) (by omega) λa x=>iQ 5 _ (by simp) x (by omega) λb u=>iQ _ 4 u (by simp) (by omega) λc H=>dq (ack h.en y) λd I=>iQ _ _ H I (by omega) λe M=>cH trivial;unfold By;refine dr (λ_=>eu (λ_=>?_) λ_=>dr (λ_=>j) λ_=>dr (λ_=>cH trivial) λ_=>cH trivial) λ_=>dr (λ_=>j) λ_=>dr (λ_=>cH trivial) λ_=>cH trivial;exact oL (by omega) (by omega) λa x=>iQ 5 _ (by simp) x (by omega) λb u=>cH trivial
def Tg{t:dm}(h:lI t)(C:2^41<=n):Ok (zm n t) λs=>s.length<=11000:=by
 have H:=h.l;have D:=h.f;have I:=h.s;unfold zm;refine jn (N:=t.cJ.length) (by omega) (λm(s:cq)i=>yP n m s i t _) (λi s=>s.length<=101*i) (m:=n) (s:=[]) (by omega) (by simp) (λm s j=>?_) λm i s y j K=>?_
 ·rw[yP];refine iP (by rw[cW];omega) ?_;exact iQ (101*100) 1 (by omega) (by simp) (by omega) λa u=>iQ _ 100 u D (by omega) λb x=>iQ _ 1 x (by simp) (by omega) λc E=>oL C (by omega) λd F=>iQ _ _ E F (by omega) λe J=>cH (by omega)
 ·rw[yP];have A:=h.w _ (dM y);refine jo (by rw[cW];omega) ?_;simp only[dA y,cw,dO (show i<2^31 by omega)];refine eu (λ_=>?_) λ_=>?_
  ·exact iQ _ 1 j (by simp) (by omega) λa u=>iQ _ _ u A (by omega) λb x=>K b (by omega)
  ·exact iQ _ _ j A (by omega) λb x=>K b (by omega)
def Th{t:eo}(h1:-1000000000000000<=t.cu/\t.cu<=1000000000000000)(h2:-1000000000000000<=t.lk/\t.lk<=1000000000000000)(h3:-1000000000000000<=t.back/\t.back<=1000000000000000)(A:lI t.fY)(x:2^41<=n):Ok (uQ n t) λs=>s.length<=20000:=by
 have u:∀w:cq,w.length<=2->Ok (ck (fb n t.cu) λC=>ck (da w C) λD=>ck (da D [32]) λE=>ck (fb n t.lk) λF=>ck (da E F) λH=>ck (da H [32]) λI=>ck (fb n t.back) λJ=>ck (da I J) λM=>ck (da M [32]) λN=>ck (zm n t.fY) λP=>ck (da N P) λy=>some y) λs=>s.length<=20000:=λw S=>
  oL x (by omega) λa U=>iQ _ _ S U (by omega) λb Y=>iQ _ 1 Y (by simp) (by omega) λc Z=>oL x (by omega) λd hd=>iQ _ _ Z hd (by omega) λe he=>iQ _ 1 he (by simp) (by omega) λf hf=>oL x (by omega) λg hg=>iQ _ _ hf hg (by omega) λi hi=>iQ _ 1 hi (by simp) (by omega) λj hj=>dq (Tg A x) λk hk=>iQ _ _ hj hk (by omega) λl hl=>cH (by omega)
 unfold uQ;exact dr (λ_=>u _ (by simp)) λ_=>u _ (by simp)
def WX{a r:cq}(j:a.length<=9000)(y:r.length<=100000)(u:2^41<=n):Ok (w5 n a r) λx=>x.1.length<=9000/\a<+:x.1:=by
 refine G1 (NB (by omega) (by omega) u) ?_;unfold qG;split
 ·rename_i x e;split at e
  ·injection e with e;rename_i A;subst e;exact⟨by show(a++_).length<=9000;rw[fg];omega,s5 _ _⟩
  ·cases e
 ·exact⟨j,ta _⟩
def RP{c:dP}{e:List dt}(h:Hw n c)(y:vI n c.net e)(J:2^41<=n):Ok (wz n c e) λl=>l.length<=2/\∀x∈l,1<=x/\x<=2:=by
 have M:=y.l;have k0:∀m s:Nat,∀a:List Int,1<=s->s<=3->3<m+s->a.length+1<=s->(∀x∈a,1<=x/\x<=2)->Ok (DX n m e a s c λj=>some j) λl=>l.length<=2/\∀x∈l,1<=x/\x<=2:=by
  intro m
  induction m with
  |zero=>intro s a D E F;omega
  |succ m A=>
   intro s a D E F P u
   rw[DX]
   refine nV (λH=>?_) λH=>cH ⟨by omega,u⟩
   refine jn (N:=e.length) (by omega) (λm(_:Unit)i=>AY n m e a s i c _) (λ_ _=>True) (m:=n) (s:=()) (by omega) trivial (λI _ _=>?_) λI i _ C _ K=>?_
   ·rw[AY];refine iP (by rw[cW];omega) ?_;rw[dO (by omega)];exact A (s+1) a (by omega) (by omega) (by omega) (by omega) u
   ·rw[AY];refine jo (by rw[cW];omega) ?_;rw[dA C,cw,dO (show i<2^31 by omega)];refine UR h y (dM C) λx _=>dr (λ_=>?_) λ_=>K () trivial;refine fc (by simp;omega) (by omega) ?_;rw[dO (by omega)];refine A (s+1) (a++[(s:Int)]) (by omega) (by omega) (by omega) (by simp;omega) λx hx=>?_;rcases eJ.1 hx with hx|hx
    ·exact u x hx
    ·rw[gf] at hx;omega
 exact k0 n 1 [] (by omega) (by omega) (by omega) (by simp) (by simp)
structure gu(b:Nat)(ms:List cO):Prop where
 l:ms.length<=b
 m:∀m∈ms,oR m
def gu.nil{b:Nat}:gu b []:=⟨by simp,λx hx=>by cases hx⟩
def gu.mono{a b:Nat}{l:List cO}(h:gu a l)(e:a<=b):gu b l:=⟨by have:=h.l;omega,h.m⟩
def gu.add{a:Nat}{l:List cO}{m:cO}(h:gu a l)(e:oR m):gu (a+1) (l++[m]):=⟨by have:=h.l;simp;omega,λx hx=>by
 rcases eJ.1 hx with hx|hx
 ·exact h.m x hx
 ·rw[gf] at hx;rw[hx];exact e⟩
def gu.app{a b:Nat}{l k:List cO}(h:gu a l)(e:gu b k):gu (a+b) (l++k):=⟨by have:=h.l;have:=e.l;simp;omega,λx hx=>(eJ.1 hx).elim (h.m x) (e.m x)⟩
def gu.one{m:cO}(h:oR m):gu 1 [m]:=⟨by simp,λx hx=>by rw[gf] at hx;rw[hx];exact h⟩
def RQ{K:Nat}{c:dP}{t:eo}(h:Hw n c)(A:n7 K t)(P:K<=10000)(J:2^42<=n):Ok (yD n c t) (gu 2):=by
 have C:=A.sl;have F:=A.yes;unfold yD;refine dq (Ov h A.fY J) λe j=>?_;have S:=j.l;refine jn (N:=t.eO.length) (by omega) (λm(s:List cO)i=>yt n m s e i c t _) (λi s=>gu i s) (m:=n) (s:=[]) (by omega) gu.nil (λm s u=>?_) λm i s D u H=>?_
 ·rw[yt];exact iP (by rw[cW];omega) (cH (u.mono C))
 ·rw[yt];have U:=A.sb _ (dM D);refine jo (by rw[cW];omega) ?_;rw[dA D,cw,cw,dO (show i<2^31 by omega)];refine dq (CB (by omega) (by omega)) λb _=>ef (λ_=>H s (u.mono (by omega))) λ_=>?_;refine jn (N:=e.length) (by omega) (λm(x:cO)k=>yr n m s e i k c t x _) (λk x=>x.to=t.eO[i]/\x.ops.length<=k/\∀o∈x.ops,o∈e) (m:=n) (s:=cO.mk 1 0 t.eO[i] t.cu [] false) (by omega) ⟨rfl,by show(0:Nat)<=0;omega,λo j=>by cases j⟩ (λM x hx=>?_) λM k x E hx I=>?_
  ·rw[yr];refine iP (by rw[cW];omega) (fc (by have:=u.l;simp;omega) (by omega) ?_);rw[dO (show i<2^31 by omega)];exact H _ (u.add ⟨by rw[hx.1];omega,by have:=hx.2.1;omega,λo a=>(j.o o (hx.2.2 o a)).1⟩)
  ·rw[yr];refine jo (by rw[cW];omega) ?_;simp only[dA E,dA D,cw,dO (show k<2^31 by omega)];refine UR h j (dM E) λy _=>dr (λ_=>?_) λ_=>I x ⟨hx.1,by omega,hx.2.2⟩;refine fc (by have:=hx.2.1;simp;omega) (by omega) (I _ ⟨hx.1,by have:=hx.2.1;show(x.ops++_).length<=k+1;simp;omega,λo a=>?_⟩);rcases eJ.1 a with a|a
   ·exact hx.2.2 o a
   ·rw[gf] at a;rw[a];exact dM E
def Ep{K:Nat}{list:List eo}(y:list.length<=100000)(h:∀t∈list,n7 K t)(A:K<=10000)(C:2^41<=n):om n list=some list:=by
 unfold om;have:=Kz (xs:=list) (f:=λt:eo=>t) (by omega) (L:=λm a i=>AQ n m list a i λe=>some e) (k:=λa=>some a) (λm a x=>by
  rw[AQ,tX (by rw[cW];omega),cR]) (λm i a u x=>by
  have j:=h _ (dM u)
  have D:=j.fY.l
  have E:=j.sl
  have F:=j.yes
  have H:=j.jt
  rw[AQ,xK (by rw[cW];omega),cP,dA u,cw]
  unfold Od
  rw[fW (by simp;omega) (by omega),cw,cw,fW (by simp;omega) (by omega),cw,fW (by simp;omega) (by omega),cw,fW (by simp;omega) (by omega),cw,fW (by simp;omega) (by omega),cw]
  simp only[iC]) (m:=n) (by omega);rw[this,List.map_id']
def Sq{K:Nat}{t:eo}(e:n7 K t)(C:K<=10000)(D:2^41<=n):Ok (yQ n t) (gu 2):=by
 have j:=e.sl;have y:=e.jt;unfold yQ;refine jn (N:=t.eO.length) (by omega) (λm(s:List cO)i=>yw n m s i t _) (λi s=>gu i s) (m:=n) (s:=[]) (by omega) gu.nil (λm s a=>?_) λm i s u a x=>?_
 ·rw[yw];exact iP (by rw[cW];omega) (cH (a.mono j))
 ·rw[yw];have E:=e.sb _ (dM u);refine jo (by rw[cW];omega) ?_;simp only[dA u,cw,dO (show i<2^31 by omega)];refine dq (CB (by omega) (by omega)) λb _=>eg (ef (λ_=>x s (a.mono (by omega))) λ_=>?_);refine fc (by have:=a.l;simp;omega) (by omega) (x _ (a.add ⟨by show 0<=t.eO[i]/\t.eO[i]<=2;omega,by show(0:Nat)<=3;omega,λo A=>by cases A⟩))
end
end
section
section
variable{n:Nat}{R:Type}{Q:R->Prop}
def tC{a:Type}{l:List a}{i:Int}{v x:a}(h:x∈du l i v):x∈l\/x=v:=by
 unfold du at h;exact Ax h
structure Aj(n K B:Nat)(c0:dP)(x:dP×List cO×List iV):Prop where
 c:hJ n K x.1
 l:c0.dw<+:x.1.dw
 m:gu B x.2.1
 t:x.2.2.length<=B
 s:x.1.cB.length=c0.cB.length
def Ow{K:Nat}{c:dP}{k:Nat}{y:Int}(h:hJ n K c)(A:k<c.cB.length)(E:K<=10000)(H:2^42<=n):Ok (Ct n c k y) (Aj n K 2 c):=by
 have e:=h.t _ (dM A);have I:=e.cu;have J:=e.lk;have M:=e.back;have j:n7 K {c.cB[k] with de:=y,lL:=0}:=⟨e.cu,e.lk,e.back,e.fY,e.en,e.sl,e.sb,e.yes,e.jt⟩;unfold Ct;rw[dA A,cw];refine dq (Th (by show _<=c.cB[k].cu/\c.cB[k].cu<=_;omega) (by show _<=c.cB[k].lk/\c.cB[k].lk<=_;omega) (by show _<=c.cB[k].back/\c.cB[k].back<=_;omega) e.fY (by omega)) λline C=>dq (WX h.lg (by omega) (by omega)) λN x=>eg (ef (λ_=>?_) λ_=>cH ⟨h,ta _,gu.nil,by show(0:Nat)<=2;omega,rfl⟩);rw[Ep (K:=K) (by have:=h.tl;omega) h.t E (by omega),cw,dA A,cw,cw];refine dq (Sq j E (by omega)) λP D=>dq (NN j (by omega)) λa _=>cH ?_;have F:=(h.dw x.1).cB (ts:=du c.cB k {c.cB[k] with de:=y,lL:=0}) (by rw[lR];exact h.tl) λt u=>by
  rcases tC u with u|rfl
  ·exact h.t t u
  ·exact j
 exact⟨F,x.2,D,by show(1:Nat)<=2;omega,lR _ _ _⟩
def Qe{a:Int}{f:Unit->Option R}(h:Ok (f ()) Q):Ok (ck (dV (cp a a)) f) Q:=by
 rw[ez,gF rfl];exact h
def afs{K:Nat}{c:dP}{k:Nat}{m:cO}(h:hJ n K c)(u:k<c.cB.length)(E:K<=9999)(A:2^42<=n):Ok (E7 n c k m) (Aj n (K+1) 2 c):=by
 have a:=h.t _ (dM u);have F:=a.yes;have H:=a.sl;have j:=h.mono (show K<=K+1 by omega);have C:Aj n (K+1) 2 c (c,[],[]):=⟨j,ta _,gu.nil,by show(0:Nat)<=2;omega,rfl⟩;unfold E7;refine eg (ef (λ_=>?_) λ_=>dq (Ow j u (by omega) A) λx hx=>cH ⟨hx.c,hx.l,hx.m,hx.t,hx.s⟩);rw[dA u,cw];refine dq (CB (by omega) (by omega)) λb _=>ef (λ_=>cH C) λ_=>dq (CB (by omega) (by omega)) λb _=>eg (ef (λ_=>?_) λ_=>cH C);rw[Ep (K:=K) (by have:=h.tl;omega) h.t (by omega) (by omega)];simp only[cw,dA u];have y:n7 (K+1) {c.cB[k] with yes:=c.cB[k].yes++[m.cL]}:=⟨a.cu,a.lk,a.back,a.fY,a.en,a.sl,a.sb,by show(_++[_]).length<=_;simp;omega,by have:=a.jt;show c.cB[k].jt.length<=_;omega⟩;have D:=j.cB (ts:=du c.cB k {c.cB[k] with yes:=c.cB[k].yes++[m.cL]}) (by rw[lR];exact j.tl) λt e=>by
  rcases tC e with e|rfl
  ·exact j.t t e
  ·exact y
 refine ef (λ_=>fc (by simp;omega) (by omega) (Qe (cH ⟨D,ta _,gu.nil,by show(0:Nat)<=2;omega,lR _ _ _⟩))) λ_=>fc (by simp;omega) (by omega) (Qe ?_);refine dq (Ow D (by show k<(du _ _ _).length;rw[lR];exact u) (by omega) A) λx hx=>ef (λ_=>cH ⟨j,ta _,hx.m,hx.t,rfl⟩) λ_=>cH ⟨hx.c,hx.l,hx.m,hx.t,by rw[hx.s];exact lR _ _ _⟩
def Ti{K:Nat}{c:dP}{m:cO}(h:hJ n K c)(N:K<=9999)(P:2^42<=n):Ok (E8 n c m) (Aj n (K+1) 2 c):=by
 have A:=h.mono (show K<=K+1 by omega);have u:Aj n (K+1) 2 c (c,[],[]):=⟨A,ta _,gu.nil,by show(0:Nat)<=2;omega,rfl⟩;unfold E8;refine eg (ef (λ_=>eg (dr (λ_=>kD (eg (jV (λhf=>?_) λ_=>cH u))) λ_=>cH u)) λ_=>cH u);have ask:∀C F:Bool,Ok (cond (cp m.kind 5) (cond C (ck (dC n m.cu 1 99) λa=>cond a (some (c,[cO.mk 3 0 m.cL m.cu [] F],([]:List iV))) (some (c,[],[]))) (some (c,[],[]))) (some (c,[],[]))) (Aj n (K+1) 2 c):=λC F=>
  ef (λ_=>ef (λ_=>kD (ef (λ_=>cH ⟨A,ta _,(gu.one (m:=cO.mk 3 0 m.cL m.cu [] F) ⟨by show 0<=m.cL/\m.cL<=2;omega,by show(0:Nat)<=3;omega,λo S=>by cases S⟩).mono (by omega),by show(0:Nat)<=2;omega,rfl⟩) λ_=>cH u)) λ_=>cH u) λ_=>cH u
 refine dq (UW (by have:=h.tl;omega) (by omega)) λx hx=>nV (λU=>?_) λU=>?_
 ·rcases hx with hx|⟨k,rfl,E⟩
  ·omega
  have e:=h.t _ (dM E);have hs:=e.sl;have ha:=e.jt;rw[dA E,cw];have D:∀C M:Bool,Ok (cond (cp m.kind 4) (cond (dI 0 (k:Int)) (cond C (cond M (ck (some c.cB[k]) λY=>ck (nu n Y.eO m.cL) λZ=>cond Z (ck (some c.cB[k]) λx6=>ck (nu n x6.jt m.cL) λx7=>cond (cF x7) (ck (om n c.cB) λy=>ck (cm y k) λx9=>ck (cm y k) λaa=>ck (cm y k) λH=>ck (cZ 8 H.jt [m.cL]) λI=>ck (cm y k) λab=>ck (dV (cp (k:Int) k)) λad=>ck (cm y k) λJ=>some ({c with cB:=du y k {J with jt:=I}},[],[]))
    (cond (cp m.kind 5) (cond (cF (cp c.cB[k].de 1)) (ck (dC n m.cu 1 99) λa=>cond a (some (c,[cO.mk 3 0 m.cL m.cu [] (cp c.cB[k].de 2)],([]:List iV))) (some (c,[],[]))) (some (c,[],[]))) (some (c,[],[]))))
    (cond (cp m.kind 5) (cond (cF (cp c.cB[k].de 1)) (ck (dC n m.cu 1 99) λa=>cond a (some (c,[cO.mk 3 0 m.cL m.cu [] (cp c.cB[k].de 2)],([]:List iV))) (some (c,[],[]))) (some (c,[],[]))) (some (c,[],[]))))
    (cond (cp m.kind 5) (cond (cF (cp c.cB[k].de 1)) (ck (dC n m.cu 1 99) λa=>cond a (some (c,[cO.mk 3 0 m.cL m.cu [] (cp c.cB[k].de 2)],([]:List iV))) (some (c,[],[]))) (some (c,[],[]))) (some (c,[],[]))))
    (cond (cp m.kind 5) (cond (cF (cp c.cB[k].de 1)) (ck (dC n m.cu 1 99) λa=>cond a (some (c,[cO.mk 3 0 m.cL m.cu [] (cp c.cB[k].de 2)],([]:List iV))) (some (c,[],[]))) (some (c,[],[]))) (some (c,[],[]))))
    (cond (cp m.kind 5) (cond (cF (cp c.cB[k].de 1)) (ck (dC n m.cu 1 99) λa=>cond a (some (c,[cO.mk 3 0 m.cL m.cu [] (cp c.cB[k].de 2)],([]:List iV))) (some (c,[],[]))) (some (c,[],[]))) (some (c,[],[]))))
    (cond (cp m.kind 5) (cond (cF (cp c.cB[k].de 1)) (ck (dC n m.cu 1 99) λa=>cond a (some (c,[cO.mk 3 0 m.cL m.cu [] (cp c.cB[k].de 2)],([]:List iV))) (some (c,[],[]))) (some (c,[],[]))) (some (c,[],[])))) (Aj n (K+1) 2 c):=λC M=>by
   refine ef (λ_=>ef (λ_=>ef (λ_=>ef (λ_=>?_) λ_=>ask _ _) λ_=>ask _ _) λ_=>ask _ _) λ_=>ask _ _
   rw[cw]
   refine dq (CB (by omega) (by omega)) λb _=>ef (λ_=>?_) λ_=>ask _ _
   rw[cw]
   refine dq (CB (by omega) (by omega)) λb _=>eg (ef (λ_=>ask _ _) λ_=>?_)
   rw[Ep (K:=K) (by have:=h.tl;omega) h.t (by omega) (by omega)]
   simp only[cw,dA E]
   refine fc (by simp;omega) (by omega) (Qe (cH ⟨A.cB (by rw[lR];exact A.tl) λt j=>?_,ta _,gu.nil,by show(0:Nat)<=2;omega,lR _ _ _⟩))
   rcases tC j with j|rfl
   ·exact A.t t j
   ·exact⟨e.cu,e.lk,e.back,e.fY,e.en,e.sl,e.sb,by have:=e.yes;show c.cB[k].yes.length<=_;omega,by show(_++[_]).length<=_;simp;omega⟩
  refine dr (λ_=>dr (λ_=>dq (afs h E N P) λx hx=>cH ⟨hx.c,hx.l,hx.m,hx.t,hx.s⟩) λ_=>D _ _) λ_=>D _ _
 ·refine dr (λ_=>dr (λh=>absurd h (by omega)) λ_=>ef (λ_=>nV (λh=>absurd h (by omega)) λ_=>ask _ _) λ_=>ask _ _) λ_=>ef (λ_=>nV (λh=>absurd h (by omega)) λ_=>ask _ _) λ_=>ask _ _
end
end
section
section
variable{n:Nat}{R:Type}{Q:R->Prop}
structure G5(n K:Nat)(x:dP×List cO×cq):Prop where
 c:hJ n K x.1
 m:gu 2 x.2.1
def UX{K:Nat}{c:dP}{t:eo}(h:hJ n K c)(e:n7 K t)(Y:K<=9999)(E:2^42<=n):Ok (ED n c t) λx=>hJ n (K+1) x.1/\gu 2 x.2.1:=by
 have hx:=h.nx;have J:=h.tl;have F:=h.mono (show K<=K+1 by omega);have H:∀b:Bool,hJ n (K+1) (c,([]:List cO),b).1/\gu 2 (c,([]:List cO),b).2.1:=λb=>⟨F,gu.nil⟩;unfold ED;refine oL (by omega) (by omega) λa M=>iQ 2 _ (by simp) M (by omega) λr Z=>dq (WX h.lg (by omega) (by omega)) λN A=>eg (ef (λ_=>eu (λ_=>cH (H _)) λP=>?_) λ_=>cH (H _));have C:lI ({t with cu:=c.next,de:=1}:eo).fY:=e.fY;refine dq (Ov h.b C E) λS U=>dq (RP h.b U (by omega)) λsh u=>?_;have y:n7 (K+1) {t with cu:=c.next,de:=1,eO:=sh}:=⟨by show 0<=c.next/\c.next<=1000;omega,e.lk,e.back,e.fY,e.en,u.1,u.2,by have:=e.yes;show t.yes.length<=_;omega,by have:=e.jt;show t.jt.length<=_;omega⟩;refine fc (by simp;omega) (by omega) (fc (by simp;omega) (by omega) ?_);rw[jb (by omega) (by omega) (by omega) (by omega),iC];have I:hJ n (K+1) {c with dw:=N.1,next:=c.next+1,cB:=c.cB++[{t with cu:=c.next,de:=1,eO:=sh}]}:=⟨⟨h.b.net,h.b.base,h.b.ni,h.b.wb,h.b.ir⟩,A.1,by show 0<=c.next+1/\c.next+1<=100;omega,by show(c.cB++[_]).length<=_;simp;omega,λq j=>by
  rcases eJ.1 j with j|j
  ·exact F.t q j
  ·rw[gf] at j;rw[j];exact y⟩;exact dq (RQ I.b y (by omega) E) λms D=>cH ⟨I,D⟩
def aft{K:Nat}{c:dP}{e:Int}{t:dm}(h:hJ n K c)(u:lI t)(F:K<=9999)(A:2^42<=n):Ok (Jc n c e t) (G5 n (K+1)):=by
 have H:=h.mono (show K<=K+1 by omega);have j:∀s:cq,G5 n (K+1) (c,[],s):=λs=>⟨H,gu.nil⟩;unfold Jc;refine eg (ef (λ_=>kD (eg (jV (λM=>?_) λ_=>cH (j _)))) λ_=>cH (j _));refine dq (UU (by have:=h.tl;omega) (by omega)) λx hx=>nV (λN=>?_) λ_=>?_
 ·rcases hx with hx|⟨k,rfl,C⟩
  ·omega
  rw[dA C,cw];exact dq (NN (h.t _ (dM C)) (by omega)) λa _=>cH (j _)
 ·refine dq (Pm h.b.net h.b.ir u A) λo D=>eg (dr (λ_=>?_) λ_=>?_)
  ·have I:n7 K (eo.mk 0 e 0 t o.2.1 0 [] [] [] 0):=⟨by show(0:Int)<=0/\(0:Int)<=1000;omega,by show 0<=e/\e<=1000;omega,by show(0:Int)<=0/\(0:Int)<=1000;omega,u,D.2.1,by show(0:Nat)<=2;omega,λx hx=>(by cases hx),by show(0:Nat)<=_;omega,by show(0:Nat)<=_;omega⟩;exact dq (UX h I F A) λy E=>eg (ef (λ_=>cH ⟨E.1,E.2⟩) λ_=>cH (j _))
  ·have:=D.2.2;exact oL (by omega) (by omega) λa J=>iQ 4 _ (by simp) J (by omega) λb _=>cH (j _)
def afu{K:Nat}{c:dP}{j e:Int}(h:hJ n K c)(E:0<=e/\e<=1000)(F:K<=9999)(H:2^42<=n):Ok (Je n c j e) (G5 n (K+1)):=by
 have I:=h.mono (show K<=K+1 by omega);have u:∀s:cq,G5 n (K+1) (c,[],s):=λs=>⟨I,gu.nil⟩;unfold Je;refine eg (ef (λ_=>kD (eg (jV (λN=>?_) λ_=>cH (u _)))) λ_=>cH (u _));refine dq (UU (by have:=h.tl;omega) (by omega)) λx hx=>nV (λJ=>?_) λ_=>?_
 ·rcases hx with hx|⟨k,rfl,A⟩
  ·omega
  rw[dA A,cw];exact dq (NN (h.t _ (dM A)) (by omega)) λa _=>cH (u _)
 ·refine dq (acj (by have:=h.tl;omega) (by omega)) λx hx=>eu (λ_=>cH (u _)) λJ=>?_;rcases hx with hx|⟨k,rfl,A⟩
  ·omega
  refine dq (aa8 (by have:=h.tl;omega) (by omega)) λb _=>ef (λ_=>cH (u _)) λ_=>?_;have C:=h.t _ (dM A);rw[dA A,cw,cw];have M:n7 K (eo.mk 0 j e c.cB[k].fY c.cB[k].en 0 [] [] [] 0):=⟨by show(0:Int)<=0/\(0:Int)<=1000;omega,by show 0<=j/\j<=1000;omega,E,C.fY,C.en,by show(0:Nat)<=2;omega,λx hx=>(by cases hx),by show(0:Nat)<=_;omega,by show(0:Nat)<=_;omega⟩;exact dq (UX h M F H) λy D=>eg (ef (λ_=>cH ⟨D.1,D.2⟩) λ_=>cH (u _))
def acm{K:Nat}{c:dP}(h:hJ n K c)(hK:K<=9999)(hn:2^42<=n):Ok (Jh n c) λx=>hJ n K x.1/\gu 30000 x.2.1/\x.2.2.length<=30000:=by
 have ab:=h.tl;unfold Jh;refine jn (N:=c.cB.length) (by omega) (λm(s:List cO×List iV×dP)i=>oo n m s.1 s.2.1 i s.2.2 _) (λi s=>gu (2*i) s.1/\s.2.1.length<=2*i/\hJ n K s.2.2/\s.2.2.cB.length=c.cB.length) (m:=n) (s:=([],[],c)) (by omega) ⟨gu.nil,by show(0:Nat)<=_;omega,h,rfl⟩ (λm s P=>?_) λm i s hi P J=>?_
 ·obtain⟨D,h2,j,H⟩:=P;rw[oo];exact iP (by rw[cW];omega) (cH ⟨j,D.mono (by omega),by show s.2.1.length<=_;omega⟩)
 ·obtain⟨D,h2,j,H⟩:=P;have M:i<s.2.2.cB.length:=by omega
  have ad:=D.l;have u:=j.t _ (dM M);rw[oo];refine jo (by rw[cW];omega) (ef (λ_=>?_) λ_=>cH ⟨j,D.mono (by omega),by show s.2.1.length<=_;omega⟩);have next:Ok (oo n m s.1 s.2.1 (cz .i64 (i:Int) 1) s.2.2 λa e y=>some (y,a,e)) λx=>hJ n K x.1/\gu 30000 x.2.1/\x.2.2.length<=30000:=by
   rw[dO (by omega)]
   exact J s ⟨D.mono (by omega),by omega,j,H⟩
  rw[dA M,cw];have dec:Ok (ck (yQ n s.2.2.cB[i]) λS=>ck (cZ 64 s.1 S) λU=>oo n m U s.2.1 (cz .i64 (i:Int) 1) s.2.2 λa e y=>some (y,a,e)) λx=>hJ n K x.1/\gu 30000 x.2.1/\x.2.2.length<=30000:=by
   refine dq (Sq u (by omega) (by omega)) λY A=>fc (by have:=A.l;omega) (by omega) ?_
   rw[dO (by omega)]
   exact J (s.1++Y,s.2.1,s.2.2) ⟨(D.app A).mono (by omega),by show s.2.1.length<=_;omega,j,H⟩
  have E:Ok (ck (om n s.2.2.cB) λC=>ck (cm C i) λae=>ck (cm C i) λI=>ck (yD n {s.2.2 with cB:=du C i {I with lL:=cz .i64 s.2.2.cB[i].lL 1}} s.2.2.cB[i]) λZ=>ck (cZ 64 s.1 Z) λaa=>oo n m aa s.2.1 (cz .i64 (i:Int) 1) {s.2.2 with cB:=du C i {I with lL:=cz .i64 s.2.2.cB[i].lL 1}} λa e y=>some (y,a,e)) λx=>hJ n K x.1/\gu 30000 x.2.1/\x.2.2.length<=30000:=by
   rw[Ep (K:=K) (by have:=j.tl;omega) j.t (by omega) (by omega)]
   simp only[cw,dA M]
   have hc:=j.cB (ts:=du s.2.2.cB i {s.2.2.cB[i] with lL:=cz .i64 s.2.2.cB[i].lL 1}) (by rw[lR];exact j.tl) λt F=>by
    rcases tC F with F|rfl
    ·exact j.t t F
    ·exact⟨u.cu,u.lk,u.back,u.fY,u.en,u.sl,u.sb,u.yes,u.jt⟩
   refine dq (RQ hc.b u (by omega) hn) λY A=>fc (by have:=A.l;omega) (by omega) ?_;rw[dO (by omega)];exact J (s.1++Y,s.2.1,_) ⟨(D.app A).mono (by omega),by show s.2.1.length<=_;omega,hc,by show(du _ _ _).length=_;rw[lR];exact H⟩
  refine dr (λ_=>nV (λ_=>?_) λ_=>dr (λ_=>E) λ_=>dr (λ_=>dec) λ_=>next) λ_=>dr (λ_=>E) λ_=>dr (λ_=>dec) λ_=>next
  refine dq (Ow j M (by omega) hn) λx hx=>fc (by have:=hx.m.l;omega) (by omega) (fc (by have:=hx.t;omega) (by omega) ?_);rw[dO (by omega)];exact J (s.1++x.2.1,s.2.1++x.2.2,x.1) ⟨(D.app hx.m).mono (by omega),by have:=hx.t;show(s.2.1++x.2.2).length<=_;rw[fg];omega,hx.c,by show x.1.cB.length=_;rw[hx.s];exact H⟩
def aa9{K:Nat}{c:dP}{m:cO}{bytes:Int}(h:hJ n K c)(e:-1000<=bytes/\bytes<=100000)(j:K<=9999)(u:2^42<=n):Ok (EF n c m bytes) (hJ n (K+1)):=by
 unfold EF;refine dq (Ti h j u) λx hx=>dq (V8 hx.l e hx.c.lg) λy a=>cH ?_;have:=a.length_le;have:=hx.c.lg;exact⟨⟨h.b.net,h.b.base,h.b.ni,h.b.wb,h.b.ir⟩,by show y.length<=9000;omega,by show(0:Int)<=0/\(0:Int)<=100;omega,by show(0:Nat)<=_;omega,λt A=>by cases A⟩
end
end
section
section
variable{n:Nat}{R:Type}{Q:R->Prop}
def adZ(s:cq):-1<=eB s/\eB s<1000000000000:=by
 rcases ER s with⟨v,_,_,h,a⟩|⟨h,_⟩<;>omega
structure Xu(t:dm):Prop where
 l:t.cJ.length<=100000
 w:∀s∈t.cJ,s.length<=100000
 f:t.jd.length<=100000
def ad0{t:dm}(h:Xu t)(D:2^41<=n):Ok (zx n t) λb=>b=true->lI t:=by
 have I:=h.l;have J:=h.f;have e:∀{p:Prop},false=true->p:=λh=>(by cases h);unfold zx;refine jn (N:=t.cJ.length) (by omega) (λm(_:Unit)i=>uL n m i t _) (λi _=>∀j(a:j<t.cJ.length),j<i->gY t.cJ[j]=true) (m:=n) (s:=()) (by omega) (λj _ a=>by omega) (λm _ u=>?_) λm i _ x u K=>?_
 ·rw[uL];refine iP (by rw[cW];omega) (kD (jV (λE=>?_) λ_=>cH e));rw[rY (by omega) D,cw];refine ef (λy=>kD (cH λA=>?_)) λ_=>cH e;rw[dQ] at A;rw[cW] at E;have:=(lS y).2.2;refine⟨by omega,λs A=>?_,by omega,by omega⟩;obtain⟨j,a,rfl⟩:=p8 A;have:=(lS (u j a a)).2.2;omega
 ·rw[uL];refine jo (by rw[cW];omega) ?_;have M:=h.w _ (dM x);rw[dA x,cw,rY (by omega) D,cw];refine eg (ef (λC=>?_) λ_=>cH e);refine jn (N:=i) (by omega) (λm(_:Unit)k=>uK n m i k t _) (λ_ _=>True) (m:=n) (s:=()) (by omega) trivial (λm _ _=>?_) λm j _ a _ F=>?_
  ·rw[uK];refine iP (by omega) ?_;rw[dO (by omega)];refine K () λj a H=>?_
   by_cases c:j=i
   ·subst c;exact C
   ·exact u j a (by omega)
  ·rw[uK];refine jo (by omega) ?_;rw[dA (show j<t.cJ.length by omega),cw,dA x,cw,dO (by omega)];exact oJ (λ_=>cH e) λ_=>F () trivial
def aaA{text:cq}(N:text.length<=9000)(a:2^41<=n):Ok (EG n text) λx=>lI x.1:=by
 have C:lI (dm.mk [] [] 0):=⟨by show(0:Nat)<=100;omega,λx hx=>(by cases hx),by show(0:Nat)<=100;omega,by show-1000<=(0:Int)/\(0:Int)<=1000;omega⟩;unfold EG;rw[show oz n text 47=some (dB 47 text) from CP (c:=47) (by omega) a,cw];refine eg (dr (λD=>?_) λ_=>cH C);rw[cW] at D;have j:∀i(h:i<(dB 47 text).length),(dB 47 text)[i].length<=9000:=λi h=>by
  have:=uR (dM h);omega
 have e:∀i:Nat,(h:i<(dB 47 text).length)->cm (dB 47 text) (i:Int)=some (dB 47 text)[i]:=λi h=>dA h;have E:=e 0 (by omega);have F:=e 1 (by omega);have H:=e 2 (by omega);have S:=j 0 (by omega);have U:=j 1 (by omega);rw[show((0:Nat):Int)=0 from rfl] at E;rw[show((1:Nat):Int)=1 from rfl] at F;rw[show((2:Nat):Int)=2 from rfl] at H;have J:oz n (dB 47 text)[0] 45=some (dB 45 (dB 47 text)[0]):=CP (c:=45) (by omega) a;simp only[E,F,H,cw,J,vf a];have M:=JT 45 (dB 47 text)[0];have hW:Xu (dm.mk (dB 45 (dB 47 text)[0]) (dB 47 text)[1] (eB (dB 47 text)[2])):=⟨by show(dB 45 _).length<=_;omega,λs u=>by have:=uR (show s∈dB 45 (dB 47 text)[0] from u);omega,by show((dB 47 text)[1]).length<=_;omega⟩;have y:text≠[]:=by
  rintro rfl
  simp[dB] at D
 have A:=adZ (dB 47 text)[2];refine dq (P:=λs=>s=text->lI (dm.mk (dB 45 (dB 47 text)[0]) (dB 47 text)[1] (eB (dB 47 text)[2]))) ?_ λs u=>eg (oJ (λh=>cH (u h)) λ_=>cH C);unfold MO;refine dq (ad0 hW a) λb A=>eg (ef (λI=>?_) λ_=>cH λh=>absurd h.symm y);exact dq (Tg (A I) a) λs _=>cH λ_=>A I
def aaB{c:dP}{r:cq}{L:Nat}(h:hJ n 0 c)(hL:c.cB.length<=L)(an:L<=900)(hr:r.length<=9000)(hn:2^42<=n):Ok (Ia n c r) λx=>x.2=true->hJ n 0 x.1/\x.1.cB.length<=L+1:=by
 have hx:=h.nx;have C:∀{p:Prop},false=true->p:=λh=>(by cases h);unfold Ia;rw[show oz n r 32=some (dB 32 r) from CP (c:=32) (by omega) (by omega),cw];refine oL (by omega) (by omega) λa ha=>iQ 2 _ (by simp) ha (by omega) λb _=>?_;rw[jb (a:=c.next) (by omega) (by omega) (by omega) (by omega)];refine oJ (λ_=>cH λZ=>?_) λ_=>?_
 ·rw[gR,dQ] at Z;exact⟨⟨⟨h.b.net,h.b.base,h.b.ni,h.b.wb,h.b.ir⟩,h.lg,by show 0<=c.next+1/\c.next+1<=100;omega,h.tl,h.t⟩,by show c.cB.length<=_;omega⟩
 refine eg (dr (λh5=>?_) λ_=>cH C);rw[cW] at h5;have e:∀i:Nat,(h:i<(dB 32 r).length)->cm (dB 32 r) (i:Int)=some (dB 32 r)[i]:=λi h=>dA h;have e0:=e 0 (by omega);have e1:=e 1 (by omega);have e2:=e 2 (by omega);have e3:=e 3 (by omega);have e4:=e 4 (by omega);have w4:((dB 32 r)[4]).length<=9000:=by have:=uR (c:=32) (s:=r) (dM (show 4<(dB 32 r).length by omega));omega
 rw[show((0:Nat):Int)=0 from rfl] at e0;rw[show((1:Nat):Int)=1 from rfl] at e1;rw[show((2:Nat):Int)=2 from rfl] at e2;rw[show((3:Nat):Int)=3 from rfl] at e3;rw[show((4:Nat):Int)=4 from rfl] at e4;simp only[e0,e1,e2,e3,e4,cw,vf (show 2^41<=n by omega),mb (a:=c.next) (b:=1) (by omega) (by omega) (by omega) (by omega)];generalize(dB 32 r)[0]=p0;generalize ao:eB (dB 32 r)[1]=j;generalize ap:eB (dB 32 r)[2]=u;generalize aq:eB (dB 32 r)[3]=A;generalize(dB 32 r)[4]=p4 at w4;have D:∀(t:dm)(H:Int)(I:Bool),lI t->Ok (ck (tH n c.net c.ir t) λE=>
   cond (cF I)
    (some (c,false))
    (cond (cF (cp E.2.2 0))
     (some (c,false))
     (ck (dC n j 1 (c.next-1)) λaa=>
     cond (cF aa)
      (some (c,false))
      (ck (uV n c.cB j) λab=>
      cond (dI 0 ab)
       (some (c,false))
       (ck (dC n u 1 99) λad=>
       cond (cF ad)
        (some (c,false))
        (ck (dC n A 0 99) λae=>
        cond (cF ae)
         (some (c,false))
         (ck (uQ n (eo.mk j u A t 0 H [] [] [] 0)) λaf=>
         cond (cF (dz af r))
          (some (c,false))
          (ck (tu n c (eo.mk j u A t E.2.1 H [] [] [] 0)) λah=>
          ck (wz n c ah) λJ=>
          ck (cZ 8 [] J) λai=>
          cond (dz p0 [78])
           (ck (cZ 168 [] c.cB) λM=>
           ck (cZ 168 M [eo.mk j u A t E.2.1 H J [] [] 0]) λN=>
           some ({c with cB:=N},true))
           (ck (cZ 168 [] c.cB) λaj=>
           ck (cZ 168 aj [eo.mk j u A t E.2.1 H J ai [] 0]) λak=>
           some ({c with cB:=ak},true)))))))))) λx=>x.2=true->hJ n 0 x.1/\x.1.cB.length<=L+1:=by
  intro t H I Y
  refine dq (Pm h.b.net h.b.ir Y hn) λo ho=>eg (ef (λ_=>eg (dr (λ_=>kD (eg (jV (λb1=>?_) λ_=>cH C))) λ_=>cH C)) λ_=>cH C)
  refine dq (UW (by omega) (by omega)) λx _=>nV (λ_=>cH C) λ_=>kD (eg (jV (λb2=>kD (eg (jV (λb3=>?_) λ_=>cH C))) λ_=>cH C))
  refine dq (Th (by show _<=j/\j<=_;omega) (by show _<=u/\u<=_;omega) (by show _<=A/\A<=_;omega) Y (by omega)) λs _=>eg (oJ (λ_=>?_) λ_=>cH C)
  have am:lI (eo.mk j u A t o.2.1 H [] [] [] 0).fY:=Y
  refine dq (Ov h.b am hn) λau S=>dq (RP h.b S (by omega)) λsh F=>fc (by have:=F.1;simp;omega) (by omega) ?_
  have mk:∀y:List Int,y.length<=2->n7 0 (eo.mk j u A t o.2.1 H sh y [] 0):=λy hy=>⟨by show 0<=j/\j<=1000;omega,by show 0<=u/\u<=1000;omega,by show 0<=A/\A<=1000;omega,Y,ho.2.1,F.1,F.2,by show y.length<=_;omega,by show(0:Nat)<=_;omega⟩
  have U:∀y:List Int,y.length<=2->Ok (ck (cZ 168 [] c.cB) λM=>ck (cZ 168 M [eo.mk j u A t o.2.1 H sh y [] 0]) λN=>some ({c with cB:=N},true)) λx=>x.2=true->hJ n 0 x.1/\x.1.cB.length<=L+1:=λy hy=>by
   refine fc (by simp;omega) (by omega) (fc (by simp;omega) (by omega) (cH λ_=>⟨h.cB (by simp;omega) λq P=>?_,by show(_++[_]).length<=_;simp;omega⟩))
   rw[iC] at P
   rcases eJ.1 P with P|P
   ·exact h.t q P
   ·rw[gf] at P;rw[P];exact mk y hy
  exact ef (λ_=>U [] (by simp)) λ_=>U _ (by rw[iC];exact F.1)
 have rd:=aaA (n:=n) w4 (by omega);refine eg (ef (λ_=>?_) λ_=>eg (ef (λ_=>?_) λ_=>cH C))
 ·exact dq rd λx hx=>ef (λ_=>D x.1 2 x.2 hx) λ_=>D x.1 3 x.2 hx
 ·exact dq rd λx hx=>ef (λ_=>D x.1 2 x.2 hx) λ_=>D x.1 3 x.2 hx
def acn{K:Nat}{c:dP}(h:hJ n K c)(u:2^42<=n):Ok (Ji n c) (hJ n K):=by
 have y:=h.lg;unfold Ji;refine ef (λ_=>cH h) λ_=>dq (P:=λx=>hJ n K x.1) ?_ λx hx=>cH hx;unfold MQ;have A:=uX (s:=c.dw) (by omega);rw[IK (by omega) (by omega),cw];refine P2 (by omega) (by omega) (by omega) ?_;have a:(List.take (((eC c.dw).2:Int).toNat-(0:Int).toNat) (List.drop (0:Int).toNat c.dw)).length<=9000:=by
  rw[kI,nn];omega
 refine jn (N:=(eC c.dw).1.length) (by omega) (λm(s:dP)i=>AZ n m (eC c.dw).1 i c s _) (λi s=>hJ n 0 s/\s.cB.length<=i) (m:=n) (by omega) ⟨⟨⟨h.b.net,h.b.base,h.b.ni,h.b.wb,h.b.ir⟩,a,by show(0:Int)<=1/\(1:Int)<=100;omega,by show(0:Nat)<=_;omega,λt C=>by cases C⟩,by show(0:Nat)<=0;omega⟩ (λm s e=>?_) λm i s j e D=>?_
 ·rw[AZ];exact iP (by rw[cW];omega) (cH (e.1.mono (by omega)))
 ·rw[AZ];have F:=Oo (s:=c.dw) (by omega) (dM j);refine jo (by rw[cW];omega) ?_;rw[dA j,cw,dO (by omega)];refine dq (aaB e.1 e.2 (by omega) (by omega) u) λx hx=>eg (ef (λE=>D x.1 (hx E)) λ_=>cH h)
end
end
section
section
variable{n:Nat}{R:Type}{Q:R->Prop}
structure fU(n K:Nat)(w:World):Prop where
 c:hJ n K w.fu
 s2:w.eO.length=2
 s:∀s∈w.eO,jj K s
 r:gu 60 w.fV
 t:w.told.length<=40000*(K+1)
def fU.mono{K L:Nat}{w:World}(h:fU n K w)(a:K<=L):fU n L w:=⟨h.c.mono a,h.s2,λs e=>(h.s s e).mono a,h.r,by have:=h.t;omega⟩
def Pn{K:Nat}{w:World}{l:List iV}(h:fU n K w)(e:l.length<=40000)(j:K<=10000):Ok (wN n w l) (fU n (K+1)):=by
 have u:=h.t;have a:=h.mono (show K<=K+1 by omega);unfold wN;refine fc (by simp;omega) (by omega) (fc (by simp;omega) (by omega) (cH ⟨a.c,a.s2,a.s,a.r,by show([]++w.told++l).length<=_;simp;omega⟩))
def CQ{K:Nat}{w:World}{l:List cO}{B:Nat}(h:fU n K w)(j:gu B l)(A:B<=100000)(C:2^41<=n):Ok (qg n w l) (fU n K):=by
 have x:=j.l;unfold qg;refine jn (N:=l.length) (by omega) (λm(s:World)i=>Bh n m l i s _) (λ_ s=>fU n K s) (m:=n) (by omega) h (λm s a=>?_) λm i s u a y=>?_
 ·rw[Bh];exact iP (by rw[cW];omega) (cH a)
 ·rw[Bh];have D:=a.r.l;refine jo (by rw[cW];omega) (eu (λe=>?_) λ_=>cH a);rw[cW] at e;refine fc (by simp;omega) (by omega) ?_;rw[dA u,cw,dO (by omega),iC];refine fc (by simp;omega) (by omega) (y _ ⟨a.c,a.s2,a.s,⟨by show(s.fV++[_]).length<=60;simp;omega,(a.r.add (j.m _ (dM u))).m⟩,a.t⟩)
def agx{K:Nat}{w:World}{e:cY}(h:fU n K w)(E:0<=e.n/\e.n<=1000)(F:lI e.fY)(N:K<=9000)(A:2^42<=n):Ok (Cs n w e) λx=>fU n (K+2) x.1:=by
 have C:=h.mono (show K<=K+2 by omega);have u:=h.mono (show K<=K+1 by omega);unfold Cs;refine eg (ef (λ_=>kD (eg (jV (λ_=>?_) λ_=>cH C))) λ_=>cH C);have a:∀x:dP×List cO×cq,G5 n (K+1) x->∀d:Int,Ok (cond (cF (dz x.2.2 [])) (ck (wN n {w with fu:=x.1} [iV.mk d x.2.2]) λH=>ck (qg n H x.2.1) λI=>some (I,true)) (ck (qg n {w with fu:=x.1} x.2.1) λJ=>some (J,true))) λx=>fU n (K+2) x.1:=λx hx d=>by
  have D:fU n (K+1) {w with fu:=x.1}:=⟨hx.c,u.s2,u.s,u.r,u.t⟩
  refine eg (ef (λ_=>?_) λ_=>?_)
  ·exact dq (CQ D hx.m (by omega) (by omega)) λy j=>cH (j.mono (by omega))
  ·exact dq (Pn D (by simp) (by omega)) λy j=>dq (CQ j hx.m (by omega) (by omega)) λz M=>cH M
 refine dq (aft h.c F (by omega) A) λx hx=>dr (λ_=>?_) λ_=>a x hx _;exact dq (afu h.c E (by omega) A) λy j=>a y j _
def MY{K:Nat}{l:List cT}{k:Nat}{s:cT}(a:l.length=2)(u:k<2)(e:∀s∈l,jj K s)(j:jj K s):Ok (y5 n l k s) λx=>x.length=2/\∀s∈x,jj K s:=by
 unfold y5;refine fc (by simp;omega) (by omega) ?_;rw[iC,dA (show k<l.length by omega),cw,cw];refine cH ⟨by rw[lR];exact a,λx hx=>?_⟩;rcases tC hx with hx|rfl
 ·exact e x hx
 ·exact j
def Tj{K:Nat}{w:World}{m:cO}(h:fU n K w)(D:oR m)(J:K<=9000)(F:2^42<=n):Ok (E9 n w m) (fU n (K+2)):=by
 have a:=h.mono (show K<=K+1 by omega);have H:=D.to;unfold E9;refine dr (λ_=>?_) λM=>?_
 ·refine dq (Ti h.c (by omega) F) λx hx=>?_;have u:fU n (K+1) {w with fu:=x.1}:=⟨hx.c,a.s2,a.s,a.r,a.t⟩;exact dq (Pn u (by have:=hx.t;omega) (by omega)) λy I=>dq (CQ I hx.m (by omega) (by omega)) λz A=>cH A
 ·obtain⟨k,N⟩:∃k:Nat,m.to=((k+1:Nat):Int):=⟨(m.to-1).toNat,by omega⟩;have C:=h.s2;have e:cX .i64 m.to 1=(k:Int):=by rw[iE];omega
  have j:k<w.eO.length:=by omega
  rw[e,dA j,cw];refine dq (Tf (h.s _ (dM j)) D (by omega) (by omega)) λx hx=>dq (MY (K:=K+1) C (by omega) a.s hx.1) λl E=>?_;have u:fU n (K+1) {w with eO:=l}:=⟨a.c,E.1,E.2,a.r,a.t⟩;exact dq (CQ (B:=1) u ⟨hx.2.2.1,hx.2.2.2⟩ (by omega) (by omega)) λz A=>cH (A.mono (by omega))
def Nd{l:List cO}{k:Nat}(a:gu 60 l)(j:k<l.length):Ok (qU n l k) (gu 60):=by
 have e:=a.l;unfold qU;rw[dO (show k<2^31 by omega)];refine xF (by omega) (by omega) (by omega) (fc (by simp;omega) (by omega) (xF (by omega) (by rw[cW];omega) (by rw[cW];omega) (fc (by simp[cW];omega) (by omega) (cH ⟨by simp[cW];omega,λx hx=>?_⟩))));rw[iC] at hx;rcases eJ.1 hx with hx|hx
 ·exact a.m x (D8 hx)
 ·exact a.m x (D8 hx)
def ad1{K:Nat}{w:World}{k:Nat}{b:Bool}(h:fU n K w)(a:k<w.fV.length)(e:K<=9000)(j:2^42<=n):Ok (td n w k b) (fU n (K+2)):=by
 have u:=h.r.m _ (dM a);unfold td;rw[dA a,cw];refine eg (ef (λ_=>dq (Tj h u e j) λx hx=>cH hx) λ_=>?_);exact dq (Nd h.r a) λr y=>dq (Tj (K:=K) (w:={w with fV:=r}) ⟨h.c,h.s2,h.s,y,h.t⟩ u e j) λx hx=>cH hx
def aco{K:Nat}{w:World}{k:Nat}(h:fU n K w)(E:k<=2)(F:K<=9000)(u:2^42<=n):Ok (tn n w k) (fU n (K+2)):=by
 have H:=h.mono (show K<=K+1 by omega);unfold tn;refine dr (λ_=>?_) λI=>?_
 ·refine dq (acm h.c (by omega) u) λx hx=>?_;have A:fU n K {w with fu:=x.1}:=⟨hx.1,h.s2,h.s,h.r,h.t⟩;exact dq (Pn A (by have:=hx.2.2;omega) (by omega)) λy C=>dq (CQ C hx.2.1 (by omega) (by omega)) λz j=>cH (j.mono (by omega))
 ·have D:=h.s2;have e:cX .i64 (k:Int) 1=((k-1:Nat):Int):=by rw[iE];omega
  have a:k-1<w.eO.length:=by omega
  rw[e,dA a,cw];exact dq (aci (h.s _ (dM a)) (by omega) (by omega)) λx hx=>dq (CQ (B:=20000) h ⟨hx.1,hx.2⟩ (by omega) (by omega)) λz j=>cH (j.mono (by omega))
def aba{K:Nat}{w:World}{k:Nat}{bytes:Int}(h:fU n K w)(U:k<=2)(H:-1000<=bytes/\bytes<=100000)(Y:K<=9000)(M:2^42<=n):Ok (tf n w k bytes) (fU n (K+2)):=by
 have I:=h.r.l;have a:∀(w:World)(m:cO),fU n K w->oR m->Ok (cond (cp (k:Int) 0)
 (ck (EF n w.fu m bytes) λy=>
 some {w with fu:=y})
 (ck (cm w.eO (cX .i64 (k:Int) 1)) λA=>
 ck (BW n A m bytes) λC=>
 ck (y5 n w.eO (cX .i64 (k:Int) 1) C) λD=>
 some {w with eO:=D})) (fU n (K+2)):=λw m h P=>by
  have j:=h.mono (show K<=K+1 by omega)
  refine dr (λ_=>?_) λZ=>?_
  ·exact dq (aa9 h.c H (by omega) M) λx hx=>cH ((show fU n (K+1) {w with fu:=x} from⟨hx,j.s2,j.s,j.r,j.t⟩).mono (by omega))
  ·have E:=h.s2;have e:cX .i64 (k:Int) 1=((k-1:Nat):Int):=by rw[iE];omega
   have u:k-1<w.eO.length:=by omega
   rw[e,dA u,cw];exact dq (aa7 (h.s _ (dM u)) P H (by omega) (by omega)) λx hx=>dq (MY (K:=K+1) E (by omega) j.s hx) λl J=>cH ((show fU n (K+1) {w with eO:=l} from⟨j.c,J.1,J.2,j.r,j.t⟩).mono (by omega))
 unfold tf;refine jn (N:=w.fV.length) (by omega) (λm(_:Unit)i=>A3 n m k bytes i w (cO.mk 0 0 0 0 [] false) _) (λ_ _=>True) (m:=n) (s:=()) (by omega) trivial (λm _ _=>?_) λm i _ F _ S=>?_
 ·rw[A3];exact iP (by rw[cW];omega) (a w _ h Qr)
 ·rw[A3];refine jo (by rw[cW];omega) ?_;rw[dA F,cw,dO (by omega)];refine dr (λ_=>?_) λ_=>S () trivial;rw[cw];exact dq (Nd h.r F) λr I=>a {w with fV:=r} _ ⟨h.c,h.s2,h.s,I,h.t⟩ (h.r.m _ (dM F))
def acp{K:Nat}{w:World}{k:Nat}(h:fU n K w)(A:k<=2)(y:2^42<=n):Ok (tp n w k) (fU n K):=by
 unfold tp;refine dr (λ_=>?_) λC=>?_
 ·exact dq (acn h.c y) λx hx=>cH ⟨hx,h.s2,h.s,h.r,h.t⟩
 ·have j:=h.s2;have e:cX .i64 (k:Int) 1=((k-1:Nat):Int):=by rw[iE];omega
  have a:k-1<w.eO.length:=by omega
  rw[e,dA a,cw];exact dq (ach (h.s _ (dM a)) (by omega)) λx hx=>dq (MY (K:=K) j (by omega) h.s hx) λl u=>cH ⟨h.c,u.1,u.2,h.r,h.t⟩
def afv{K:Nat}{w:World}{k:Nat}(h:fU n K w)(j:k<=2):Ok (tI n w k) λ_=>True:=by
 unfold tI;refine dr (λ_=>cH trivial) λu=>?_;have a:=h.s2;have e:cX .i64 (k:Int) 1=((k-1:Nat):Int):=by rw[iE];omega
 rw[e,dA (show k-1<w.eO.length by omega),cw];exact cH trivial
structure qn(e:cY):Prop where
 n:0<=e.n/\e.n<=1000
 t:lI e.fY
def afw{K:Nat}{w:World}{e:cY}(h:fU n K w)(F:qn e)(E:K<=9000)(A:2^42<=n):Ok (Ko n w e) λx=>fU n (K+2) x.1:=by
 have a:=h.mono (show K<=K+2 by omega);have hr:=h.r.l;have am:=F.n;have ask:Ok (ck (Cs n w e) λx0=>some (x0.1,x0.2)) λx=>fU n (K+2) x.1:=dq (agx h F.n F.t E A) λx hx=>cH hx;have C:Ok (ck (dC n e.at' 0 (cX .i64 (cA w.fV) 1)) λH=>
   cond (cF H)
    (some (w,false))
    (cond (cp e.kind 3)
     (ck (td n w e.at' e.jI) λI=>
     some (I,true))
     (ck (qU n w.fV e.at') λJ=>
     some ({w with fV:=J},true)))) λx=>fU n (K+2) x.1:=by
  refine kD (eg (jV (λy=>?_) λ_=>cH a))
  rw[cW,mb (by omega) (by omega) (by omega) (by omega)] at y
  obtain⟨k,M⟩:=hV y.1
  rw[M] at y⊢
  refine dr (λ_=>dq (ad1 h (by omega) E A) λx hx=>cH hx) λ_=>?_
  exact dq (Nd h.r (by omega)) λr hr=>cH ⟨a.c,a.s2,a.s,hr,a.t⟩
 have D:Ok (ck (dC n e.at' 0 2) λN=>
   cond (cF N)
    (some (w,false))
    (ck (dC n e.kind 5 7) λP=>
    cond (cF P)
     (some (w,false))
     (ck (tI n w e.at') λS=>
     cond (ju S (cp e.kind 7))
      (some (w,false))
      (cond (cp e.kind 5)
       (ck (tn n w e.at') λU=>
       some (U,true))
       (cond (cp e.kind 6)
        (ck (tf n w e.at' e.n) λY=>
        some (Y,true))
        (ck (tp n w e.at') λZ=>
        some (Z,true))))))) λx=>fU n (K+2) x.1:=by
  refine kD (eg (jV (λy=>?_) λ_=>cH a))
  obtain⟨k,M⟩:=hV y.1
  rw[M] at y⊢
  refine kD (eg (jV (λ_=>?_) λ_=>cH a))
  refine dq (afv h (by omega)) λu _=>ef (λ_=>cH a) λ_=>dr (λ_=>?_) λ_=>dr (λ_=>?_) λ_=>?_
  ·exact dq (aco h (by omega) E A) λx hx=>cH hx
  ·exact dq (aba h (by omega) (by omega) E A) λx hx=>cH hx
  ·exact dq (acp h (by omega) A) λx hx=>cH (hx.mono (by omega))
 have j:Ok (cond (cp e.kind 3)
  (cond (cp e.kind 3)
   (ck (dC n e.at' 0 (cX .i64 (cA w.fV) 1)) λH=>
   cond (cF H)
    (some (w,false))
    (cond (cp e.kind 3)
     (ck (td n w e.at' e.jI) λI=>
     some (I,true))
     (ck (qU n w.fV e.at') λJ=>
     some ({w with fV:=J},true))))
   (ck (dC n e.at' 0 2) λN=>
   cond (cF N)
    (some (w,false))
    (ck (dC n e.kind 5 7) λP=>
    cond (cF P)
     (some (w,false))
     (ck (tI n w e.at') λS=>
     cond (ju S (cp e.kind 7))
      (some (w,false))
      (cond (cp e.kind 5)
       (ck (tn n w e.at') λU=>
       some (U,true))
       (cond (cp e.kind 6)
        (ck (tf n w e.at' e.n) λY=>
        some (Y,true))
        (ck (tp n w e.at') λZ=>
        some (Z,true))))))))
  (cond (cp e.kind 4)
   (ck (dC n e.at' 0 (cX .i64 (cA w.fV) 1)) λaa=>
   cond (cF aa)
    (some (w,false))
    (cond (cp e.kind 3)
     (ck (td n w e.at' e.jI) λab=>
     some (ab,true))
     (ck (qU n w.fV e.at') λad=>
     some ({w with fV:=ad},true))))
   (ck (dC n e.at' 0 2) λae=>
   cond (cF ae)
    (some (w,false))
    (ck (dC n e.kind 5 7) λaf=>
    cond (cF af)
     (some (w,false))
     (ck (tI n w e.at') λah=>
     cond (ju ah (cp e.kind 7))
      (some (w,false))
      (cond (cp e.kind 5)
       (ck (tn n w e.at') λai=>
       some (ai,true))
       (cond (cp e.kind 6)
        (ck (tf n w e.at' e.n) λaj=>
        some (aj,true))
        (ck (tp n w e.at') λak=>
        some (ak,true))))))))) λx=>fU n (K+2) x.1:=ef (λ_=>ef (λ_=>C) λ_=>D) λ_=>ef (λ_=>C) λ_=>D;unfold Ko;exact ef (λ_=>ef (λ_=>ask) λ_=>j) λ_=>ef (λ_=>ask) λ_=>j
def afx{K:Nat}{w:World}{l:List cY}(h:fU n K w)(y:∀e∈l,qn e)(A:l.length<=10)(D:K<=8000)(C:2^42<=n):Ok (Cc n w l) (fU n (K+20)):=by
 unfold Cc;refine jn (N:=l.length) (by omega) (λm(s:World)i=>yS n m l i s _) (λi s=>fU n (K+2*i) s) (m:=n) (by omega) h (λm s a=>?_) λm i s j a u=>?_
 ·rw[yS];exact iP (by rw[cW];omega) (cH (a.mono (by omega)))
 ·rw[yS];refine jo (by rw[cW];omega) ?_;rw[dA j,cw,dO (by omega)];exact dq (afw a (y _ (dM j)) (by omega) C) λx hx=>ef (λ_=>u x.1 (hx.mono (by omega))) λ_=>u s (a.mono (by omega))
end
end
section
section
variable{n:Nat}{R:Type}{Q:R->Prop}
def X2:iK []:=⟨by show(0:Nat)<=1000;omega,λl a=>by cases a⟩
def WY:ri []:=λr a=>by cases a
def acq{e:List cG}{a:List Int}{ir:List fN}(x:qH e)(C:oI e=true)(D:Ai a)(j:a.length=e.length)(E:C2 n ir)(y:2^41<=n):I4 n e a ir=some true:=by
 have F:=x.b;have u:∀(K:List cG->List Int->List fN->Option Bool),∀m i:Nat,i<=a.length->a.length<m+i->Ed n m e a ir i K=K e a ir:=by
  intro K m
  induction m with
  |zero=>intro i H I;omega
  |succ m J=>
   intro i H I
   rw[Ed]
   by_cases A:i<a.length
   ·rw[xK (by rw[cW];omega),cP,dA A,cw,sk,cw,gF (D _ (dM A)),dT,eW,cR,dO (by omega)];exact J (i+1) (by omega) (by omega)
   ·rw[tX (by rw[cW];omega),cR]
 unfold I4;refine(u _ n 0 (by omega) (by omega)).trans ?_;rw[O0 (by omega) (λl M=>(x.l l M).z.s) y,cw,C,cP,aaz E y,cw,cP,cW,cW,j,ez,gF rfl]
def ad2{e:List cG}{j:List Int}{a:List fN}(x:qH e)(C:oI e=true)(D:Ai j)(u:j.length=e.length)(y:C2 n a)(E:2^41<=n):Ok (Ip n e j a) λc=>hJ n 0 c/\c.up=true:=by
 have F:=x.b;have A:=y.l;unfold Ip;rw[acq x C D u y E,cw,dT,eW,cR,ze (by omega) (λl H=>(x.l l H).z) E,cw];refine fc (by simp;omega) (by omega) (fc (by simp;omega) (by omega) (cH ⟨⟨⟨x,C,u,D,⟨y.f,A⟩⟩,by show(0:Nat)<=9000;omega,by show(0:Int)<=1/\(1:Int)<=100;omega,by show(0:Nat)<=_;omega,λt I=>by cases I⟩,rfl⟩))
def acr{a:List cG}{e:List Int}{s:Int}(A:qH a)(E:e.length=a.length)(H:2^41<=n):Ok (I5 n a e s) λx=>x.length<=6/\∀l∈x,il l:=by
 have F:=A.b;unfold I5;refine jn (N:=a.length) (by omega) (λm(x:List cG)i=>yM n m a e s x i _) (λi x=>x.length<=i/\∀l∈x,il l) (m:=n) (s:=[]) (by omega) ⟨by simp,λl u=>by cases u⟩ (λm x y=>?_) λm i x C y D=>?_
 ·rw[yM];exact iP (by rw[cW];omega) (cH ⟨by omega,y.2⟩)
 ·rw[yM];refine jo (by rw[cW];omega) ?_;have u:=A.l _ (dM C);rw[dA (show i<e.length by omega),cw,dO (show i<2^31 by omega)];refine dr (λ_=>?_) λ_=>D x ⟨by omega,y.2⟩;rw[dA C,cw,Gb u.z,cw];refine fc (by simp;omega) (by omega) (D _ ⟨by simp;omega,λl j=>?_⟩);rcases eJ.1 j with j|j
  ·exact y.2 l j
  ·rw[gf] at j;rw[j];exact u
def ad3{id:Int}{a:List cG}(e:a.length<=6)(h:∀l∈a,il l)(j:2^41<=n):Ok (Iq n id a) (jj 0):=by
 have z:jj 0 (cT.mk 0 [] [] false [] []):=⟨X2,by show(0:Nat)<=6;omega,X2,by show(0:Nat)<=9000;omega,WY,vU,by show(0:Nat)<=_;omega⟩;unfold Iq;refine kD (eg (jV (λ_=>?_) λ_=>cH z));rw[O0 (by omega) (λl e=>(h l e).z.s) j,cw,ze (by omega) (λl e=>(h l e).z) j,cw,cw];exact eg (ef (λ_=>cH ⟨⟨by show a.length<=_;omega,h⟩,e,⟨by show a.length<=_;omega,h⟩,by show(0:Nat)<=9000;omega,WY,vU,by show(0:Nat)<=_;omega⟩) λ_=>cH z)
def afy{a:List cG}{j:List Int}{e:List fN}(H:qH a)(C:oI a=true)(S:Ai j)(A:j.length=a.length)(U:C2 n e)(D:2^41<=n):Ok (Ir n a j e) (fU n 0):=by
 unfold Ir;refine dq (ad2 H C S A U D) λc I=>?_;rw[I.2,dT,eW,cR];have E:∀m s:Nat,∀w:World,1<=s->s<=3->3<m+s->w.fu=c->w.fV=[]->w.told=[]->w.eO.length+1=s->(∀x∈w.eO,jj 0 x)->Ok (D2 n m a j s w λF=>some F) (fU n 0):=by
  intro m
  induction m with
  |zero=>intro s w Y Z h3;omega
  |succ m ih=>
   intro s w Y Z h3 J M N h7 P
   rw[D2]
   refine nV (λhs=>?_) λhs=>cH ⟨by rw[J];exact I.1,by omega,P,by rw[M];exact gu.nil,by rw[N];show(0:Nat)<=_;omega⟩
   refine dq (acr H A D) λb C=>dq (ad3 C.1 C.2 D) λx hx=>fc (by simp;omega) (by omega) ?_
   rw[dO (by omega)]
   refine ih (s+1) _ (by omega) (by omega) (by omega) J M N (by show(w.eO++[x]).length+1=s+1;simp;omega) λy u=>?_
   rcases eJ.1 u with u|u
   ·exact P y u
   ·rw[gf] at u;rw[u];exact hx
 exact E n 1 (World.mk c [] [] []) (by omega) (by omega) (by omega) rfl rfl rfl rfl λx hx=>by cases hx
def ad4{r:Rd}(u:dU 0 r)(A:2^42<=n):Ok (JG n r) λx=>fU n 0 x.1/\dU 300000 x.2:=by
 unfold JG;refine dq (ab3 u (by omega) (by omega)) λx hx=>?_;obtain⟨⟨a,I⟩,C⟩:=hx;have D:=agr a;have E:qH x.1:=⟨λl F=>(a.l l F).1,by omega,a.len⟩;refine dq (aay a.len C (by omega) (by omega)) λy e=>dq (aa3 e.2 (by omega) A) λf j=>dq (afy E D.2 e.1.1 e.1.2 j.1 (by omega)) λw H=>cH ⟨H,j.2.mono (by omega)⟩
def Xv:lI (dm.mk [] [] 0):=⟨by show(0:Nat)<=100;omega,λx hx=>(by cases hx),by show(0:Nat)<=100;omega,by show-1000<=(0:Int)/\(0:Int)<=1000;omega⟩
def ad5{K:Nat}{w:World}{r:Rd}{N:Int}(h:fU n K w)(hr:dU N r)(hN:N<=800000000000)(hn:2^42<=n):Ok (Is n r w) λx=>qn x.1/\dU (N+200) x.2:=by
 have U:=h.c.b.net;have Y:=h.c.b.ir;have ab:=h.r.l;have ev:∀{k a:Int}{b:Bool}{c:Int}{j:Rd},(0<=c/\c<=1000)->dU (N+50) j->qn ((cY.mk k a c b (dm.mk [] [] 0),j)).1/\dU (N+200) ((cY.mk k a c b (dm.mk [] [] 0),j)).2:=λhc y=>⟨⟨hc,Xv⟩,y.mono (by omega)⟩;have D:∀j,dU (N+10) j->Ok (ck (cS n j 9) λx2=>ck (tk n x2.2 w.fu.net w.fu.ir) λx3=>some (cY.mk 1 (cz .i64 1 x2.1) 0 false x3.1,x3.2)) λx=>qn x.1/\dU (N+200) x.2:=λj y=>
  ei y (by omega) (by omega) λa E _ _ A=>dq (ace U Y A (by omega) (by omega)) λt ht=>cH ⟨⟨by show(0:Int)<=0/\(0:Int)<=1000;omega,ht.1⟩,ht.2.mono (by omega)⟩
 have F:∀j,dU (N+10) j->Ok (ck (cS n j 5) λx4=>ck (cS n x4.2 9) λx5=>some (cY.mk 2 (cz .i64 10 x4.1) (cz .i64 1 x5.1) false (dm.mk [] [] 0),x5.2)) λx=>qn x.1/\dU (N+200) x.2:=λj y=>
  ei y (by omega) (by omega) λa E _ _ A=>ei A (by omega) (by omega) λb r2 b0 b1 C=>cH (ev (by rw[jb (by omega) (by omega) (by omega) (by omega)];omega) (C.mono (by omega)))
 have H:∀(k:Int)j,dU (N+10) j->Ok (some (cY.mk 4 k 0 false (dm.mk [] [] 0),j)) λx=>qn x.1/\dU (N+200) x.2:=λk j y=>cH (ev (by omega) (y.mono (by omega)));have I:∀(k:Int)j,dU (N+10) j->Ok (ck (cS n j 3) λx6=>some (cY.mk k x6.1 0 false (dm.mk [] [] 0),x6.2)) λx=>qn x.1/\dU (N+200) x.2:=λk j y=>
  ei y (by omega) (by omega) λa E _ _ A=>cH (ev (by omega) (A.mono (by omega)))
 have J:∀j,dU (N+10) j->Ok (ck (cS n j 3) λx7=>ck (cS n x7.2 90) λZ=>ck (cS n Z.2 4) λx9=>ck (cm [0,Z.1,300,5] x9.1) λad=>ck (cm [0,Z.1,300,5] x9.1) λaa=>some (cY.mk 6 x7.1 aa false (dm.mk [] [] 0),x9.2)) λx=>qn x.1/\dU (N+200) x.2:=λj y=>
  ei y (by omega) (by omega) λa E _ _ A=>ei A (by omega) (by omega) λb r2 b0 b1 C=>ei C (by omega) (by omega) λc r3 c0 c1 e=>iX c0 (by simp;omega) λu _ _=>iX c0 (by simp;omega) λv hv _=>cH (ev (by
   simp only[eG,mq,l8] at hv
   omega) (e.mono (by omega)))
 have M:∀(k:Int)j,dU (N+10) j->Ok (ck (cS n j 8) λP=>some (cY.mk 3 k 0 (cp P.1 0) (dm.mk [] [] 0),P.2)) λx=>qn x.1/\dU (N+200) x.2:=λk j y=>
  ei y (by omega) (by omega) λa E _ _ A=>cH (ev (by omega) (A.mono (by omega)))
 unfold Is;refine eu (λS=>?_) λ_=>?_
 ·refine ei hr (by omega) S λk E _ _ A=>ei A (by omega) (by omega) λb r2 _ _ C=>?_;have e:dU (N+10) r2:=C.mono (by omega);dsimp only
  repeat' (first|exact D _ e|exact F _ e|exact H _ _ e|exact I _ _ e|exact J _ e|exact M _ _ e|refine ef (λ_=>?_) λ_=>?_)
 ·refine ei hr (by omega) (by omega) λb r2 _ _ C=>?_;have e:dU (N+10) r2:=C.mono (by omega);dsimp only
  repeat' (first|exact D _ e|exact F _ e|exact H _ _ e|exact I _ _ e|exact J _ e|exact M _ _ e|refine ef (λ_=>?_) λ_=>?_)
end
end
section
section
variable{n:Nat}{R:Type}{Q:R->Prop}
def jj.z{K:Nat}{s:cT}(h:jj K s)(j:K<=15000):yh s:=⟨by have:=h.b6;omega,λl a=>(h.b.2 l a).z,by have:=h.lg;omega,h.l.1,λl a=>(h.l.2 l a).r,by have:=h.tl;omega,λt e=>by have:=(ow (h.t.t t e).2).2;omega⟩
def jj.ahS{K:Nat}{s:cT}(h:jj K s)(a:K<=15000):Good s:=⟨h.z a,h.g⟩
def acs{K:Nat}{c:dP}(h:hJ n K c)(e:K<=10000)(a:2^41<=n):Jj n c=some c:=by
 have u:=h.b.net.b;have x:=h.b.ni;have y:=h.b.ir.l;unfold Jj;rw[ze (by omega) (λl j=>(h.b.net.l l j).z) a,cw,fW (by simp;omega) (by omega),cw,fW (by simp;omega) (by omega),cw,Ep (by have:=h.tl;omega) h.t e a,cw];rfl
def aaC{l:List cO}(h:gu 60 l)(x:2^41<=n):HS n l=some l:=by
 have y:=h.l;unfold HS;have:=Kz (xs:=l) (f:=λt:cO=>t) (by omega) (L:=λm a i=>AR n m l a i λe=>some e) (k:=λa=>some a) (λm a u=>by
  rw[AR,tX (by rw[cW];omega),cR]) (λm i a j u=>by
  have A:=(h.m _ (dM j)).o
  rw[AR,xK (by rw[cW];omega),cP,dA j,cw,fW (by simp;omega) (by omega),cw,fW (by simp;omega) (by omega),cw]
  simp only[iC]) (m:=n) (by omega);rw[this,List.map_id']
def acu{K:Nat}{w:World}(h:fU n K w)(A:K<=10000)(u:2^41<=n):Ok (Jk n w) (fU n K):=by
 have C:=h.s2;have D:=h.t;unfold Jk;rw[acs h.c A u,cw,aaC h.r u,cw];refine fc (by simp;omega) (by omega) ?_;rw[iC];refine jn (N:=w.eO.length) (by omega) (λm(x:World)i=>Bl n m i w x _) (λi x=>hJ n K x.fu/\x.eO.length=i/\(∀s∈x.eO,jj K s)/\gu 60 x.fV/\x.told.length<=40000*(K+1)) (m:=n) (by omega) ⟨h.c,rfl,λs e=>(by cases e),h.r,D⟩ (λm x a=>?_) λm i x y a E=>?_
 ·rw[Bl];exact iP (by rw[cW];omega) (cH ⟨a.1,by omega,a.2.2.1,a.2.2.2.1,a.2.2.2.2⟩)
 ·rw[Bl];refine jo (by rw[cW];omega) ?_;have j:=h.s _ (dM y);rw[dA y,cw,NH (j.z (by omega)) u,cw,dO (by omega)];refine fc (by simp;omega) (by omega) (E _ ⟨a.1,by show(x.eO++[_]).length=i+1;simp;omega,λs e=>?_,a.2.2.2.1,a.2.2.2.2⟩);rcases eJ.1 e with e|e
  ·exact a.2.2.1 s e
  ·rw[gf] at e;rw[e];exact j
def Tk{j:List cY}{x:Int}{w:World}{r:Rd}{K:List cY->Int->List cY->World->Rd->Option (List cY×World×Rd)}{Q:List cY×World×Rd->Prop}(y:∀l,(∀e∈l,qn e)->l.length<=10->Ok (K j x l w r) Q):∀(m c:Nat)(l:List cY),c<m->c+l.length<=10->(∀e∈l,qn e)->Ok (D4 n m j x l c w r K) Q
 |0,c,l,A,C,u=>by omega
 |m+1,c,l,A,C,u=>by
  rw[D4];refine eu (λD=>?_) λD=>y l u (by omega);refine fc (by simp;omega) (by omega) ?_;rw[show cX .i64 (c:Int) 1=((c-1:Nat):Int) by rw[iE];omega];refine Tk y m (c-1) _ (by omega) (by simp;omega) λe a=>?_;rcases eJ.1 a with a|a
  ·exact u e a
  ·rw[gf] at a;rw[a];exact⟨by show(0:Int)<=0/\(0:Int)<=1000;omega,Xv⟩
def Tl(H:2^42<=n){K:List cY->World->Rd->Option (List cY×World×Rd)}{Q:List cY×World×Rd->Prop}(Y:∀j w r,fU n 2000 w->dU 400000 r->Ok (K j w r) Q):∀(m c:Nat)(j:List cY)(w:World)(r:Rd),c<m->c<=50->j.length<=20*(50-c)->fU n (20*(50-c)) w->dU (300001+300*(50-c)) r->Ok (yG n m j c w r K) Q
 |0,c,j,w,r,Z,h2,h3,F,I=>by omega
 |m+1,c,j,w,r,Z,h2,h3,F,I=>by
  rw[yG];have D:∀(u:List cY)(y:Rd),dU (300001+300*(50-c)+250) y->Ok (K u w y) Q:=λu y A=>Y u w y (F.mono (by omega)) (A.mono (by omega));refine eu (λhc=>?_) λhc=>D j r (I.mono (by omega));have ec:cX .i64 (c:Int) 1=((c-1:Nat):Int):=by rw[iE];omega
  refine dq (ad5 F I (by omega) H) λe J=>ei J.2 (by omega) (by omega) λa r1 _ _ E=>?_;have next:∀(l:List cY)(y:Rd),(∀e∈l,qn e)->l.length<=10->dU (300001+300*(50-c)+250) y->Ok (cond (cC 120 (cz .i64 (cA j) (cA l))) (K j w y) (ck (cZ 80 j l) λM=>ck (Cc n w l) λN=>yG n m M (cX .i64 (c:Int) 1) N y K)) Q:=λl y P C A=>by
   refine ef (λ_=>D j y A) λ_=>fc (by omega) (by omega) (dq (afx F P C (by omega) H) λw' S=>?_)
   rw[ec]
   exact Tl H Y m (c-1) _ w' y (by omega) (by omega) (by simp;omega) (S.mono (by omega)) (A.mono (by omega))
  refine dr (λ_=>?_) λ_=>?_
  ·refine ei E (by omega) (by omega) λb r2 b0 b1 U=>?_;obtain⟨b,rfl⟩:=hV b0;dsimp only;rw[show cz .i64 1 (b:Int)=((1+b:Nat):Int) by rw[jb (by omega) (by omega) (by omega) (by omega)];omega];refine Tk (λl P C=>next l r2 P C (U.mono (by omega))) n (1+b) _ (by omega) (by simp;omega) λx hx=>?_;rw[gf] at hx;rw[hx];exact J.1
  ·exact next [e.1] r1 (λx hx=>by rw[gf] at hx;rw[hx];exact J.1) (by simp) (E.mono (by omega))
def abb{r:Rd}(e:dU 0 r)(A:2^42<=n):Ok (EH n r) λx=>fU n 2000 x.1/\dU 400000 x.2:=by
 unfold EH;refine dq (ad4 e A) λx hx=>dq (P:=λy=>fU n 2000 y.2.1/\dU 400000 y.2.2) ?_ λy j=>cH j;unfold M7;refine ei hx.2 (by omega) (by omega) λa C D H u=>?_;obtain⟨a,rfl⟩:=hV D;refine Tl A (λE w r F e=>?_) n a [] x.1 C (by omega) (by omega) (by simp) (hx.1.mono (by omega)) (u.mono (by omega));exact dq (acu F (by omega) (by omega)) λy j=>cH ⟨j,e⟩
def RR{l:cG}{r:Rd}{N:Int}(h:il l)(J:dU N r)(U:N<=1000000)(Y:2^41<=n):Ok (D5 n r l) λx=>sJ x.1/\dU (N+10) x.2:=by
 have A:=h.r;have M:=h.z;have Z:=h.cap;have h3:=h.l3;have P:=h.s3;have hb:=h.b;have h6:=h.h6;unfold D5;rw[Gb M,cw];refine ei J (by omega) (by omega) λa r1 _ _ y=>dr (λ_=>?_) λ_=>dr (λ_=>?_) λ_=>dr (λ_=>?_) λ_=>dr (λ_=>?_) λ_=>dr (λ_=>?_) λ_=>dr (λ_=>?_) λ_=>dr (λ_=>?_) λ_=>dr (λ_=>?_) λ_=>?_
 ·refine Ag y (by omega) (by simp) λs E F j=>cH ⟨{A with n1:=?_,b1:=?_},j.mono (by omega)⟩
  ·show s.length<=100;simp only[eG,mq,l8] at F;rcases F with rfl|rfl|rfl<;>decide
  ·show(32:UInt8)∉s;simp only[eG,mq,l8] at F;rcases F with rfl|rfl|rfl<;>decide
 ·exact cH ⟨{A with n3:=A.n2,b3:=A.b2},y.mono (by omega)⟩
 ·exact cH ⟨{A with i2:=A.i1},y.mono (by omega)⟩
 ·refine ei y (by omega) (by omega) λb E D b1 j=>iX D (by simp;omega) λu _ _=>iX D (by simp;omega) λv _ _=>cH ⟨{A with},j.mono (by omega)⟩
 ·refine ei y (by omega) (by omega) λb E D b1 j=>ei j (by omega) (by omega) λd I d0 d1 C=>iX D (by omega) λu _ _=>iX D (by omega) λv _ _=>cH ⟨{A with z1:=?_,i4:=?_},C.mono (by omega)⟩
  ·show(du _ _ _).length<=1000;rw[lR];omega
  ·intro x hx;rcases tC hx with hx|rfl
   ·exact A.i4 x hx
   ·rw[mb (by omega) (by omega) (by omega) (by omega)];unfold In;omega
 ·refine ei y (by omega) (by omega) λb E D b1 j=>ei j (by omega) (by omega) λd I d0 d1 C=>iX D (by omega) λu _ _=>iX D (by omega) λv _ _=>cH ⟨{A with z2:=?_,i5:=?_},C.mono (by omega)⟩
  ·show(du _ _ _).length<=1000;rw[lR];omega
  ·intro x hx;rcases tC hx with hx|rfl
   ·exact A.i5 x hx
   ·rw[mb (by omega) (by omega) (by omega) (by omega)];unfold In;omega
 ·refine ei y (by omega) (by omega) λb E D b1 j=>fc (by simp;omega) (by omega) (cH ⟨{A with z3:=?_,i6:=?_},j.mono (by omega)⟩)
  ·show(l.eH++[_]).length<=1000;simp;omega
  ·intro x hx;rcases eJ.1 hx with hx|hx
   ·exact A.i6 x hx
   ·rw[gf] at hx;rw[hx];show In (cX .i64 b 1);rw[mb (by omega) (by omega) (by omega) (by omega)];unfold In;omega
 ·refine ei y (by omega) (by omega) λb E D b1 j=>ei j (by omega) (by omega) λd I d0 d1 C=>ei C (by omega) (by omega) λe r4 e0 e1 H=>fc (by simp;omega) (by omega) (cH ⟨{A with z4:=?_},H.mono (by omega)⟩);show(l.holds++[_]).length<=1000;simp;omega
 ·have S:dV (kM 1 (cA l.dJ) (cA l.dJ))=some ():=by
    unfold kM
    rw[cW,gF (by omega)];rfl
  rw[S,cw];refine xF (by omega) (by rw[cW];omega) (by rw[cW];omega) (cH ⟨{A with z1:=?_,i4:=?_},y.mono (by omega)⟩)
  ·show(List.take _ (List.drop _ _)).length<=1000;rw[kI,nn];omega
  ·intro x hx;exact A.i4 x (D8 hx)
end
end
section
section
variable{n:Nat}{R:Type}{Q:R->Prop}
def spoilt:List cq:=[[120],[80,32,53,32,108,97,58,48,58,49,58,53,48,48],[67,32,57],[65,32,49],[67,32,49]]
def ad6{r:cq}(h:r∈spoilt):tW r/\r.length<=100:=by
 simp only[spoilt,eG,mq,l8] at h;have j:∀{r:cq}{a b:cq},dB 32 r=[a,b]->tW r:=λe F H I x=>by rw[e] at x;cases x
 rcases h with rfl|rfl|rfl|rfl|rfl
 ·exact⟨(λa b c e=>by
   rw[show dB 32 [120]=[[120]] from rfl] at e
   cases e),by decide⟩
 ·refine⟨λa b c e=>?_,by decide⟩;rw[show dB 32 [80,32,53,32,108,97,58,48,58,49,58,53,48,48]=[[80],[53],[108,97,58,48,58,49,58,53,48,48]] from rfl] at e;injection e with _ e;injection e with _ e;injection e with e _;subst e;have y:itoa 0=[48]:=by rw[show(0:Int)=((0:Nat):Int) from rfl,nO,po (by omega)];rfl
  have A:itoa 1=[49]:=by rw[show(1:Int)=((1:Nat):Int) from rfl,nO,po (by omega)];rfl
  have C:itoa 500=[53,48,48]:=by rw[show(500:Int)=((500:Nat):Int) from rfl,nO,sq (by omega),sq (by omega),po (by omega)];rfl
  have D:([108,97,58,48,58,49,58,53,48,48]:cq)=ia [⟨[108,97],0,1,500⟩]:=by
   simp[ia,kc,eX,y,A,C]
  rw[D];have E:jg [⟨[108,97],0,1,500⟩]=true:=by decide
  exact Sp (by rw[S2 E (λo u=>by rw[gf] at u;rw[u];decide)])
 ·exact⟨j (show dB 32 [67,32,57]=[[67],[57]] from rfl),by decide⟩
 ·exact⟨j (show dB 32 [65,32,49]=[[65],[49]] from rfl),by decide⟩
 ·exact⟨j (show dB 32 [67,32,49]=[[67],[49]] from rfl),by decide⟩
def Z9{K:Nat}{s:cT}{r:Rd}{N:Int}(h:jj K s)(hK:K<=10000)(U:dU N r)(hN:N<=900000)(H:2^41<=n):Ok (yx n r s) λx=>Good x.1/\dU (N+20) x.2:=by
 have e:=h.z (show K<=15000 by omega);have I:=h.lg;have A:∀(a:Int)(b:Bool),Good {s with id:=a,up:=b}:=λa b=>⟨⟨e.bl,e.bz,e.lg,e.ll,e.lr,e.tl,e.tz⟩,h.g⟩;have self:Good s:=⟨e,h.g⟩;unfold yx;rw[NH e H,cw];refine ei U (by omega) (by omega) λa r1 _ _ j=>dr (λ_=>?_) λ_=>dr (λ_=>?_) λ_=>dr (λ_=>?_) λ_=>dr (λ_=>?_) λ_=>dr (λ_=>?_) λ_=>dr (λ_=>?_) λ_=>?_
 ·exact ei j (by omega) (by omega) λb S _ _ y=>cH ⟨A _ _,y.mono (by omega)⟩
 ·have Y:0<=(s.dw.length:Int)/2:=DP (by omega) (by omega);have Z:(s.dw.length:Int)/2<=s.dw.length:=HL _ (by omega);rw[gA];refine tN (by omega) (by omega) (by omega) (P2 (by omega) Y Z (cH ⟨⟨⟨e.bl,e.bz,?_,e.ll,e.lr,e.tl,e.tz⟩,?_⟩,j.mono (by omega)⟩))
  ·show(List.take _ (List.drop _ _)).length<_;rw[kI,nn];omega
  ·exact NM (ZY _ _) (show s.dw.length<1000000 by omega) h.g
 ·refine Ag (list:=spoilt) j (by omega) (by decide) λq S hq y=>?_;obtain⟨J,aa⟩:=ad6 hq;refine dq (P:=λx=>x.1.length<=9000/\ri x.1) (G1 (NB (by omega) (show q.length<2^28 by omega) H) ?_) λx hx=>cH ⟨⟨⟨e.bl,e.bz,by show x.1.length<_;omega,e.ll,e.lr,e.tl,e.tz⟩,hx.2⟩,y.mono (by omega)⟩;cases ha:qG s.dw q with
  |none=>exact⟨I,h.g⟩
  |some x=>
   obtain⟨a1,a2,a3⟩:=NK (by omega) (by omega) ha;refine⟨a1,?_⟩;show ri x;unfold ri;rw[a3];intro p E;rcases eJ.1 E with E|E
   ·exact h.g p E
   ·rw[gf] at E;rw[E];exact J
 ·exact cH ⟨A _ _,j.mono (by omega)⟩
 ·refine eu (λF=>?_) λ_=>cH ⟨self,j.mono (by omega)⟩;rw[cW] at F;have C:0<s.cJ.length:=by omega
  have D:=dA C;rw[show((0:Nat):Int)=0 from rfl] at D;simp only[D,cw];refine dq (RR (h.l.2 _ (dM C)) j (by omega) H) λx hx=>cH ⟨⟨⟨e.bl,e.bz,e.lg,by show(du _ _ _).length<=_;rw[lR];exact e.ll,λl u=>?_,e.tl,e.tz⟩,h.g⟩,hx.2.mono (by omega)⟩;rcases tC u with u|rfl
  ·exact e.lr l u
  ·exact hx.1
 ·refine eu (λF=>?_) λ_=>cH ⟨self,j.mono (by omega)⟩;rw[cW] at F;have C:0<s.cB.length:=by omega
  have D:=dA C;rw[show((0:Nat):Int)=0 from rfl] at D;refine ei j (by omega) (by omega) λb S _ _ y=>?_;simp only[D,cw];refine cH ⟨⟨⟨e.bl,e.bz,e.lg,e.ll,e.lr,by show(du _ _ _).length<=_;rw[lR];exact e.tl,λt M=>?_⟩,h.g⟩,y.mono (by omega)⟩;rcases tC M with M|rfl
  ·exact e.tz t M
  ·have:=e.tz _ (dM C);exact this
 ·refine eu (λF=>?_) λ_=>cH ⟨self,j.mono (by omega)⟩;rw[cW] at F;have C:0<s.base.length:=by omega
  have D:=dA C;rw[show((0:Nat):Int)=0 from rfl] at D;simp only[D,cw];refine dq (RR (h.b.2 _ (dM C)) j (by omega) H) λx hx=>cH ⟨⟨⟨by show(du _ _ _).length<=_;rw[lR];exact e.bl,λl u=>?_,e.lg,e.ll,e.lr,e.tl,e.tz⟩,h.g⟩,hx.2.mono (by omega)⟩;rcases tC u with u|rfl
  ·exact e.bz l u
  ·exact hx.1.tooQ
def Df(code:List Int):Prop:=∀x∈code,0<=x/\x<256
def afz{code:List Int}(h:Df code)(e:code.length<2^62):Ok (Cr n code) (dU 0):=by
 unfold Cr;refine eu (λa=>?_) λa=>?_
 ·rw[cW] at a;refine xF (by omega) (by omega) (by omega) (cH ⟨λx hx=>h x (D8 hx),?_,by show(0:Int)<=0;omega,by show(0:Int)<=0;omega⟩);show(List.take _ (List.drop _ _)).length<=2000;rw[kI];omega
 ·rw[cW] at a;exact cH ⟨h,by show code.length<=2000;omega,by show(0:Int)<=0;omega,by show(0:Int)<=0;omega⟩
def abc{r:Rd}(P:dU 0 r)(S:2^42<=n):Ok (H2 n r) λx=>jj 2000 x.1/\x.2.1.ops.length<=10/\dU 500000 x.2.2:=by
 unfold H2;refine dq (abb P S) λw y=>?_;have U:=y.1.s2;have Y:=y.1.r.l;refine ei y.2 (by omega) (by rw[cW];omega) λa r1 Z a1 E=>iX Z (by rw[cW] at a1;omega) λs hs _=>?_;have j:=y.1.s s hs;have aa:=j.b6;refine jn (N:=w.1.fV.length) (by omega) (λm(x:Rd)i=>yy n m i w.1 s x _) (λi x=>dU (400001+i) x) (m:=n) (by omega) (E.mono (by omega)) (λm x hx=>?_) λm i x C hx D=>?_
 ·rw[yy];refine iP (by rw[cW];omega) (ei hx (by omega) (by omega) λb M b0 b1 u=>ei u (by omega) (by omega) λc r3 _ _ A=>dr (λ_=>?_) λ_=>?_)
  ·exact ei A (by omega) (by omega) λd r4 _ _ F=>cH ⟨j,by show(0:Nat)<=10;omega,F.mono (by omega)⟩
  ·refine jn (N:=s.base.length) (by omega) (λm(x:cO×Rd)i=>AU n m i s x.1 x.2 _) (λi x=>x.1.ops.length<=i/\dU (400100+3*i) x.2) (m:=n) (s:=(cO.mk 1 0 s.id (cz .i64 1 b) [] false,r3)) (by omega) ⟨by show(0:Nat)<=0;omega,A.mono (by omega)⟩ (λm x hx=>?_) λm i x C hx D=>?_
   ·rw[AU];exact iP (by rw[cW];omega) (cH ⟨j,by show x.1.ops.length<=10;omega,hx.2.mono (by omega)⟩)
   ·rw[AU];refine jo (by rw[cW];omega) (eu (λ_=>?_) λ_=>cH ⟨j,by show x.1.ops.length<=10;omega,hx.2.mono (by omega)⟩);rw[dA C,cw];refine ei hx.2 (by omega) (by omega) λe r5 _ _ H=>ei H (by omega) (by omega) λf r6 _ _ I=>ei I (by omega) (by omega) λg r7 _ _ J=>fc (by have:=hx.1;simp;omega) (by omega) ?_;rw[dO (show i<2^31 by omega)];exact D ({x.1 with ops:=_},r7) ⟨by have:=hx.1;show(x.1.ops++[_]).length<=_;simp;omega,J.mono (by omega)⟩
 ·rw[yy];refine jo (by rw[cW];omega) ?_;rw[dA C,cw,dO (show i<2^31 by omega)];refine dr (λ_=>ei hx (by omega) (by omega) λb M _ _ u=>dr (λ_=>?_) λ_=>D M (u.mono (by omega))) λ_=>D x (hx.mono (by omega));rw[cw];exact cH ⟨j,by have:=(y.1.r.m _ (dM C)).o;show w.1.fV[i].ops.length<=10;omega,u.mono (by omega)⟩
def aaD{m:cO}{r:Rd}{N:Int}(h:m.ops.length<=10)(y:dU N r)(A:N<=900000):Ok (HU n r m) λx=>dU (N+5) x.2:=by
 unfold HU;refine ei y (by omega) (by omega) λa C _ _ j=>dr (λ_=>?_) λ_=>dr (λ_=>?_) λ_=>dr (λ_=>?_) λ_=>dr (λ_=>?_) λ_=>dr (λ_=>?_) λ_=>?_
 ·exact ei j (by omega) (by omega) λb u _ _ e=>cH (e.mono (by omega))
 ·exact ei j (by omega) (by omega) λb u _ _ e=>cH (e.mono (by omega))
 ·exact ei j (by omega) (by omega) λb u _ _ e=>cH (e.mono (by omega))
 ·exact ei j (by omega) (by omega) λb u _ _ e=>cH (e.mono (by omega))
 ·exact cH (j.mono (by omega))
 ·exact fc (by simp;omega) (by omega) (Ag j (by omega) (by simp) λs u _ e=>fc (by simp;omega) (by omega) (cH (e.mono (by omega))))
def ad7{code:List Int}(h:Df code)(F:code.length<2^62)(H:2^42<=n):Ok (DV n code) λx=>Good x.1:=by
 unfold DV;refine dq (afz h F) λr I=>dq (abc I H) λx hx=>?_;have j:∀(m:cO)(u:Rd),dU 600000 u->Ok (ck (cS n u 14) λD=>cond (cp D.1 0) (ck (yx n D.2 x.1) λJ=>some (J.1,m)) (some (x.1,m))) λx=>Good x.1:=λm u A=>
  ei A (by omega) (by omega) λa E _ _ e=>dr (λ_=>dq (Z9 hx.1 (by omega) e (by omega) (by omega)) λy C=>cH C.1) λ_=>cH (hx.1.ahS (by omega))
 refine ei hx.2.2 (by omega) (by omega) λa E _ _ e=>dr (λ_=>?_) λ_=>j _ E (e.mono (by omega));exact dq (aaD hx.2.1 e (by omega)) λy C=>j _ y.2 (C.mono (by omega))
def ad8{code:List Int}(h:Df code)(a:code.length<2^62)(j:2^42<=n):Ej n code=some true:=by
 obtain⟨⟨s,m⟩,e,u⟩:=ad7 h a j;exact afj e u (by omega)
end
end
end Go.Ev
