/- Laws of the plain functions, first part. -/
import Derived.Laws.BitsLemmas
import Derived.Lib.ItoaLen
import Derived.Lib.Repeat
import Derived.Lib.SplitLaws
import Derived.Lib.AtoiAllCases
import Derived.Test.YtfnlbejcgjlclaaGreatDoorD
set_option linter.all false
namespace Go.Ev
open Go
attribute[go_sem] YR dF gr iD iN cW lj kS du Int.natCast_zero sE Int.ofNat_lt GW List.all_nil vt GY
@[go_sem] theorem cu{a R:Type}(x:a)(f:a->Option R):ck (some x) f=f x:=rfl
@[go_sem] theorem tf(b:Bool):dJ b=if b=true then some () else none:=by cases b<;>rfl
theorem uH(a b:Int):cw .i64 a b=(a+b+9223372036854775808) % 18446744073709551616-9223372036854775808:=IntKind.wrap_i64 _
theorem ij(a b:Int):cQ .i64 a b=(a-b+9223372036854775808) % 18446744073709551616-9223372036854775808:=IntKind.wrap_i64 _
theorem dE{i:Nat}(h:i<2^31):cw .i64 i 1=((i+1:Nat):Int):=by rw[uH];omega
theorem dt{a:Type}{l:List a}{i:Nat}(h:i<l.length):cm l i=some l[i]:=by
 simp[cm,h]
theorem uU{l:cq}{i:Nat}(h:i<l.length):iq l i=some (l[i].toNat:Int):=by
 simp[iq,h]
@[go_sem] theorem en(a b:Int):cp a b=decide (a=b):=rfl
@[go_sem] theorem dv(a b:Int):cA a b=decide (a<b):=rfl
@[go_sem] theorem gv(a b:Int):dz a b=decide (a<=b):=rfl
@[go_sem] theorem fV(a:cq):eg a=a.length:=rfl
@[go_sem] theorem cP{e:Type}(a:List e):cz a=a.length:=rfl
@[go_sem] theorem dO(a:Bool):cD a=!a:=rfl
@[go_sem] theorem kF(a b:cq):dm a b=decide (a=b):=rfl
@[go_sem] theorem rG(n:Nat)(a b c:Int):dn n a b c=some (decide (b<=a/\a<=c)):=by
  simp only[dn,gv]
  by_cases h:b<=a<;>simp[h]
theorem Cy{e σ R:Type}{xs:List e}(C:xs.length<2^30){L:Nat->Int->σ->Option R}{G:List e->σ->Option R}(u:∀m st,L (m+1) xs.length st=G [] st)
  (x:∀m(i:Nat)(h:i<xs.length),(∀st,L m (cw .i64 i 1) st=G (xs.drop (i+1)) st)->∀st,L (m+1) i st=G (xs[i]::xs.drop (i+1)) st){m:Nat}(D:xs.length<m)(st:σ):L m 0 st=G xs st:=by
 have a:∀m i:Nat,i<=xs.length->xs.length<m+i->∀st,L m i st=G (xs.drop i) st:=by
  intro m
  induction m with
  |zero=>intro i h y;omega
  |succ m A=>
   intro i h y st
   by_cases j:i<xs.length
   ·rw[kR j];exact x m i j (λst=>by rw[dE (by omega)];exact A (i+1) (by omega) (by omega) st) st
   ·have:i=xs.length:=by omega
    subst this;rw[Qb (hY _)];exact u m st
 have:=a m 0 (by omega) (by omega) st;simpa using this
theorem Pm{a R:Type}{xs:List a}(e:xs.length<2^30){L:Nat->Int->Option R}{G:List a->Option R}(j:∀m,L (m+1) xs.length=G [])(u:∀m(i:Nat)(h:i<xs.length),L m (cw .i64 i 1)=G (xs.drop (i+1))->L (m+1) i=G (xs[i]::xs.drop (i+1))){m:Nat}(x:xs.length<m):L m 0=G xs:=Cy (σ:=Unit) e (L:=λm i _=>L m i) (G:=λxs _=>G xs) (λm _=>j m) (λm i h y _=>u m i h (y ())) x ()
theorem KM{R:Type}{N:Nat}(A:N<2^30){L:Nat->Int->Option R}{G:Nat->Option R}(e:∀m,L (m+1) N=G N)(j:∀m i,i<N->L m (cw .i64 i 1)=G (i+1)->L (m+1) i=G i){m:Nat}(C:N<m):L m 0=G 0:=by
 have a:∀m i:Nat,i<=N->N<m+i->L m i=G i:=by
  intro m
  induction m with
  |zero=>intro i h u;omega
  |succ m x=>
   intro i h u
   by_cases y:i<N
   ·exact j m i y (by rw[dE (by omega)];exact x (i+1) (by omega) (by omega))
   ·have:i=N:=by omega
    subst this;exact e m
 exact a m 0 (by omega) (by omega)
def fL(N:Nat)(P:Nat->Bool):Bool:=(List.range N).all P
theorem kD{R:Type}{N:Nat}(a:N<2^30){L:Nat->Int->Option R}{P:Nat->Bool}{k r:Option R}(e:∀m,L (m+1) N=k)(j:∀m i,i<N->L (m+1) i=if P i=true then L m (cw .i64 i 1) else r){m:Nat}(u:N<m):L m 0=if fL N P=true then k else r:=by
 have:=KM a (L:=L) (G:=λi=>if(List.range' i (N-i)).all P=true then k else r) (λm=>by rw[e];simp) (λm i x y=>by
  rw[j m i x,y,show N-i=(N-(i+1))+1 by omega,P4,GW]
  cases P i<;>rfl) u;rw[this,fL,YJ,Qc]
def lW{a:Type}(p:a->Bool):Nat->List a->Int
 |_,[]=>-1
 |i,x::e=>if p x=true then(i:Int) else lW p (i+1) e
theorem qu{u:Type}{p:u->Bool}:∀{xs:List u}{i:Nat},lW p i xs=-1/\(∀x∈xs,p x=false)\/∃(j:Nat)(h:j<xs.length),lW p i xs=((i+j:Nat):Int)/\p xs[j]=true/\∀(k:Nat)(_:k<j),p (xs[k]'(by omega))=false
 |[],i=>.inl ⟨rfl,by simp⟩
 |x::xs,i=>by
  unfold lW
  by_cases h:p x=true
  ·exact .inr ⟨0,by simp,by simp[h],by simpa using h,λk y=>by omega⟩
  ·rw[cK h];have h:p x=false:=by simpa using h
   rcases qu (p:=p) (xs:=xs) (i:=i+1) with⟨a,e⟩|⟨j,A,a,e,C⟩
   ·exact .inl ⟨a,by simpa[h] using e⟩
   ·refine .inr ⟨j+1,by simpa using A,by rw[a];omega,by simpa using e,λk y=>?_⟩;cases k with
    |zero=>simpa using h
    |succ k=>simpa using C k (by omega)
theorem wH{e R:Type}{a:List e}(u:a.length<2^30){L:Nat->Int->Option R}{p:e->Bool}{f:Int->Option R}(x:∀m,L (m+1) a.length=f (-1))(y:∀m(i:Nat)(h:i<a.length),L (m+1) i=if p a[i]=true then f i else L m (cw .i64 i 1)){m:Nat}(A:a.length<m):L m 0=f (lW p 0 a):=by
 have:=KM u (L:=L) (G:=λi=>f (lW p i (a.drop i))) (λm=>by rw[x,Qb (hY _)];rfl) (λm i j C=>by
  rw[y m i j,C,kR j,lW]
  split<;>rfl) A;simpa using this
theorem eG{a:Type}{l:List a}{i:Nat}(h:i<l.length)(d:a):cm l i=some (l.getD i d):=by
 rw[dt h,iE,eA h];rfl
theorem pl{c:Prop}[Decidable c]{X:Option Bool}{a b:Bool}(e:c↔a=false)(h:a=true->X=some b):(if c then some false else X)=some (a&&b):=by
 cases a with
 |false=>rw[cJ (e.2 rfl)];rfl
 |true=>rw[cK (λh=>by cases e.1 h),h rfl];rfl
def low(c:UInt8):Bool:=decide (97<=(c.toNat:Int)/\(c.toNat:Int)<=122)
def gy(t:cq):Bool:=t.all low&&decide (1<=(t.length:Int)/\(t.length:Int)<=8)
theorem ru{n:Nat}{t:cq}(a:t.length<2^30)(u:2^41<=n):lS n t=some (gy t):=by
 have:=λk=>Pm a (L:=λm i=>AR n m t i k) (G:=λe=>if e.all low=true then k t else some false) (λm=>by simp[go_sem,AR]) (λm i h j=>by
  simp only[go_sem,AR,uU h,j,low,h];grind) (m:=n) (by omega);simp only[go_sem,lS,gy] at this⊢;rw[this]
 grind
section
section
variable{n:Nat}{l:cE}{c:Int}{R:Type}
def wX(l:cE)(c x:Int):Int:=(l.dq.drop c.toNat).foldl (cw .i64) x
def uV(a:List dj)(c x:Int):Int:=a.foldl (λx h=>if c<=h.cls/\0<h.cM then cw .i64 x h.cM else x) x
def used(l:cE)(c:Int):Int:=uV l.holds c (wX l c 0)
def ns(a:List dj)(c x:Int):Int:=a.foldl (λx h=>if h.cls=c/\h.cM<0 then cQ .i64 x h.cM else x) x
theorem VT{k:Int->Int->cE->Option Int}(e:l.dq.length=3):∀m i:Nat,i<=3->3<m+i->∀x,AT n m c x i l k=k c (wX l i x) l
 |0,i,h,j,x=>by omega
 |m+1,i,h,j,x=>by
  by_cases u:i<3
  ·have a:i<l.dq.length:=by omega
   have:((i:Int)<3):=by omega
   simp only[go_sem,AT,dt a,dE (i:=i) (by omega),VT e m (i+1) (by omega) (by omega),this,wX,fB,kR a]
  ·have:¬ ((i:Int)<3):=by omega
   simp only[go_sem,AT,this,wX,fB,Qb (show l.dq.length<=i by omega)]
theorem US(e:l.dq.length=3)(u:l.holds.length<2^30)(D:2^41<=n){i:Nat}(y:i<=3):EZ n l i=some (used l i):=by
 have a:=Cy u (L:=λm j x=>vL n m i x j l some) (G:=λA x=>some (uV A i x)) (λm x=>by simp[go_sem,vL,uV]) (λm i h C x=>by
  simp only[go_sem,vL,dt h,C,uV,h];grind) (m:=n) (by omega);simp only[go_sem,EZ,VT e n i y (by omega)] at a⊢;rw[a];rfl
theorem UT(a:l.holds.length<2^30)(y:2^41<=n):yQ n l c=some (ns l.holds c 0):=by
 have:=Cy a (L:=λm j x=>vM n m c x j l some) (G:=λe x=>some (ns e c x)) (λm x=>by simp[go_sem,vM,ns]) (λm i h u x=>by
  simp only[go_sem,vM,dt h,u,ns,h];grind) (m:=n) (by omega);simp only[go_sem,yQ] at this⊢;rw[this]
abbrev gI(l:List Int)(i:Nat):Int:=l.getD i 0
def qO(l:cE)(j:Nat):Bool:=decide (0<=gI l.dy j/\gI l.dy j<=l.cap)&&decide (0<j->gI l.dy j<=gI l.dy (j-1))&&decide (0<=gI l.dq j/\gI l.dq j<=l.cap)
def xh(l:cE)(j:Nat):Bool:=decide (0<=gI l.eu j/\gI l.eu j<=1000000000)&&decide (0<j->gI l.eu j<=gI l.eu (j-1))
def nk(l:cE):Bool:=gy l.name&&(gy l.cI&&(gy l.to&&(!decide (l.cI=l.to)&&(decide (0<=l.fb/\l.fb<=9999)&&(decide (cw .i64 l.fb 1<=l.arr/\l.arr<=9999)&&(decide (1<=l.cap/\l.cap<=9)&&(decide ((l.dy.length:Int)=3)&&(decide ((l.dq.length:Int)=3)&&(decide (gI l.dy 0=l.cap)&&(decide (1<=(l.eu.length:Int)/\(l.eu.length:Int)<=4)&&(!decide ((6:Int)<l.holds.length)&&(fL 3 (qO l)&&fL l.eu.length (xh l)))))))))))))
theorem ach(j:l.name.length<2^30)(u:l.cI.length<2^30)(x:l.to.length<2^30)(e:2^41<=n):Is n l=some (nk l):=by
 have y:l.dy.length=3->cm l.dy 0=some (gI l.dy 0):=λh=>eG (i:=0) (by omega) 0;have A:l.dy.length=3->l.dq.length=3->∀k,vD n n 0 l k=if fL 3 (qO l)=true then k l else some false:=λa b k=>
  kD (N:=3) (by omega) (L:=λm i=>vD n m i l k) (λm=>by simp[go_sem,vD]) (λm i h=>by
   have c:((i:Int)<3):=by omega
   simp only[go_sem,vD,eG (show i<l.dy.length by omega) 0,eG (show i<l.dq.length by omega) 0,c,qO]
   by_cases C:0<i
   ·have:cQ .i64 i 1=((i-1:Nat):Int):=by rw[ij];omega
    simp only[this,eG (show i-1<l.dy.length by omega) 0,go_sem]
    grind
   ·grind) (by omega)
 have D:l.eu.length<2^30->∀k,vE n n 0 l k=if fL l.eu.length (xh l)=true then k else some false:=λa k=>
  kD a (L:=λm i=>vE n m i l k) (λm=>by simp[go_sem,vE]) (λm i h=>by
   simp only[go_sem,vE,eG h 0,h,xh]
   by_cases C:0<i
   ·have:cQ .i64 i 1=((i-1:Nat):Int):=by rw[ij];omega
    simp only[this,eG (show i-1<l.eu.length by omega) 0,go_sem]
    grind
   ·grind) (by omega)
 unfold Is nk;simp only[go_sem,ru j e,ru u e,ru x e];refine pl (by simp) λ_=>pl (by simp) λ_=>pl (by simp) λ_=>pl (by simp) λ_=>pl (by simp) λ_=>pl (by simp) λ_=>pl (by simp) λ_=>pl (by simp) λE=>pl (by simp) λF=>?_;simp only[go_sem] at E F;rw[y (by omega),cu];refine pl (by simp) λ_=>pl (by simp) λH=>pl (by simp) λ_=>?_;simp only[go_sem] at H;rw[A (by omega) (by omega),D (by omega)];cases fL 3 (qO l)<;>cases fL l.eu.length (xh l)<;>rfl
abbrev gH(l:List dj)(i:Nat):dj:=l.getD i ⟨0,0,0⟩
def wY(l:cE)(j:Nat):Bool:=decide (1<=(gH l.holds j).txn/\(gH l.holds j).txn<=99)&&decide (0<j->(gH l.holds (j-1)).txn<(gH l.holds j).txn)&&decide (0<=(gH l.holds j).cls/\(gH l.holds j).cls<=2)&&decide ((gH l.holds j).cM≠0)&&decide (gj .i64 l.cap<=(gH l.holds j).cM/\(gH l.holds j).cM<=l.cap)
def nY(l:cE)(j:Nat):Bool:=decide (used l j<=gI l.dy j)&&decide (ns l.holds j 0<=gI l.dq j)
def ku(l:cE):Bool:=nk l&&(fL l.holds.length (wY l)&&fL 3 (nY l))
theorem Zj(h:nk l=true):l.dy.length=3/\l.dq.length=3/\1<=l.eu.length/\l.eu.length<=4/\l.holds.length<=6/\gy l.name=true/\gy l.cI=true/\gy l.to=true:=by
 simp only[nk,du,dF,lj,kS] at h;refine⟨by omega,by omega,by omega,by omega,by omega,h.1,h.2.1,h.2.2.1⟩
def CN(l:cE):Prop:=l.name.length<2^30/\l.cI.length<2^30/\l.to.length<2^30
theorem aci(h:CN l)(a:2^41<=n):JF n l=some (ku l):=by
 unfold JF ku;simp only[go_sem,ach h.1 h.2.1 h.2.2 a];refine pl (by simp) λe=>?_;obtain⟨y,j,_,_,A,_⟩:=Zj e;have u:∀k,vQ n n 0 l k=if fL l.holds.length (wY l)=true then k l else some false:=λk=>
  kD (by omega) (L:=λm i=>vQ n m i l k) (λm=>by simp[go_sem,vQ]) (λm i h=>by
   simp only[go_sem,vQ,eG h ⟨0,0,0⟩,h,wY]
   by_cases C:0<i
   ·have:cQ .i64 i 1=((i-1:Nat):Int):=by rw[ij];omega
    simp only[this,eG (show i-1<l.holds.length by omega) ⟨0,0,0⟩,go_sem]
    grind
   ·grind) (by omega)
 have x:∀k,yy n n 0 l k=if fL 3 (nY l)=true then k else some false:=λk=>
  kD (by omega) (L:=λm i=>yy n m i l k) (λm=>by simp[go_sem,yy]) (λm i h=>by
   have c:((i:Int)<3):=by omega
   simp only[go_sem,yy,US j (show l.holds.length<2^30 by omega) a (show i<=3 by omega),UT (show l.holds.length<2^30 by omega) a,eG (show i<l.dy.length by omega) 0,eG (show i<l.dq.length by omega) 0,c,nY]
   grind) (by omega)
 rw[u,x];cases fL l.holds.length (wY l)<;>cases fL 3 (nY l)<;>rfl
theorem OT{net:List cE}{name:cq}(a:net.length<2^30)(e:2^41<=n):ni n net name=some (lW (λl=>decide (l.name=name)) 0 net):=wH a (L:=λm i=>Bb n m net name i (some (-1))) (f:=some) (λm=>by simp[go_sem,Bb]) (λm i h=>by simp only[go_sem,Bb,dt h,h]) (by omega)
abbrev gL(l:List cE)(i:Nat):cE:=l.getD i ⟨[],[],[],0,0,0,[],[],[],[]⟩
def pc(a:List cE)(j:Nat):Bool:=ku (gL a j)&&decide (lW (λl=>decide (l.name=(gL a j).name)) 0 a=j)
def u5(a:List cE):Bool:=fL a.length (pc a)&&decide ((a.length:Int)<=6)
theorem acj{a:List cE}(j:a.length<2^30)(h:∀l∈a,CN l)(u:2^41<=n):JG n a=some (u5 a):=by
 have:=λk=>kD j (L:=λm i=>Bc n m a i k) (P:=pc a) (k:=k a) (r:=some false) (λm=>by simp[go_sem,Bc]) (λm i e=>by
  have x:gL a i=a[i]:=by simp[iE,eA e]
  have y:CN (gL a i):=by rw[x];exact h _ (dG e)
  simp only[go_sem,Bc,eG e ⟨[],[],[],0,0,0,[],[],[],[]⟩,e,aci y u,OT j u,pc]
  grind) (m:=n) (by omega);unfold JG u5;rw[this];cases fL a.length (pc a)<;>simp[go_sem]
def nZ(a:List cE):Bool:=(a.all λl=>decide (l.holds=[]))&&u5 a
theorem Oh{a:List cE}(e:a.length<2^30)(h:∀l∈a,CN l)(u:2^41<=n):Bu n a=some (nZ a):=by
 have:=λk=>Pm e (L:=λm i=>Aw n m a i k) (G:=λx=>if x.all (λl=>decide (l.holds=[]))=true then k a else some false) (λm=>by simp[go_sem,Aw]) (λm i j y=>by
  simp only[go_sem,Aw,dt j,j,y]
  cases a[i].holds<;>simp) (m:=n) (by omega);unfold Bu nZ;simp only[go_sem,this,acj e h u];cases(a.all λl=>decide (l.holds=[]))<;>simp
end
end
theorem D9{a b:Int}(e:-1000000<=a)(j:a<=1000000)(u:-1000000<=b)(x:b<=1000000):cw .i64 a b=a+b:=by rw[uH];omega
theorem Rn{a b:Int}(e:-1000000<=a)(j:a<=1000000)(u:-1000000<=b)(x:b<=1000000):cQ .i64 a b=a-b:=by rw[ij];omega
def fc{a:Type}(f:a->Int):List a->Int|[]=>0|x::e=>f x+fc f e
theorem Fb{j:Type}(f:j->Int):∀(a e:List j),fc f (a++e)=fc f a+fc f e
 |[],e=>by simp[fc]
 |x::a,e=>by simp only[pI,fc,Fb f a];omega
theorem Oi{e:Type}{f:e->Int}{a:Int}:∀{xs:List e},(∀x∈xs,a<=f x)->a*xs.length<=fc f xs
 |[],_=>by simp[fc]
 |x::xs,h=>by
  have u:=Oi (xs:=xs) λy j=>h y (by simp[j]);have A:=h x (by simp);simp only[fc,fY,YS,YT];simp;omega
theorem UU{e:Type}{f:e->Int}{a:Int}:∀{xs:List e},(∀x∈xs,f x<=a)->fc f xs<=a*xs.length
 |[],_=>by simp[fc]
 |x::xs,h=>by
  have u:=UU (xs:=xs) λy j=>h y (by simp[j]);have A:=h x (by simp);simp only[fc,fY,YS,YT];simp;omega
theorem Jj{e:Type}{g:Int->e->Int}{f:e->Int}(j:∀x y,-1000<=x->x<=1000->-9<=f y->f y<=9->g x y=x+f y):∀(a:List e)(x:Int),(∀y∈a,-9<=f y/\f y<=9)->-1000<=x-9*a.length->x+9*a.length<=1000->a.foldl g x=x+fc f a
 |[],x,_,_,_=>by simp[fc]
 |y::A,x,h,C,D=>by
  have u:=h y (by simp);simp only[fY,YS] at C D;rw[vt,j x y (by omega) (by omega) u.1 u.2,Jj j A _ (λz E=>h z (by simp[E])) (by omega) (by omega),fc];omega
def lN(c:Int)(h:dj):Int:=if c<=h.cls/\0<h.cM then h.cM else 0
def ma(c:Int)(h:dj):Int:=if h.cls=c/\h.cM<0 then-h.cM else 0
def qI(l:cE)(c:Nat):Int:=fc id (l.dq.drop c)
structure gP(l:cE):Prop where
 n1:gy l.name=true
 n2:gy l.cI=true
 n3:gy l.to=true
 ne:l.cI≠l.to
 fb:0<=l.fb/\l.fb<=9999
 arr:l.fb+1<=l.arr/\l.arr<=9999
 cap:1<=l.cap/\l.cap<=9
 l3:l.dy.length=3
 s3:l.dq.length=3
 l0:gI l.dy 0=l.cap
 b:1<=l.eu.length/\l.eu.length<=4
 h6:l.holds.length<=6
 xB:∀j,j<3->qO l j=true
 pA:∀j,j<l.eu.length->xh l j=true
 hold:∀h∈l.holds,(1<=h.txn/\h.txn<=99)/\(0<=h.cls/\h.cls<=2)/\h.cM≠0/\-l.cap<=h.cM/\h.cM<=l.cap
 nJ:l.holds.Pairwise (λa b=>a.txn<b.txn)
 iH:∀j:Nat,j<3->qI l j+fc (lN j) l.holds<=gI l.dy j/\fc (ma j) l.holds<=gI l.dq j
theorem mn{N:Nat}{P:Nat->Bool}:fL N P=true↔∀j,j<N->P j=true:=by simp[fL,jh]
theorem OU{l:List Int}{i:Nat}(h:i<l.length):gI l i∈l:=by
 rw[gI,iE,eA h];exact dG h
theorem wZ{l:List dj}{i:Nat}(h:i<l.length):gH l i=l[i]:=by
 rw[gH,iE,eA h];rfl
theorem F6{l:List Int}{i:Nat}(h:i<l.length):gI l i=l[i]:=by
 rw[gI,iE,eA h];rfl
theorem UW{e:List dj}:e.Pairwise (λa b=>a.txn<b.txn)↔∀j,j<e.length->0<j->(gH e (j-1)).txn<(gH e j).txn:=by
 constructor
 ·intro h j u E;rw[wZ u,wZ (by omega)];exact YU.1 h _ _ (by omega) u (by omega)
 ·intro h;have y:∀d i,i+d+1<e.length->(gH e i).txn<(gH e (i+d+1)).txn:=by
   intro d
   induction d with
   |zero=>intro i x;exact h (i+1) (by omega) (by omega)
   |succ d A=>
    intro i x
    have F:=A i (by omega)
    have C:=h (i+(d+1)+1) x (by omega)
    have:i+(d+1)+1-1=i+d+1:=by omega
    rw[this] at C
    omega
  refine YU.2 λi j x u D=>?_;have:=y (j-i-1) i (by omega);rwa[show i+(j-i-1)+1=j by omega,wZ x,wZ u] at this
theorem Tj{l:cE}(y:l.dq.length=3)(e:l.cap<=9)(a:∀j,j<3->qO l j=true):∀x∈l.dq,0<=x/\x<=9:=λx hx=>by
 obtain⟨j,u,rfl⟩:=pD hx;have:=a j (by omega);simp only[qO,du,dF,F6 u] at this;omega
theorem ND{l:cE}(E:l.dq.length=3)(u:l.cap<=9)(A:∀j,j<3->qO l j=true)(P:l.holds.length<=6)(F:∀h∈l.holds,-9<=h.cM/\h.cM<=9)(c:Nat):used l c=qI l c+fc (lN c) l.holds/\ns l.holds c 0=fc (ma c) l.holds:=by
 have C:∀y∈l.dq.drop c,(-9:Int)<=id y/\id y<=9:=λy e=>by have:=Tj E u A y (G8 e);simp only[id];omega
 have Q:(l.dq.drop c).length<=3:=by simp[E]
 have H:wX l c 0=qI l c:=by
  unfold wX qI
  rw[fB,Jj (f:=id) (λx y _ _ _ _=>by rw[D9]<;>simp only[id] at*<;>omega) _ 0 C (by omega) (by omega)]
  omega
 have R:=Oi (a:=-9) λx hx=>(C x hx).1;have S:=UU (a:=9) λx hx=>(C x hx).2;constructor
 ·unfold used;rw[H];unfold uV;refine Jj (f:=lN c) (λx y I J M N=>?_) _ _ (λy e=>?_) (by unfold qI;omega) (by unfold qI;omega)
  ·unfold lN at*;split
   ·rename_i D;rw[cJ D] at*;rw[D9]<;>omega
   ·omega
  ·have:=F y e;unfold lN;split<;>omega
 ·unfold ns;rw[Jj (f:=ma c) (λx y I J M N=>?_) _ 0 (λy e=>?_) (by omega) (by omega)]
  ·omega
  ·unfold ma at*;split
   ·rename_i D;rw[cJ D] at*;rw[Rn]<;>omega
   ·omega
  ·have:=F y e;unfold ma;split<;>omega
theorem vV{a:Int}(e:-1000000<=a)(j:a<=1000000):gj .i64 a=-a:=by
 unfold gj;rw[IntKind.wrap_i64];omega
theorem Tk{l:cE}:ku l=true↔gP l:=by
 simp only[ku,nk,du,dF,lj,kS,mn];constructor
 ·rintro⟨⟨M,N,P,Q,E,u,y,Z,s3,R,b,h6,A,pA⟩,I,S⟩;rw[D9 (by omega) (by omega) (by omega) (by omega)] at u;have e:∀h∈l.holds,(1<=h.txn/\h.txn<=99)/\(0<=h.cls/\h.cls<=2)/\h.cM≠0/\-l.cap<=h.cM/\h.cM<=l.cap:=λh C=>by
   obtain⟨j,a,rfl⟩:=pD C
   have:=I j a
   simp only[wY,du,dF,wZ a,vV (show-1000000<=l.cap by omega) (by omega)] at this
   exact⟨this.1.1.1.1,this.1.1.2,this.1.2,this.2⟩
  refine⟨M,N,P,Q,E,u,y,by omega,by omega,R,by omega,by omega,A,pA,e,UW.2 λj a U=>?_,λj a=>?_⟩
  ·have:=I j a;simp only[wY,du,dF] at this;exact this.1.1.1.2 U
  ·have:=S j a;obtain⟨F,H⟩:=ND (l:=l) (by omega) y.2 A (by omega) (λh C=>by have:=e h C;omega) j;simp only[nY,du,dF,F,H] at this;exact this
 ·intro h;have Y:=h.cap;refine⟨⟨h.n1,h.n2,h.n3,h.ne,h.fb,?_,h.cap,by have:=h.l3;omega,by have:=h.s3;omega,h.l0,by have:=h.b;omega,by have:=h.h6;omega,h.xB,h.pA⟩,λj a=>?_,λj a=>?_⟩
  ·rw[D9]<;>first|exact h.arr|(have:=h.fb;omega)
  ·have D:=h.hold _ (dG a);have J:=UW.1 h.nJ j a;rw[wZ a] at J;simp only[wY,du,dF,wZ a,vV (show-1000000<=l.cap by omega) (by omega)];exact⟨⟨⟨⟨D.1,J⟩,D.2.1⟩,D.2.2.1⟩,D.2.2.2⟩
  ·obtain⟨F,H⟩:=ND h.s3 Y.2 h.xB h.h6 (λx C=>by have:=h.hold x C;omega) j;simp only[nY,du,dF,F,H];exact h.iH j a
section
def Ok{R:Type}(o:Option R)(Q:R->Prop):Prop:=∃r,o=some r/\Q r
section
variable{R α c:Type}{Q:R->Prop}
theorem cF{r:R}(h:Q r):Ok (some r) Q:=⟨r,rfl,h⟩
theorem Gj{o:Option R}{r:R}(e:o=some r)(h:Q r):Ok o Q:=⟨r,e,h⟩
theorem agS{o:Option R}{P:R->Prop}(h:Ok o P)(a:∀r,P r->Q r):Ok o Q:=let⟨r,e,j⟩:=h;⟨r,e,a r j⟩
theorem c8{o:Option α}{f:α->Option R}{P:α->Prop}(h:Ok o P)(a:∀x,P x->Ok (f x) Q):Ok (ck o f) Q:=by
 obtain⟨x,e,j⟩:=h;rw[e];exact a x j
theorem KN{o:Option α}{f:α->Option R}{x:α}(e:o=some x)(a:Ok (f x) Q):Ok (ck o f) Q:=by
 rw[e];exact a
theorem dR{b:Bool}{x y:Option R}(a:b=true->Ok x Q)(e:b=false->Ok y Q):Ok (cond b x y) Q:=by
 cases b
 ·exact e rfl
 ·exact a rfl
theorem dY{a b:Int}{x y:Option R}(e:a<b->Ok x Q)(j:b<=a->Ok y Q):Ok (cond (cA a b) x y) Q:=dR (λh=>e (by simpa[cA] using h)) λh=>j (by simpa[cA] using h)
theorem nu{a b:Int}{x y:Option R}(e:a<=b->Ok x Q)(j:b<a->Ok y Q):Ok (cond (dz a b) x y) Q:=dR (λh=>e (by simpa[dz] using h)) λh=>j (by simpa[dz] using h)
theorem ok_eq{a b:Int}{x y:Option R}(e:a=b->Ok x Q)(j:a≠b->Ok y Q):Ok (cond (cp a b) x y) Q:=dR (λh=>e (by simpa[cp] using h)) λh=>j (by simpa[cp] using h)
theorem n4{a b:cq}{x y:Option R}(e:a=b->Ok x Q)(j:a≠b->Ok y Q):Ok (cond (dm a b) x y) Q:=dR (λh=>e (by simpa[dm] using h)) λh=>j (by simpa[dm] using h)
theorem dS{b:Bool}{x y:Option R}(h:Ok (cond b y x) Q):Ok (cond (cD b) x y) Q:=by cases b<;>exact h
theorem iI{l:List α}{i:Int}{f:α->Option R}(a:0<=i)(u:i<l.length)(j:∀x,x∈l->l[i.toNat]?=some x->Ok (f x) Q):Ok (ck (cm l i) f) Q:=by
 have h:i.toNat<l.length:=by omega
 have e:cm l i=some l[i.toNat]:=by simp[cm,a,h]
 rw[e];exact j _ (dG h) (by simp[h])
theorem Pn{l:cq}{a b:Int}{f:cq->Option R}(e:0<=a)(j:a<=b)(u:b<=l.length)(x:Ok (f ((l.drop a.toNat).take (b.toNat-a.toNat))) Q):Ok (ck (fg l a b) f) Q:=by
 rw[show fg l a b=some _ by unfold fg;rw[cJ ⟨e,j,u⟩]];exact x
theorem w5{l:List α}{a b:Int}{f:List α->Option R}(e:0<=a)(j:a<=b)(u:b<=l.length)(x:Ok (f ((l.drop a.toNat).take (b.toNat-a.toNat))) Q):Ok (ck (eR l a b) f) Q:=by
 rw[show eR l a b=some _ by unfold eR;rw[cJ ⟨e,j,u⟩]];exact x
theorem fH{k:Nat}{a b:List α}(h:a.length+b.length<=2^32)(e:k<=1000):cT k a b=some (a++b):=by
 unfold cT;rw[cJ];have:2*(a.length+b.length)*k<=2*(2^32)*1000:=LO (by omega) e;omega
theorem eU{k:Nat}{a b:List α}{f:List α->Option R}(h:a.length+b.length<=2^32)(e:k<=1000)(j:Ok (f (a++b)) Q):Ok (ck (cT k a b) f) Q:=by
 rw[fH h e];exact j
theorem fP{a b:cq}(h:a.length+b.length<=2^40):cV a b=some (a++b):=by
 unfold cV;rw[cK];have:IntKind.i64.max=9223372036854775807:=rfl;omega
theorem af9{a b:cq}{f:cq->Option R}(h:a.length+b.length<=2^40)(e:Ok (f (a++b)) Q):Ok (ck (cV a b) f) Q:=by
 rw[fP h];exact e
theorem s6{a b:Int}{f:Int->Option R}(h:0<b)(e:0<=a)(u:a<2^62)(j:Ok (f (a/b)) Q):Ok (ck (jB .i64 a b) f) Q:=by
 have:a/b<=a:=G9 b e;have x:0<=a/b:=Dd e (by omega);rw[show jB .i64 a b=some (a/b) by unfold jB;rw[cK (by omega),IntKind.wrap_i64,YV e];congr 1;omega];exact j
theorem s7{a b:Int}{f:Int->Option R}(h:0<b)(e:0<=a)(j:Ok (f (a % b)) Q):Ok (ck (jY a b) f) Q:=by
 rw[show jY a b=some (a % b) by unfold jY;rw[cK (by omega),Qd e]];exact j
end
theorem iY{a b:Int}(e:-4611686018427387904<=a)(j:a<=4611686018427387903)(u:-4611686018427387904<=b)(x:b<=4611686018427387903):cw .i64 a b=a+b:=by rw[uH];omega
theorem lJ{a b:Int}(e:-4611686018427387904<=a)(j:a<=4611686018427387903)(u:-4611686018427387904<=b)(x:b<=4611686018427387903):cQ .i64 a b=a-b:=by rw[ij];omega
theorem mO{a b:Int}(h:-9223372036854775808<=a*b/\a*b<=9223372036854775807):ez .i64 a b=a*b:=by unfold ez;rw[IntKind.wrap_i64];omega
theorem aga{a b:Int}(j:0<=a)(D:a<2^62)(u:0<=b)(E:b<2^62):0<=eP .i64 a b/\eP .i64 a b<2^62:=by
 obtain⟨x,rfl⟩:=gD j;obtain⟨y,rfl⟩:=gD u;have hx:x<2^62:=by omega
 have A:y<2^62:=by omega
 have F:=Nat.xor_lt_two_pow hx A;have e:eP .i64 x y=((x^^^y:Nat):Int):=by
  unfold eP
  have C:IntKind.i64.bits=64:=rfl
  simp only[C,BitVec.ofInt_natCast,BitVec.toNat_xor,BitVec.toNat_ofNat,zS (show x<2^64 by omega),zS (show y<2^64 by omega)]
  rw[IntKind.wrap_i64]
  omega
 rw[e];omega
structure dN(N:Int)(r:Rd):Prop where
 b:∀x∈r.b,0<=x/\x<256
 l:r.b.length<=2000
 lo:0<=r.p
 hi:r.p<=N
theorem dN.mono{N M:Int}{r:Rd}(h:dN N r)(a:N<=M):dN M r:=⟨h.b,h.l,h.lo,by have:=h.hi;omega⟩
theorem NV{n:Nat}{N k:Int}{r:Rd}(h:dN N r)(hN:N<=1000000000000):Ok (cO n r k) λx=>(0<k->0<=x.1/\x.1<k)/\(k<=0->x.1=0)/\dN (N+1) x.2:=by
 have u:=h.lo;have h2:=h.hi;have h3:=h.l;have A:∀r',r'=Rd.mk r.b (cw .i64 r.p 1)->dN (N+1) r':=λr' e=>by
  subst e
  exact⟨h.b,h.l,by show 0<=cw .i64 r.p 1;rw[iY]<;>omega,by show cw .i64 r.p 1<=_;rw[iY]<;>omega⟩
 have H:cQ .i64 (cw .i64 r.p 1) 1=r.p:=by rw[uH,ij];omega
 unfold cO;rw[H];refine dY (λI=>cF ⟨λ_=>by omega,λ_=>rfl,A _ rfl⟩) λI=>ok_eq (λ_=>cF ⟨λ_=>by show(0:Int)<=0/\(0:Int)<k;omega,λ_=>rfl,A _ rfl⟩) λJ=>dY (λE=>?_) λE=>?_
 ·refine iI u (by simpa[go_sem] using E) λx hx _=>?_;have F:=h.b x hx;have:eK .i64 x=x:=by unfold eK;rw[IntKind.wrap_i64];omega
  rw[this];refine s7 (by omega) F.1 (cF ⟨λ_=>⟨De _ (by omega),Df _ (by omega)⟩,λ_=>by omega,A _ rfl⟩)
 ·have j:0<cz r.b:=by simp only[go_sem] at J⊢;omega
  have M:cz r.b<=2000:=by simp only[go_sem];omega
  refine s7 j u (iI (De _ (by omega)) (Df _ j) λx hx _=>?_);have F:=h.b x hx;have P:ez .i64 r.p 7=r.p*7:=mO (by omega);rw[P,iY (by omega) (by omega) (by omega) (by omega)];refine s7 j (by omega) (iI (De _ (by omega)) (Df _ j) λy S _=>?_);have hc:=h.b y S;refine s6 j u (by omega) ?_;have C:0<=r.p/cz r.b:=Dd u (by omega);have D:r.p/cz r.b<=r.p:=G9 _ u;generalize hz:r.p/cz r.b=z at C D⊢;have U:eK .i64 x=x:=by unfold eK;rw[IntKind.wrap_i64];omega
  have Y:eK .i64 y=y:=by unfold eK;rw[IntKind.wrap_i64];omega
  have Z:cw .i64 (cw .i64 (cw .i64 (ez .i64 (eK .i64 x) 131) (ez .i64 (eK .i64 y) 1117)) (ez .i64 r.p 29)) (ez .i64 z 53)=x*131+y*1117+r.p*29+z*53:=by
   rw[U,Y,mO (by omega),mO (by omega),mO (by omega),mO (by omega),uH,uH,uH];omega
  rw[Z];refine s6 (by omega) (by omega) (by omega) ?_;have hv:=aga (a:=x*131+y*1117+r.p*29+z*53) (b:=(x*131+y*1117+r.p*29+z*53)/64) (by omega) (by omega) (by omega) (by omega);exact s7 (by omega) hv.1 (cF ⟨λ_=>⟨De _ (by omega),Df _ (by omega)⟩,λ_=>by omega,A _ rfl⟩)
theorem ef{R:Type}{Q:R->Prop}{n:Nat}{N k:Int}{r:Rd}{f:Int×Rd->Option R}(h:dN N r)(j:N<=1000000000000)(a:0<k)(K:∀x e,0<=x->x<k->dN (N+1) e->Ok (f (x,e)) Q):Ok (ck (cO n r k) f) Q:=c8 (NV h j) λx hx=>K x.1 x.2 (hx.1 a).1 (hx.1 a).2 hx.2.2
theorem CO{R:Type}{Q:R->Prop}{n:Nat}{N:Int}{r:Rd}{list:List cq}{f:cq×Rd->Option R}(h:dN N r)(e:N<=1000000000000)(D:0<list.length)(K:∀x a,x∈list->dN (N+1) a->Ok (f (x,a)) Q):Ok (ck (mJ n r list) f) Q:=by
 refine c8 (P:=λx=>x.1∈list/\dN (N+1) x.2) ?_ λx hx=>K x.1 x.2 hx.1 hx.2;unfold mJ;exact ef h e (by simp only[go_sem];omega) λx a j u A=>iI j (by simpa[go_sem] using u) λy C _=>cF ⟨C,A⟩
end
section
section
variable{n:Nat}{l:cE}{txn:Int}
def fw(txn:Int):List dj->Nat
 |[]=>0
 |h::a=>if h.txn<txn then fw txn a+1 else 0
def jz(txn:Int)(a:List dj):Bool:=(a[fw txn a]?).any λh=>decide (h.txn=txn)
theorem Fc:∀{hs:List dj},fw txn hs<=hs.length
 |[]=>hY _
 |h::hs=>by
  have:=Fc (hs:=hs);simp only[fw,fY];split<;>omega
theorem H7{h:dj}{a:List dj}:fw txn (h::a)=if h.txn<txn then fw txn a+1 else 0:=rfl
theorem afd{k:Int->Int->cE->Option (Int×Bool)}(e:l.holds.length<2^30)(u:2^41<=n):yp n n txn 0 l k=k txn (fw txn l.holds:Nat) l:=by
 have:=KM e (L:=λm i=>yp n m txn i l k) (G:=λi=>k txn ((i+fw txn (l.holds.drop i):Nat):Int) l)
  (λm=>by simp[go_sem,yp,fw]) (λm i a j=>by
    simp only[go_sem,yp,dt a,a,j]
    rw[kR a,H7]
    by_cases h:l.holds[i].txn<txn
    ·rw[cJ h,cJ h];congr 2;omega
    ·rw[cK h,cK h];rfl) (m:=n) (by omega);simpa using this
theorem Oj(a:l.holds.length<2^30)(e:2^41<=n):BP n l txn=some (((fw txn l.holds:Nat):Int),jz txn l.holds):=by
 unfold BP jz;rw[afd a e]
 by_cases h:fw txn l.holds<l.holds.length
 ·simp[go_sem,dt h,h]
 ·simp[go_sem,h,mY (show l.holds.length<=fw txn l.holds by omega)]
def mg(l:cE)(c:Nat):Int:=qI l c+fc (lN c) l.holds
def ow(l:cE)(c:Nat):Int:=fc (ma c) l.holds
theorem Kn(h:gP l)(c:Nat):used l c=mg l c/\ns l.holds c 0=ow l c:=
 ND h.s3 h.cap.2 h.xB h.h6 (λx hx=>by have:=h.hold x hx;have:=h.cap;omega) c
theorem Fs{e:Type}{f:e->Int}{xs:List e}(h:∀x∈xs,0<=f x):0<=fc f xs:=by
 have:=Oi (a:=0) h;omega
theorem Ol(c:Int)(h:dj):0<=lN c h:=by unfold lN;split<;>omega
theorem Om(c:Int)(h:dj):0<=ma c h:=by unfold ma;split<;>omega
theorem ack(h:gP l)(c:Nat):0<=qI l c:=Fs λx hx=>(Tj h.s3 h.cap.2 h.xB x (G8 hx)).1
theorem afe(h:gP l)(c:Nat):0<=mg l c:=by
 have a:=ack h c;have e:=Fs (f:=lN c) (xs:=l.holds) λx _=>Ol c x;unfold mg;omega
theorem aff(c:Nat):0<=ow l c:=Fs λx _=>Om c x
theorem sY(h:gP l){c:Nat}(a:c<3):0<=gI l.dy c/\gI l.dy c<=l.cap/\0<=gI l.dq c/\gI l.dq c<=l.cap:=by
 have:=h.xB c a;simp only[qO,du,dF] at this;omega
def iH(l:cE)(c:Nat):Int:=(List.range (c+1)).foldl (λx i=>min x (gI l.dy i-mg l i)) l.cap
theorem On{f:Nat->Int}{z:Int}:∀(a:List Nat)(x:Int),z<=a.foldl (λx i=>min x (f i)) x↔z<=x/\∀j∈a,z<=f j
 |[],x=>by simp
 |y::u,x=>by
  rw[vt,On u];simp only[eo,forall_eq_or_imp];constructor
  ·rintro⟨A,e⟩;exact⟨by omega,by omega,e⟩
  ·rintro⟨A,e,C⟩;exact⟨by omega,C⟩
theorem JZ{c:Nat}{z:Int}:z<=iH l c↔z<=l.cap/\∀j,j<=c->z<=gI l.dy j-mg l j:=by
 unfold iH;rw[On];simp only[xG];constructor
 ·exactλh=>⟨h.1,λj a=>h.2 j (by omega)⟩
 ·exactλh=>⟨h.1,λj a=>h.2 j (by omega)⟩
theorem ZW{c:Nat}{r:Int}(h:∀z,z<=r↔z<=l.cap/\∀j,j<=c->z<=gI l.dy j-mg l j):r=iH l c:=by
 have a:=(h r).1 (Yw _);have e:=JZ.2 a;have u:=(h _).2 (JZ.1 (Yw (iH l c)));omega
theorem UX(h:gP l){c:Nat}(a:c<=2):0<=iH l c:=by
 refine JZ.2 ⟨by have:=h.cap;omega,λj e=>?_⟩;have:=(h.iH j (by omega)).1;unfold mg;omega
theorem Oo(h:gP l){c:Nat}(a:c<3):0<=mg l c/\mg l c<=gI l.dy c/\mg l c<=9:=by
 have e:=afe h c;have j:=(h.iH c a).1;have u:=sY h a;have:=h.cap;unfold mg at*;omega
theorem UY(h:gP l){c:Nat}(a:c<3):0<=ow l c/\ow l c<=gI l.dq c/\ow l c<=9:=by
 have e:=aff (l:=l) c;have j:=(h.iH c a).2;have u:=sY h a;have:=h.cap;unfold ow at*;omega
theorem Po{k:Int->Option Int}(h:gP l)(u:2^41<=n){c:Nat}(y:c<=2):∀m j x,j<=c+1->c+1<m+j->yq n m c x j l k=k ((List.range' j (c+1-j)).foldl (λx i=>min x (gI l.dy i-mg l i)) x)
 |0,j,x,A,C=>by omega
 |m+1,j,x,A,C=>by
  by_cases E:j<=c
  ·have F:=Oo h (show j<3 by omega);have H:=sY h (show j<3 by omega);have I:=h.cap;have e:cQ .i64 (gI l.dy j) (mg l j)=gI l.dy j-mg l j:=lJ (by omega) (by omega) (by omega) (by omega);have a:(j:Int)<=c:=by omega
   have D:j<l.dy.length:=by have:=h.l3;omega
   simp only[yq,gv,go_sem,a,eG D 0,US h.s3 (show l.holds.length<2^30 by have:=h.h6;omega) u (show j<=3 by omega),(Kn h j).1];change (if cQ .i64 (gI l.dy j) (mg l j)<x then _ else _)=_;rw[e,dE (by omega),Po h u y m (j+1) _ (by omega) (by omega),Po h u y m (j+1) _ (by omega) (by omega),show c+1-j=(c+1-(j+1))+1 by omega,P4,vt];split
   ·rw[Qe (by omega)]
   ·rw[Qf (by omega)]
  ·have:j=c+1:=by omega
   subst this;have a:¬ (((c+1:Nat):Int)<=c):=by omega
   simp only[yq,gv,go_sem,a,vq,List.range'_zero,GY]
theorem UZ(h:gP l)(a:2^41<=n){c:Nat}(e:c<=2):BQ n l c=some (iH l c):=by
 unfold BQ iH;have:=Po (k:=some) h a e n 0 l.cap (by omega) (by omega);rw[YJ];exact this
def pA(l:cE):Int:=gI l.eu (min (iH l 0) (l.eu.length-1)).toNat
theorem afg(h:gP l)(e:2^41<=n):JP n l=some (pA l):=by
 have j:=UX h (show 0<=2 by omega);have u:=h.b;unfold JP pA;rw[show(0:Int)=((0:Nat):Int) from rfl,UZ h e (by omega)];simp only[go_sem];split
 ·rw[Qe (by omega),Rn (by omega) (by omega) (by omega) (by omega)];rw[show((l.eu.length:Int)-1)=((l.eu.length-1:Nat):Int) by omega,eG (by omega) 0];simp[cu]
 ·rw[Qf (by omega)];obtain⟨r,a⟩:=gD j;rw[a,eG (by omega) 0];simp[cu]
def rW(l:cE)(h:dj)(a:Int):Bool:=!jz h.txn l.holds&&(!decide ((6:Int)<=l.holds.length)&&(decide (1<=h.txn/\h.txn<=99)&&(decide (0<=h.cls/\h.cls<=2)&&(!decide (h.cM=0)&&(decide (-l.cap<=h.cM/\h.cM<=l.cap)&&
 (if 0<h.cM then decide (h.cM<=iH l h.cls.toNat)&&decide (pA l<=a) else decide (-h.cM<=gI l.dq h.cls.toNat-ow l h.cls.toNat)))))))
def nz(h:dj)(a:List dj):List dj:=a.take (fw h.txn a)++[h]++a.drop (fw h.txn a)
def w6(l:cE)(h:dj):cE:={l with holds:=nz h l.holds}
theorem VU{R:Type}{h:dj}{hs:List dj}(x:hs.length<=6)(f:List dj->Option R):(ck (eR hs 0 (fw h.txn hs:Nat)) λa=>ck (cT 24 [] a) λe=>ck (cT 24 e [h]) λj=>ck (eR hs (fw h.txn hs:Nat) (cz hs)) λu=>ck (cT 24 j u) f)=f (nz h hs):=by
 have:=Fc (txn:=h.txn) (hs:=hs);rw[show eR hs 0 (fw h.txn hs:Nat)=some (hs.take (fw h.txn hs)) by unfold eR;rw[cJ (by omega)];simp,
  show eR hs (fw h.txn hs:Nat) (cz hs)=some (hs.drop (fw h.txn hs)) by unfold eR cz;rw[cJ (by omega)];simp[xN]];simp only[cu];rw[fH (by simp;omega) (by omega)];simp only[cu,ic];rw[fH (by simp;omega) (by omega)];simp only[cu];rw[fH (by simp;omega) (by omega)];rfl
theorem aea{h:dj}{a:Int}(u:gP l)(J:2^41<=n):Jf n l h a=some (if rW l h a=true then(w6 l h,true) else(l,false)):=by
 have hc:=u.cap;have Q:=u.h6;unfold Jf rW w6;rw[Oj (by omega) J];simp only[cu]
 by_cases x:jz h.txn l.holds=true
 ·simp[x]
 rw[pH] at x
 by_cases C:(6:Int)<=l.holds.length
 ·simp[x,C,go_sem]
 by_cases E:1<=h.txn/\h.txn<=99
 rotate_left
 ·simp[x,C,E,go_sem]
 by_cases F:0<=h.cls/\h.cls<=2
 rotate_left
 ·simp[x,C,E,F,go_sem]
 by_cases N:h.cM=0
 ·simp[x,C,E,F,N,go_sem]
 by_cases R:-l.cap<=h.cM/\h.cM<=l.cap
 rotate_left
 ·simp[x,C,E,F,N,R,go_sem,vV (show-1000000<=l.cap by omega) (by omega)]
 obtain⟨c,y⟩:=gD F.1;have P:c<=2:=by omega
 have b1:=sY u (show c<3 by omega);have b2:=UY u (show c<3 by omega);have S:BQ n l h.cls=some (iH l c):=by rw[y];exact UZ u J P
 have U:cm l.dq h.cls=some (gI l.dq c):=by rw[y];exact eG (by have:=u.s3;omega) 0
 have Y:yQ n l h.cls=some (ow l c):=by rw[UT (by omega) J,y,(Kn u c).2]
 have Z:h.cls.toNat=c:=by omega
 have e5:cQ .i64 (gI l.dq c) (ow l c)=gI l.dq c-ow l c:=lJ (by omega) (by omega) (by omega) (by omega);have e6:gj .i64 h.cM=-h.cM:=vV (by omega) (by omega);simp only[S,U,Y,Z,e5,e6,afg u J,cu,x,cN,go_sem,C,E,F,N,vV (show-1000000<=l.cap by omega) (show l.cap<=1000000 by omega),R,iD,gr,gE,eN,fU,gF,mZ,jg]
 by_cases H:0<h.cM
 ·have M:¬ h.cM<0:=by omega
  by_cases D:h.cM<=iH l c
  ·have e:¬ iH l c<h.cM:=by omega
   by_cases I:pA l<=a
   ·have j:¬ a<pA l:=by omega
    simp[H,M,D,e,I,j];exact VU Q (λA=>some ({l with holds:=A},true))
   ·have j:a<pA l:=by omega
    simp[H,D,e,I,j]
  ·have e:iH l c<h.cM:=by omega
   simp[H,D,e]
 ·have M:h.cM<0:=by omega
  generalize gI l.dq c-ow l c=z
  by_cases D:-h.cM<=z
  ·have e:¬ z< -h.cM:=by omega
   simp[H,M,D,e];exact VU Q (λA=>some ({l with holds:=A},true))
  ·have e:z< -h.cM:=by omega
   simp[H,M,D,e]
end
end
section
section
variable{n:Nat}{l:cE}{txn:Int}
abbrev sx(e:List dj):Prop:=e.Pairwise (λa b=>a.txn<b.txn)
theorem MY:∀{j:List dj},sx j->∃a b,j=a++b/\fw txn j=a.length/\(∀x∈a,x.txn<txn)/\(∀x∈b,txn<=x.txn)
 |[],_=>⟨[],[],rfl,rfl,by simp,by simp⟩
 |h::j,u=>by
  obtain⟨y,A⟩:=zT.1 u
  by_cases c:h.txn<txn
  ·obtain⟨a,b,e,C,D,E⟩:=MY A;refine⟨h::a,b,by rw[e];rfl,by rw[H7,cJ c,C];rfl,λx hx=>?_,E⟩;rcases eo.1 hx with rfl|hx
   ·exact c
   ·exact D x hx
  ·refine⟨[],h::j,rfl,by rw[H7,cK c];rfl,by simp,λx hx=>?_⟩;rcases eo.1 hx with rfl|hx
   ·omega
   ·have:=y x hx;omega
theorem Ea{u:List dj}(j:sx u)(h:jz txn u=true):∃a x b,u=a++x::b/\fw txn u=a.length/\x.txn=txn/\(∀y∈a,y.txn<txn)/\(∀y∈b,txn<y.txn):=by
 obtain⟨a,b,e,A,C,E⟩:=MY (txn:=txn) j;unfold jz at h;rw[A] at h;cases b with
 |nil=>subst e;simp at h
 |cons x b=>
  subst e;simp at h;refine⟨a,x,b,rfl,A,h,C,λy D=>?_⟩;have:=(zT.1 (zU.1 j).2.1).1 y D;omega
theorem Ro{u:List dj}(j:sx u)(h:jz txn u=false):∃a b,u=a++b/\fw txn u=a.length/\(∀y∈a,y.txn<txn)/\(∀y∈b,txn<y.txn):=by
 obtain⟨a,b,e,C,D,E⟩:=MY (txn:=txn) j;refine⟨a,b,e,C,D,λy A=>?_⟩;unfold jz at h;rw[C] at h;cases b with
 |nil=>simp at A
 |cons x b=>
  subst e;simp at h;have hx:=E x (by simp);rcases eo.1 A with rfl|A
  ·omega
  ·have:=(zT.1 (zU.1 j).2.1).1 y A;omega
theorem Tl{u:List dj}(j:sx u):jz txn u=true↔∃x∈u,x.txn=txn:=by
 constructor
 ·intro h;obtain⟨a,x,b,e,_,y,_⟩:=Ea j h;exact⟨x,by rw[e];simp,y⟩
 ·rintro⟨x,hx,C⟩;cases h:jz txn u with
  |true=>rfl
  |false=>
   obtain⟨a,b,e,_,y,A⟩:=Ro j h;rw[e] at hx;rcases eB.1 hx with hx|hx
   ·have:=y x hx;omega
   ·have:=A x hx;omega
theorem Oq(c:Int)(h:dj):lN c h=if c<=h.cls/\0<h.cM then h.cM else 0:=rfl
theorem Ot(c:Int)(h:dj):ma c h=if h.cls=c/\h.cM<0 then-h.cM else 0:=rfl
theorem ZX{h:dj}{a b:List dj}(e:fw h.txn (a++b)=a.length):nz h (a++b)=a++h::b:=by
 unfold nz;rw[e];simp
theorem Tm{f:dj->Int}{h:dj}{a:List dj}:fc f (nz h a)=fc f a+f h:=by
 unfold nz;have:fc f a=fc f (a.take (fw h.txn a))+fc f (a.drop (fw h.txn a)):=by rw[<-Fb,YW]
 rw[Fb,Fb,this];simp only[fc];omega
theorem To{h:dj}{hs:List dj}:(nz h hs).length=hs.length+1:=by
 have:=Fc (txn:=h.txn) (hs:=hs);simp only[nz,eS,kh,mF,tY];omega
theorem acm{h x:dj}{a:List dj}:x∈nz h a↔x∈a\/x=h:=by
 unfold nz;rw[eB,eB,fM];have:x∈a↔x∈a.take (fw h.txn a)\/x∈a.drop (fw h.txn a):=by rw[<-eB,YW]
 rw[this];constructor
 ·rintro((h|h)|h)
  ·exact .inl (.inl h)
  ·exact .inr h
  ·exact .inl (.inr h)
 ·rintro((h|h)|h)
  ·exact .inl (.inl h)
  ·exact .inr h
  ·exact .inl (.inr h)
theorem acn{h:dj}{u:List dj}(j:sx u)(C:jz h.txn u=false):sx (nz h u):=by
 obtain⟨a,b,e,D,E,F⟩:=Ro j C;subst e;rw[ZX D];obtain⟨H,I,J⟩:=zU.1 j;refine zU.2 ⟨H,zT.2 ⟨F,I⟩,λx hx y A=>?_⟩;rcases eo.1 A with rfl|A
 ·exact E x hx
 ·exact J x hx y A
theorem Ou{h:dj}{a:Int}(u:gP l)(A:rW l h a=true):gP (w6 l h):=by
 simp only[rW,du,dF,lj,kS] at A;obtain⟨E,R,F,H,I,J,e⟩:=A;refine{u with h6:=?_,hold:=?_,nJ:=acn u.nJ E,iH:=?_}
 ·show(nz h l.holds).length<=6;rw[To];omega
 ·intro x hx;rcases acm.1 hx with hx|rfl
  ·exact u.hold x hx
  ·exact⟨F,H,I,J⟩
 ·intro j M;have C:=u.iH j M;show qI l j+fc (lN j) (nz h l.holds)<=gI l.dy j/\fc (ma j) (nz h l.holds)<=gI l.dq j;rw[Tm,Tm]
  by_cases D:0<h.cM
  ·rw[cJ D] at e;simp only[du,dF] at e;have N:=JZ.1 e.1;have P:ma j h=0:=by rw[Ot];rw[cK (by omega)]
   refine⟨?_,by rw[P];omega⟩;rw[Oq];split
   ·rename_i y;have:=N.2 j (by omega);unfold mg at this;omega
   ·have:=C.1;omega
  ·rw[cK D] at e;simp only[dF] at e;have Q:lN j h=0:=by rw[Oq];rw[cK (by omega)]
   refine⟨by rw[Q];omega,?_⟩;rw[Ot];split
   ·rename_i y;have:h.cls.toNat=j:=by omega
    rw[this] at e;unfold ow at e;omega
   ·have:=C.2;omega
def j3(txn:Int)(a:List dj):List dj:=if jz txn a=true then a.take (fw txn a)++a.drop (fw txn a+1) else a
def n5(l:cE)(txn:Int):cE:={l with holds:=j3 txn l.holds}
abbrev nK(a:List dj)(txn:Int):dj:=gH a (fw txn a)
def pf(a:List Int)(i x:Int):List Int:=db a i (cw .i64 (gI a i.toNat) x)
def qJ(l:cE)(txn:Int):cE:=if jz txn l.holds=true then{n5 l txn with dq:=pf l.dq (nK l.holds txn).cls (nK l.holds txn).cM} else l
theorem MA{a b:List dj}{x:dj}(e:fw txn (a++x::b)=a.length)(hx:x.txn=txn):j3 txn (a++x::b)=a++b:=by
 unfold j3;have:jz txn (a++x::b)=true:=by
  unfold jz
  rw[e]
  simp[hx]
 rw[cJ this,e];simp
theorem aco{x:dj}{hs:List dj}(j:sx hs):x∈j3 txn hs↔x∈hs/\x.txn≠txn:=by
 cases u:jz txn hs with
 |true=>
  obtain⟨a,y,b,e,C,A,D,E⟩:=Ea j u;subst e;rw[MA C A];simp only[eB,eo];constructor
  ·rintro(h|h)
   ·exact⟨.inl h,by have:=D x h;omega⟩
   ·exact⟨.inr (.inr h),by have:=E x h;omega⟩
  ·rintro⟨h|h|h,F⟩
   ·exact .inl h
   ·subst h;exact absurd A F
   ·exact .inr h
 |false=>
  have:j3 txn hs=hs:=by unfold j3;rw[cK (by simp[u])]
  rw[this];refine⟨λh=>⟨h,λe=>?_⟩,λh=>h.1⟩;have:=(Tl j).2 ⟨x,h,e⟩;rw[u] at this;cases this
theorem acp{hs:List dj}(j:sx hs):sx (j3 txn hs):=by
 cases u:jz txn hs with
 |true=>
  obtain⟨a,y,b,e,A,C,I,J⟩:=Ea j u;subst e;rw[MA A C];obtain⟨D,E,F⟩:=zU.1 j;exact zU.2 ⟨D,(zT.1 E).2,λx hx y H=>F x hx y (by simp[H])⟩
 |false=>
  have:j3 txn hs=hs:=by unfold j3;rw[cK (by simp[u])]
  rw[this];exact j
theorem yT{f:dj->Int}{j:List dj}(u:sx j)(C:jz txn j=true):fc f (j3 txn j)=fc f j-f (nK j txn)/\nK j txn∈j/\(nK j txn).txn=txn:=by
 obtain⟨a,y,b,e,x,A,D,E⟩:=Ea u C;subst e;have:nK (a++y::b) txn=y:=by
  unfold nK
  rw[x,wZ (by simp)]
  simp
 rw[MA x A,this];refine⟨by simp only[Fb,fc];omega,by simp,A⟩
theorem Tp{hs:List dj}:(j3 txn hs).length<=hs.length:=by
 unfold j3;split
 ·simp only[eS,kh,mF];omega
 ·omega
theorem Ov(a:gP l):gP (n5 l txn):=by
 cases e:jz txn l.holds with
 |false=>
  have:n5 l txn=l:=by unfold n5 j3;rw[cK (by simp[e])]
  rw[this];exact a
 |true=>
  refine{a with h6:=?_,hold:=?_,nJ:=acp a.nJ,iH:=?_}
  ·have:=Tp (txn:=txn) (hs:=l.holds);have:=a.h6;show(j3 txn l.holds).length<=6;omega
  ·exactλx hx=>a.hold x ((aco a.nJ).1 hx).1
  ·intro j u;have y:=a.iH j u;show qI l j+fc (lN j) (j3 txn l.holds)<=gI l.dy j/\fc (ma j) (j3 txn l.holds)<=gI l.dq j;rw[(yT a.nJ e).1,(yT a.nJ e).1];have:=Ol j (nK l.holds txn);have:=Om j (nK l.holds txn);omega
theorem three{e:List Int}(h:e.length=3):e=[gI e 0,gI e 1,gI e 2]:=by
 match e,h with
 |[a,b,c],_=>rfl
theorem aeb{a:List Int}{i x:Int}(h:a.length=3)(E:0<=i)(J:i<=2)(y:∀j,j<3->0<=gI a j/\gI a j<=9)(hx:-9<=x/\x<=9):(pf a i x).length=3/\(∀j:Nat,j<3->gI (pf a i x) j=gI a j+if(j:Int)=i then x else 0)/\∀j:Nat,j<3->fc id ((pf a i x).drop j)=fc id (a.drop j)+if(j:Int)<=i then x else 0:=by
 obtain⟨c,rfl⟩:=gD E;have M:=y 0 (by omega);have N:=y 1 (by omega);have P:=y 2 (by omega);have e:=three h;generalize Q:gI a 0=A at*;generalize F:gI a 1=C at*;generalize R:gI a 2=D at*;subst e;have u:c=0\/c=1\/c=2:=by omega
 have H:pf [A,C,D] (c:Nat) x=[A,C,D].set c (gI [A,C,D] c+x):=by
  unfold pf db
  rw[fB,D9 _ _ (by omega) (by omega)]
  ·rcases u with rfl|rfl|rfl<;>simp[gI]<;>omega
  ·rcases u with rfl|rfl|rfl<;>simp[gI]<;>omega
 rw[H];refine⟨by simp,λj I=>?_,λj I=>?_⟩
 ·have:j=0\/j=1\/j=2:=by omega
  rcases u with rfl|rfl|rfl<;>rcases this with rfl|rfl|rfl<;>simp[gI]
 ·have:j=0\/j=1\/j=2:=by omega
  rcases u with rfl|rfl|rfl<;>rcases this with rfl|rfl|rfl<;>simp[gI,fc]<;>omega
theorem U0(A:gP l):gP (qJ l txn):=by
 unfold qJ;split
 rotate_left
 ·exact A
 rename_i E;have S:=Ov (txn:=txn) A;obtain⟨_,U,ht⟩:=yT (f:=λ_=>0) A.nJ E;generalize hx:nK l.holds txn=x at*;have J:=A.hold x U;have M:=A.cap;have F:∀j,j<3->0<=gI l.dq j/\gI l.dq j<=9:=λj a=>by have:=sY A a;omega
 obtain⟨N,Y,Z⟩:=aeb (x:=x.cM) A.s3 J.2.1.1 J.2.1.2 F (by omega);have H:∀j:Nat,j<3->qI l j+fc (lN j) l.holds<=gI l.dy j/\fc (ma j) l.holds<=gI l.dq j:=λj a=>A.iH j a;have sp:∀j:Nat,fc (lN j) (j3 txn l.holds)=fc (lN j) l.holds-lN j x:=λj=>by rw[(yT A.nJ E).1,hx]
 have sn:∀j:Nat,fc (ma j) (j3 txn l.holds)=fc (ma j) l.holds-ma j x:=λj=>by rw[(yT A.nJ E).1,hx]
 have u:∀j:Nat,j<3->fc id ((pf l.dq x.cls x.cM).drop j)+fc (lN j) (j3 txn l.holds)<=gI l.dy j/\fc (ma j) (j3 txn l.holds)<=gI (pf l.dq x.cls x.cM) j:=λj a=>by
  rw[Z j a,Y j a,sp,sn]
  have:=H j a
  have e:fc id (l.dq.drop j)=qI l j:=rfl
  rw[e]
  rw[Oq,Ot]
  constructor
  ·split<;>split<;>omega
  ·split<;>split<;>omega
 have P:∀j:Nat,j<3->0<=fc (lN j) (j3 txn l.holds)/\0<=fc (ma j) (j3 txn l.holds):=λj _=>⟨Fs λy _=>Ol j y,Fs λy _=>Om j y⟩;have C:∀j:Nat,j<3->0<=gI (pf l.dq x.cls x.cM) j:=λj a=>by
  have:=(u j a).2
  have:=(P j a).2
  omega
 have I:∀j:Nat,j<3->gI (pf l.dq x.cls x.cM) j<=l.cap:=λj a=>by
  have D:=(u j a).1
  have Q:=(P j a).1
  have R:=(sY A a).2.1
  have h4:=three N
  have g0:=C 0 (by omega)
  have g1:=C 1 (by omega)
  have g2:=C 2 (by omega)
  generalize gI (pf l.dq x.cls x.cM) 0=a0 at*
  generalize gI (pf l.dq x.cls x.cM) 1=a1 at*
  generalize gI (pf l.dq x.cls x.cM) 2=a2 at*
  rw[h4] at D⊢
  have:j=0\/j=1\/j=2:=by omega
  rcases this with rfl|rfl|rfl<;>simp[gI,fc] at*<;>omega
 refine{S with s3:=N,xB:=?_,iH:=?_}
 ·intro j a;have D:=A.xB j a;have Q:=C j a;have R:=I j a;simp only[qO,du,dF] at D⊢;exact⟨D.1,Q,R⟩
 ·exact u
theorem U1(e:gP l)(j:2^41<=n):E7 n l txn=some (n5 l txn):=by
 have x:=e.h6;unfold E7 n5 j3;rw[Oj (by omega) j];simp only[cu]
 by_cases a:jz txn l.holds=true
 ·have u:fw txn l.holds<l.holds.length:=by
    unfold jz at a
    by_cases c:fw txn l.holds<l.holds.length
    ·exact c
    ·rw[mY (by omega)] at a;simp at a
  rw[a,cL,cJ rfl,dE (by omega)];rw[show eR l.holds 0 (fw txn l.holds:Nat)=some (l.holds.take (fw txn l.holds)) by unfold eR;rw[cJ (by omega)];simp,
   show eR l.holds ((fw txn l.holds+1:Nat):Int) (cz l.holds)=some (l.holds.drop (fw txn l.holds+1)) by unfold eR cz;rw[cJ (by omega)];simp[xN]];simp only[cu];rw[fH (by simp;omega) (by omega)];simp only[cu,ic];rw[fH (by simp;omega) (by omega)];rfl
 ·rw[pH] at a;rw[a,cN,cK (by simp)]
theorem aec(e:gP l)(u:2^41<=n):Jg n l txn=some (qJ l txn):=by
 have E:=e.h6;unfold Jg qJ;rw[Oj (by omega) u];simp only[cu]
 by_cases a:jz txn l.holds=true
 ·have j:fw txn l.holds<l.holds.length:=by
    unfold jz at a
    by_cases c:fw txn l.holds<l.holds.length
    ·exact c
    ·rw[mY (by omega)] at a;simp at a
  obtain⟨_,x,F⟩:=yT (f:=λ_=>0) e.nJ a;have y:=e.hold _ x;have A:cm l.holds (fw txn l.holds:Nat)=some (nK l.holds txn):=eG j _;obtain⟨c,C⟩:=gD y.2.1.1;have H:=e.s3;have D:cm l.dq (nK l.holds txn).cls=some (gI l.dq (nK l.holds txn).cls.toNat):=by
   rw[C,fB]
   exact eG (by omega) 0
  rw[a,cJ rfl,A,U1 e u];simp only[cu,dO,eN,cN];rw[show(n5 l txn).dq=l.dq from rfl,fH (by simp;omega) (by omega)];simp only[cu,ic,D];rfl
 ·rw[pH] at a;rw[a,cK (by simp)];rfl
end
end
end Go.Ev
namespace Go.Ev
open Go Go.Lib
section
theorem oH{u:Nat}(h:u<10):decDigits u=[UInt8.ofNat (48+u)]:=by rw[decDigits,LK h]
theorem rH{u:Nat}(h:¬ u<10):decDigits u=decDigits (u/10)++[UInt8.ofNat (48+u % 10)]:=by rw[decDigits,dif_neg h]
theorem y8{d:Nat}(h:d<10):(UInt8.ofNat (48+d)).toNat=48+d:=by
 rw[YX];omega
theorem vW:∀(u:Nat),∀c∈decDigits u,48<=c.toNat/\c.toNat<=57:=by
 intro u;induction u using Nat.strongRecOn with
 |_ u e=>
  by_cases h:u<10
  ·rw[oH h];intro c a;rw[fM] at a;subst a;rw[y8 h];omega
  ·rw[rH h];intro c a;rcases eB.1 a with a|a
   ·exact e _ (by omega) c a
   ·rw[fM] at a;subst a;rw[y8 (by omega)];omega
theorem uI(u:Nat):decDigits u≠[]:=by
 by_cases h:u<10
 ·rw[oH h];simp
 ·rw[rH h];simp
theorem Bq:∀(k u:Nat),u<10^k->1<=k->(decDigits u).length<=k:=by
 intro k;induction k with
 |zero=>intro u _ h;omega
 |succ k a=>
  intro u h _
  by_cases c:u<10
  ·rw[oH c];simp
  ·rw[rH c,eS,tY];have:u/10<10^k:=by rw[tZ] at h;omega
   by_cases k0:k=0
   ·subst k0;omega
   ·have:=a (u/10) this (by omega);omega
def val(s:cq):Nat:=s.foldl (λa c=>a*10+(c.toNat-48)) 0
theorem Tq(s:cq)(c:UInt8):val (s++[c])=val s*10+(c.toNat-48):=by simp[val]
theorem U2:∀u:Nat,val (decDigits u)=u:=by
 intro u;induction u using Nat.strongRecOn with
 |_ u a=>
  by_cases h:u<10
  ·rw[oH h];simp only[val,vt,GY,y8 h];omega
  ·rw[rH h,Tq,a _ (by omega),y8 (by omega)];omega
theorem Ow{u v:Nat}(h:decDigits u=decDigits v):u=v:=by rw[<-U2 u,h,U2]
def mP(c:UInt8):Bool:=decide (48<=c.toNat/\c.toNat<=57)
theorem afh:∀(k:Nat)(s:cq),s.length=k->s≠[]->s.all mP=true->(1<s.length->s.head?≠some 48)->s=decDigits (val s):=by
 intro k;induction k with
 |zero=>intro s h u;exact absurd (nL.1 h) u
 |succ k D=>
  intro s E u A F;obtain⟨a,c,rfl⟩:∃a c,s=a++[c]:=⟨s.dropLast,s.getLast u,(List.dropLast_concat_getLast u).symm⟩;rw[List.all_append,du] at A;have N:48<=c.toNat/\c.toNat<=57:=by simpa[mP] using A.2
  have j:UInt8.ofNat (48+(c.toNat-48))=c:=by
   have:48+(c.toNat-48)=c.toNat:=by omega
   rw[this];exact UInt8.ofNat_toNat
  rw[Tq]
  by_cases y:a=[]
  ·subst y;have:val []=0:=rfl;rw[this,oH (by omega),GV,ia,j];rfl
  ·have P:0<a.length:=Qg.2 y;have H:(a++[c]).head?=a.head?:=by cases a with|nil=>exact absurd rfl y|cons x a=>rfl
   have C:a.head?≠some 48:=by rw[<-H];exact F (by simp;omega)
   have e:=D a (by simpa using E) y A.1 λ_=>C;have Q:val a≠0:=by
    intro I
    rw[I,oH (by omega)] at e
    rw[e] at C
    exact C rfl
   rw[rH (by omega)];have J:(val a*10+(c.toNat-48))/10=val a:=by omega
   have M:(val a*10+(c.toNat-48)) % 10=c.toNat-48:=by omega
   rw[J,M,<-e,j]
theorem acq:∀u:Nat,1<(decDigits u).length->(decDigits u).head?≠some 48:=by
 intro u;induction u using Nat.strongRecOn with
 |_ u A=>
  intro h
  by_cases c:u<10
  ·rw[oH c] at h;simp at h
  ·rw[rH c];have j:=uI (u/10);have C:(decDigits (u/10)++[UInt8.ofNat (48+u % 10)]).head?=(decDigits (u/10)).head?:=by
    cases D:decDigits (u/10) with
    |nil=>exact absurd D j
    |cons x a=>rfl
   rw[C]
   by_cases y:u/10<10
   ·rw[oH y];simp only[LP,LQ,cW];intro e;have:=congrArg UInt8.toNat e;rw[y8 y] at this;have:(48:UInt8).toNat=48:=rfl;omega
   ·exact A _ (by omega) (by
     rw[rH y]
     have:=Qg.2 (uI (u/10/10))
     simp;omega)
def ea(s:cq):Int:=if decide (1<=s.length/\s.length<=12)&&(!decide (1<s.length)||!decide (s.head?=some 48))&&s.all mP then(val s:Int) else-1
theorem VV:∀(s:cq),s.all mP=true->∀a:Nat,s.foldl (λa c=>a*10+(c.toNat-48)) a<(a+1)*10^s.length
 |[],_,a=>by simp
 |c::s,h,a=>by
  rw[GW,du] at h;have e:48<=c.toNat/\c.toNat<=57:=by simpa[mP] using h.1
  have:=VV s h.2 (a*10+(c.toNat-48));rw[vt];refine LH this ?_;rw[fY,tZ,vv (10^s.length) 10,<-Nat.mul_assoc];exact mh _ (by omega)
theorem Eb(s:cq):(∃v:Nat,s=decDigits v/\s.length<=12/\ea s=v/\v<1000000000000)\/(ea s=-1/\∀v:Nat,s=decDigits v->12<s.length):=by
 unfold ea
 by_cases h:(decide (1<=s.length/\s.length<=12)&&(!decide (1<s.length)||!decide (s.head?=some 48))&&s.all mP)=true
 ·rw[cJ h];simp only[du,xL,lj,dF,kS] at h;refine .inl ⟨val s,afh _ s rfl (by rintro rfl;simp at h) h.2 (λD=>?_),h.1.1.2,rfl,?_⟩
  ·rcases h.1.2 with a|a
   ·omega
   ·exact a
  ·have:=VV s h.2 0;have A:10^s.length<=10^12:=vz (by omega) h.1.1.2;unfold val;omega
 ·rw[cK h];refine .inr ⟨rfl,λv e=>?_⟩
  by_cases c:12<s.length
  ·exact c
  ·exfalso;apply h;have j:=Qg.2 (uI v);have u:=vW v;have x:=acq v;rw[<-e] at j u x;simp only[du,xL,lj,dF,kS,jh];refine⟨⟨⟨j,by omega⟩,?_⟩,λc C=>by simpa[mP] using u c C⟩
   by_cases y:1<s.length
   ·exact .inr (x y)
   ·exact .inl y
theorem BT{v:Nat}(h:v<1000000000000):ea (decDigits v)=v:=by
 rcases Eb (decDigits v) with⟨u,e,_,a,_⟩|⟨_,a⟩
 ·rw[a,Ow e]
 ·have:=a v rfl;have:=Bq 12 v (by omega) (by omega);omega
theorem J0(s:cq):-1<=ea s/\ea s<1000000000000:=by
 rcases Eb s with⟨v,_,_,e,h⟩|⟨e,_⟩<;>omega
section
variable{n:Nat}
theorem Ox:∀(k m u:Nat),u<10^k->k<=m->u<9223372036854775808->eO (m+1) u=some (decDigits u)
 |k,0,u,x,y,A=>by
  have:k=0:=by omega
  subst this;have:u=0:=by omega
  subst this;rw[oH (by omega)];rfl
 |k,m+1,u,x,y,A=>by
  rw[eO];have e:¬ (u:Int)< -9223372036854775807:=by omega
  have j:¬ (u:Int)<0:=by omega
  by_cases c:u<10
  ·have a:(u:Int)<10:=by omega
   simp only[dv,e,j,a,fU,gF,cL,cN];rw[oH c,iY (by omega) (by omega) (by omega) (by omega)];simp only[iQ,eK,lk,sC,IntKind.wrap_u8];rw[show((48+(u:Int)) % 256).toNat=48+u by omega]
  ·have a:¬ (u:Int)<10:=by omega
   have C:jB .i64 (u:Int) 10=some ((u/10:Nat):Int):=by
    unfold jB
    rw[cK (by omega),IntKind.wrap_i64,YV (by omega)]
    exact congrArg some (by omega)
   have D:jY (u:Int) 10=some ((u % 10:Nat):Int):=by
    unfold jY
    rw[cK (by omega),Qd (by omega)]
    exact congrArg some (by omega)
   have F:1<=k:=by
    rcases Nat.eq_zero_or_pos k with h|h
    ·subst h;omega
    ·exact h
   have E:=Ox (k-1) m (u/10) (by
    have:10^k=10^(k-1)*10:=by rw[<-tZ];congr 1;omega
    omega) (by omega) (by omega);have H:=Bq 19 (u/10) (by omega) (by omega);simp only[dv,e,j,a,gF,cN,C,D,E,cu];rw[iY (by omega) (by omega) (by omega) (by omega)];simp only[iQ,eK,lk,sC,IntKind.wrap_u8];rw[fP (by simp;omega),rH c];simp only[cu];rw[show((48+((u % 10:Nat):Int)) % 256).toNat=48+u % 10 by omega]
theorem nh(u:Nat):itoa u=decDigits u:=by unfold itoa;rw[cK (by omega)];rfl
theorem itoa_neg{u:Nat}(h:0<u):itoa (-(u:Int))=45::decDigits u:=by
 unfold itoa;rw[cJ (by omega)];congr 2;omega
theorem OV{x:Int}(A:2^40<=n)(C:-9223372036854775808<x)(D:x<9223372036854775808):eO n x=some (itoa x):=by
 obtain⟨m,rfl⟩:∃m,n=m+2:=⟨n-2,by omega⟩
 by_cases c:0<=x
 ·obtain⟨u,rfl⟩:=gD c;rw[nh];exact Ox 19 (m+1) u (by omega) (by omega) (by omega)
 ·obtain⟨u,a⟩:∃u:Nat,x=-(u:Int):=⟨x.natAbs,by omega⟩;subst a;have E:=Bq 19 u (by omega) (by omega);rw[itoa_neg (by omega),eO];have e:¬ -(u:Int)< -9223372036854775807:=by omega
  have j:-(u:Int)<0:=by omega
  have y:gj .i64 (-(u:Int))=u:=by unfold gj;rw[IntKind.wrap_i64];omega
  simp only[dv,e,j,y,fU,gF,cL,cN,Ox 19 m u (by omega) (by omega) (by omega),cu];rw[fP (by simp;omega)];rfl
theorem ki{x:Int}(a:-9223372036854775808<=x)(e:x<9223372036854775808):(itoa x).length<=21:=itoa_length_le x a (by omega)
theorem WZ{s:cq}(J:s.length<=12)(M:2^41<=n):vR n n s 0 0 some=some (if s.all mP=true then(val s:Int) else-1):=by
 have j:∀m i a:Nat,i<=s.length->s.length<m+i->a<10^i->vR n m s a i some=some (if(s.drop i).all mP=true then(((s.drop i).foldl (λa c=>a*10+(c.toNat-48)) a:Nat):Int) else-1):=by
  intro m
  induction m with
  |zero=>intro i a C D;omega
  |succ m E=>
   intro i a C D N
   have x:10^i<=10^12:=vz (by omega) (by omega)
   by_cases y:i<s.length
   ·have e:(i:Int)<s.length:=by omega
    simp only[vR,dv,fV,e,fU,cL,uU y,cu];rw[kR y,GW,vt];have P:=s[i].toNat_lt
    by_cases u:(s[i].toNat:Int)<48
    ·have:mP s[i]=false:=by simp[mP];omega
     simp[u,this]
    ·by_cases A:57<(s[i].toNat:Int)
     ·have:mP s[i]=false:=by simp[mP];omega
      simp[u,A,this]
     ·have F:mP s[i]=true:=by simp[mP];omega
      have H:eK .i64 (cQ .u8 (s[i].toNat:Int) 48)=((s[i].toNat-48:Nat):Int):=by
       unfold eK cQ;rw[IntKind.wrap_u8,IntKind.wrap_i64];omega
      have I:cw .i64 (ez .i64 (a:Int) 10) ((s[i].toNat-48:Nat):Int)=((a*10+(s[i].toNat-48):Nat):Int):=by
       rw[mO (by omega),iY (by omega) (by omega) (by omega) (by omega)];omega
      simp only[u,A,gF,cN,H,I,dE (show i<2^31 by omega),F,mZ];exact E (i+1) _ (by omega) (by omega) (by rw[tZ];omega)
   ·have:i=s.length:=by omega
    subst this;have e:¬ ((s.length:Int)<s.length):=by omega
    simp only[vR,dv,fV,e,gF,cN,q7,List.all_nil,gr,GY]
 have:=j n 0 0 (by omega) (by omega) (by omega);simpa[val] using this
theorem uJ{s:cq}(x:2^41<=n):mq n s=some (ea s):=by
 unfold mq ea;rw[rG];simp only[cu,fV]
 by_cases y:(1:Int)<=s.length/\(s.length:Int)<=12
 ·have a:1<=s.length/\s.length<=12:=by omega
  simp only[y,a,ua,fU,dO,eN,cN,mZ,dv]
  by_cases A:1<s.length
  ·have j:(1:Int)<s.length:=by omega
   have e:iq s 0=some (s[0].toNat:Int):=uU (i:=0) (by omega);simp only[A,j,fU,cL,e,cu,en,eN,YL];have C:s.head?=some s[0]:=by rw[aii,eA (by omega)]
   by_cases u:s[0]=48
   ·have:(s[0].toNat:Int)=48:=by rw[u];rfl
    rw[C];simp[u,this]
   ·have:¬ (s[0].toNat:Int)=48:=λe=>u (YY.1 (by have:(48:UInt8).toNat=48:=rfl;omega));rw[C];simp only[this,gF,cN,cW,u,gE,mZ];exact WZ a.2 x
  ·have j:¬ (1:Int)<s.length:=by omega
   simp only[A,j,gF,cN,gE,YO,mZ];exact WZ a.2 x
 ·have a:¬ (1<=s.length/\s.length<=12):=by omega
  simp[y,a,dO]
def qP(s:cq):Int×Bool:=if s.head?=some 45 then(gj .i64 (ea (s.drop 1)),decide (0<ea (s.drop 1))) else(ea s,decide (0<=ea s))
theorem Ko{s:cq}(j:2^41<=n):B6 n s=some (qP s):=by
 unfold B6 qP;simp only[fV]
 by_cases h:0<s.length
 ·have u:(0:Int)<s.length:=by omega
  have e:iq s 0=some (s[0].toNat:Int):=uU (i:=0) (by omega);have x:s.head?=some s[0]:=by rw[aii,eA h]
  simp only[dv,gv,u,fU,cL,e,cu,en]
  by_cases a:s[0]=45
  ·have:(s[0].toNat:Int)=45:=by rw[a];rfl
   have y:fg s 1 s.length=some (s.drop 1):=by
    unfold fg;rw[cJ (by omega)];congr 1
    rw[xN (by simp)];rfl
   rw[x];simp only[this,fU,cL,y,cu,uJ j];rw[a,cJ rfl]
  ·have:¬ (s[0].toNat:Int)=45:=λe=>a (YY.1 (by have:(45:UInt8).toNat=45:=rfl;omega));rw[x,cK (by simpa using a)];simp only[this,gF,cN,cu,uJ j]
 ·have u:¬ (0:Int)<s.length:=by omega
  have:s=[]:=nL.1 (by omega);subst this;simp only[dv,gv,u,gF,cN,uJ j,cu];rfl
end
end
end Go.Ev
namespace Go.Ev
open Go
section
theorem F7(a:Int):IntKind.u32.wrap a=a % 4294967296:=IntKind.wrap_u32 a
theorem afi(k:IntKind)(a b:Int):lC k a b=lC k b a:=by unfold lC;rw[BitVec.or_comm]
theorem Jk{i:Nat}{x y:Int}(a:0<=x)(hx:x % 2^i=0)(e:x<2^32)(j:0<=y)(A:y<2^i)(C:i<=32):lC .u32 x y=x+y:=by
 have u:y<2^32:=by
  have:(2:Int)^i<=2^32:=by exact_mod_cast vz (by omega:0<2) C
  omega
 exact bits_join .u32 32 (by decide) (λn D E=>by rw[F7];omega) i x y a hx e j A u
def rr(x:Int)(k:Nat):Int:=lC .u32 (x.fdiv (2^k)) (IntKind.u32.wrap (x*2^(32-k)))
def sh(x:Int)(k:Nat):Int:=x.fdiv (2^k)
section
variable{n:Nat}
theorem rK{kd:IntKind}{x:Int}{k:Nat}(h:k<=kd.bits):ko kd x k=some (sh x k):=by
 unfold ko sh;rw[cK (by omega),fB,Nat.min_eq_left h]
theorem Cl{x:Int}{k:Nat}(h:k<=32):oW .u32 x k=some (IntKind.u32.wrap (x*2^k)):=by
 unfold oW;rw[cK (by omega),fB,Nat.min_eq_left (show k<=IntKind.u32.bits from h)]
theorem sZ{x:Int}{k:Nat}(h:k<=32):kB n x k=some (rr x k):=by
 unfold kB rr;have e:cQ .i64 32 (k:Int)=((32-k:Nat):Int):=by rw[ij];omega
 rw[rK (kd:=.u32) h,e,Cl (by omega)];rfl
theorem sP{x:Int}{k:Nat}(h:k∈[7,18,17,19,6,11,25,2,13,22]):kC n x k=some (rr x k):=by
 have e:gW .u64 (eK .u64 (gj .i64 k)) 31=((32-k:Nat):Int)/\cQ .u64 32 ((32-k:Nat):Int)=k/\k<=32:=by
  simp only[eo,mH,mI] at h
  rcases h with rfl|rfl|rfl|rfl|rfl|rfl|rfl|rfl|rfl|rfl<;>decide
 unfold kC LR rr;rw[e.1,e.2.1,Cl (by omega),rK (kd:=.u32) e.2.2];simp only[cu];rw[afi];rfl
def w4(a b c d:Int):Int:=a*16777216+b*65536+c*256+d
def Pp(w:List Int):Int:=
 let i:=w.length
 let x:=gI w (i-15)
 let y:=gI w (i-2)
 cw .u32 (cw .u32 (cw .u32 (gI w (i-16)) (eP .u32 (eP .u32 (rr x 7) (rr x 18)) (sh x 3))) (gI w (i-7))) (eP .u32 (eP .u32 (rr y 17) (rr y 19)) (sh y 10))
def w7:Nat->List Int->List Int|0,w=>w|k+1,w=>w7 k (w++[Pp w])
def jP(b:List Int)(k:Nat):List Int:=(List.range k).map λi=>w4 (gI b (4*i)) (gI b (4*i+1)) (gI b (4*i+2)) (gI b (4*i+3))
def words(b:List Int):List Int:=w7 48 (jP b 16)
def sy:List Int:=[1116352408,1899447441,3049323471,3921009573,961987163,1508970993,2453635748,2870763221,3624381080,310598401,607225278,1426881987,1925078388,2162078206,2614888103,3248222580,3835390401,4022224774,264347078,604807628,770255983,1249150122,1555081692,1996064986,2554220882,2821834349,2952996808,3210313671,3336571891,3584528711,113926993,338241895,666307205,773529912,1294757372,1396182291,1695183700,1986661051,2177026350,2456956037,2730485921,2820302411,3259730800,3345764771,3516065817,3600352804,4094571909,275423344,430227734,506948616,659060556,883997877,958139571,1322822218,1537002063,1747873779,1955562222,2024104815,2227730452,2361852424,2428436474,2756734187,3204031479,3329325298]
theorem aaQ:Mw n=some sy:=rfl
def LG(j u:Int)(s:List Int):List Int:=
 let e:=gI s 4
 let a:=gI s 0
 let t:=cw .u32 (cw .u32 (cw .u32 (cw .u32 (gI s 7) (eP .u32 (eP .u32 (rr e 6) (rr e 11)) (rr e 25))) (eP .u32 (gW .u32 e (gI s 5)) (gW .u32 (tj .u32 e) (gI s 6)))) j) u
 [cw .u32 (cw .u32 t (eP .u32 (eP .u32 (rr a 2) (rr a 13)) (rr a 22))) (eP .u32 (eP .u32 (gW .u32 a (gI s 1)) (gW .u32 a (gI s 2))) (gW .u32 (gI s 1) (gI s 2))),a,gI s 1,gI s 2,cw .u32 (gI s 3) t,e,gI s 5,gI s 6]
def u6(w:List Int):Nat->Nat->List Int->List Int|0,_,s=>s|m+1,i,s=>u6 w m (i+1) (LG (gI sy i) (gI w i) s)
def blk(h b:List Int):List Int:=
 let s:=u6 (words b) 64 0 h
 (List.range 8).map λi=>cw .u32 (gI h i) (gI s i)
theorem R7:∀(k:Nat)(w:List Int),(w7 k w).length=w.length+k
 |0,w=>rfl
 |k+1,w=>by rw[w7,R7 k];simp;omega
theorem R8(b:List Int):(words b).length=64:=by rw[words,R7];simp[jP]
theorem NF(w:List Int):∀(m i:Nat)(s:List Int),s.length=8->(u6 w m i s).length=8|0,_,_,h=>h|m+1,i,s,_=>NF w m (i+1) _ rfl
theorem F8{i:Nat}(h:i<2^31)(j:Nat)(a:j<2^31):cw .i64 (i:Int) j=((i+j:Nat):Int):=by rw[uH];omega
theorem w9{i:Nat}(h:i<2^31)(j:Nat)(a:j<=i):cQ .i64 (i:Int) j=((i-j:Nat):Int):=by rw[ij];omega
theorem iZ{l:List Int}{i:Nat}(h:i<l.length):cm l (i:Int)=some (gI l i):=eG h 0
end
section spec
variable{n:Nat}
def qX(b:List Int):Prop:=∀x∈b,0<=x/\x<256
theorem wM{b:List Int}(h:qX b)(i:Nat):0<=gI b i/\gI b i<256:=by
 by_cases c:i<b.length
 ·exact h _ (OU c)
 ·simp[gI,iE,mY (show b.length<=i by omega)]
theorem aed{a b c d:Int}(e:0<=a/\a<256)(j:0<=b/\b<256)(u:0<=c/\c<256)(A:0<=d/\d<256):
  lC .u32 (lC .u32 (lC .u32 (IntKind.u32.wrap (eK .u32 a*2^24)) (IntKind.u32.wrap (eK .u32 b*2^16))) (IntKind.u32.wrap (eK .u32 c*2^8))) (eK .u32 d)=w4 a b c d:=by
 simp only[eK,F7,w4];rw[show a % 4294967296*2^24 % 4294967296=a*16777216 by omega,show b % 4294967296*2^16 % 4294967296=b*65536 by omega,show c % 4294967296*2^8 % 4294967296=c*256 by omega,show d % 4294967296=d by omega];rw[Jk (i:=24) (x:=a*16777216) (y:=b*65536) (by omega) (by omega) (by omega) (by omega) (by omega) (by omega),Jk (i:=16) (x:=a*16777216+b*65536) (y:=c*256) (by omega) (by omega) (by omega) (by omega) (by omega) (by omega),Jk (i:=8) (x:=a*16777216+b*65536+c*256) (y:=d) (by omega) (by omega) (by omega) (by omega) (by omega) (by omega)]
theorem U3{b:List Int}(a:qX b)(e:b.length=64){k:List Int->Option (List Int)}:∀m i:Nat,i<=16->16<m+i->AA n m b (jP b i) i k=k (jP b 16)
 |0,i,h,j=>by omega
 |m+1,i,h,j=>by
  by_cases H:i<16
  ·have c:(i:Int)<16:=by omega
   have u:ez .i64 4 (i:Int)=((4*i:Nat):Int):=by rw[mO (by omega)];omega
   have y:cw .i64 ((4*i:Nat):Int) 1=((4*i+1:Nat):Int):=F8 (by omega) 1 (by omega);have A:cw .i64 ((4*i:Nat):Int) 2=((4*i+2:Nat):Int):=F8 (by omega) 2 (by omega);have C:cw .i64 ((4*i:Nat):Int) 3=((4*i+3:Nat):Int):=F8 (by omega) 3 (by omega);have D:∀x,oW .u32 x 24=some (IntKind.u32.wrap (x*2^24)):=λx=>Cl (k:=24) (by omega);have E:∀x,oW .u32 x 16=some (IntKind.u32.wrap (x*2^16)):=λx=>Cl (k:=16) (by omega);have F:∀x,oW .u32 x 8=some (IntKind.u32.wrap (x*2^8)):=λx=>Cl (k:=8) (by omega);simp only[AA,dv,c,fU,cL,u,y,A,C,iZ (l:=b) (show 4*i<b.length by omega),iZ (l:=b) (show 4*i+1<b.length by omega),iZ (l:=b) (show 4*i+2<b.length by omega),iZ (l:=b) (show 4*i+3<b.length by omega),cu,D,E,F];rw[fH (by simp[jP];omega) (by omega),cu,aed (wM a _) (wM a _) (wM a _) (wM a _),dE (by omega)];have:jP b i++[w4 (gI b (4*i)) (gI b (4*i+1)) (gI b (4*i+2)) (gI b (4*i+3))]=jP b (i+1):=by
    simp[jP,Qh]
   rw[this];exact U3 a e m (i+1) (by omega) (by omega)
  ·have:i=16:=by omega
   subst this;simp only[AA,dv];rfl
theorem U4{k:List Int->Option (List Int)}:∀(m j:Nat)(w:List Int),w.length+j=64->16<=w.length->j<m->yf n m w w.length k=k (w7 j w)
 |0,j,w,h,a,e=>by omega
 |m+1,j,w,h,a,e=>by
  match j with
  |0=>
   have c:¬ ((w.length:Int)<64):=by omega
   simp only[yf,dv,c,gF,cN,w7]
  |j+1=>
   have c:(w.length:Int)<64:=by omega
   have u:cQ .i64 (w.length:Int) 15=((w.length-15:Nat):Int):=w9 (by omega) 15 (by omega);have y:cQ .i64 (w.length:Int) 2=((w.length-2:Nat):Int):=w9 (by omega) 2 (by omega);have A:cQ .i64 (w.length:Int) 16=((w.length-16:Nat):Int):=w9 (by omega) 16 (by omega);have C:cQ .i64 (w.length:Int) 7=((w.length-7:Nat):Int):=w9 (by omega) 7 (by omega);have t1:∀x,kB n x 7=some (rr x 7):=λx=>sZ (k:=7) (by omega);have t2:∀x,kB n x 18=some (rr x 18):=λx=>sZ (k:=18) (by omega);have t3:∀x,kB n x 17=some (rr x 17):=λx=>sZ (k:=17) (by omega);have t4:∀x,kB n x 19=some (rr x 19):=λx=>sZ (k:=19) (by omega);have t5:∀x,ko .u32 x 3=some (sh x 3):=λx=>rK (kd:=.u32) (k:=3) (by decide);have t6:∀x,ko .u32 x 10=some (sh x 10):=λx=>rK (kd:=.u32) (k:=10) (by decide);simp only[yf,dv,c,fU,cL,u,y,A,C,iZ (l:=w) (show w.length-15<w.length by omega),iZ (l:=w) (show w.length-2<w.length by omega),iZ (l:=w) (show w.length-16<w.length by omega),iZ (l:=w) (show w.length-7<w.length by omega),cu,t1,t2,t3,t4,t5,t6];rw[fH (by simp;omega) (by omega),cu,dE (by omega)];have:=U4 (k:=k) m j (w++[Pp w]) (by simp;omega) (by simp;omega) (by omega);rw[eS,tY] at this;exact this
theorem acr{b:List Int}(y:qX b)(A:b.length=64)(D:2^41<=n):Iy n b=some (words b):=by
 unfold Iy;have e:xj 4 0 64 (0:Int)=some []:=by
  unfold xj;rw[cJ (by omega)];rfl
 rw[e,cu];have x:=U3 (n:=n) (k:=λj=>yf n n j 16 λu=>some u) y A n 0 (by omega) (by omega);have C:jP b 0=[]:=rfl;rw[C] at x;refine x.trans ?_;have a:(jP b 16).length=16:=by simp[jP]
 have:=U4 (n:=n) (k:=some) n 48 (jP b 16) (by omega) (by omega) (by omega);rw[a] at this;exact this
theorem eight{s:List Int}(h:s.length=8):s=[gI s 0,gI s 1,gI s 2,gI s 3,gI s 4,gI s 5,gI s 6,gI s 7]:=by
 match s,h with
 |[a,b,c,d,e,f,g,h],_=>rfl
theorem afj{h w k1:List Int}{i t a Yq e j u x y A C D:Int}{k:List Int->List Int->List Int->List Int->Int->Int->Int->Int->Option (List Int)}(E:2^41<=n):Hl n n h w k1 [e,j,u,x,y,A,C,D] i t a Yq 7 k=k h w k1 [e,e,j,u,x,y,A,C] i t a Yq:=by
 obtain⟨m,rfl⟩:∃m,n=m+8:=⟨n-8,by omega⟩;rfl
theorem aee(a b c:Int):cw .u32 (cw .u32 a b) c=cw .u32 a (cw .u32 b c):=by
 unfold cw;simp only[F7];omega
theorem Wq{h w:List Int}(u:w.length=64)(a:2^41<=n){k:List Int->List Int->Option (List Int)}:∀(m j i:Nat)(s:List Int),s.length=8->i+j=64->j<m->AB n m h w sy s i k=k h (u6 w j i s)
 |0,j,i,s,e,A,C=>by omega
 |m+1,j,i,s,e,A,C=>by
  match j with
  |0=>
   have c:¬ ((i:Int)<64):=by omega
   simp only[AB,dv,c,gF,cN,u6]
  |j+1=>
   have c:(i:Int)<64:=by omega
   have D:i<sy.length:=by show i<64;omega
   have t1:∀x,kB n x 6=some (rr x 6):=λx=>sZ (k:=6) (by omega);have t2:∀x,kB n x 11=some (rr x 11):=λx=>sZ (k:=11) (by omega);have t3:∀x,kB n x 25=some (rr x 25):=λx=>sZ (k:=25) (by omega);have t4:∀x,kB n x 2=some (rr x 2):=λx=>sZ (k:=2) (by omega);have t5:∀x,kB n x 13=some (rr x 13):=λx=>sZ (k:=13) (by omega);have t6:∀x,kB n x 22=some (rr x 22):=λx=>sZ (k:=22) (by omega);rw[u6];refine Qi ?_ (Wq (k:=k) (h:=h) u a m j (i+1) (LG (gI sy i) (gI w i) s) rfl (by omega) (by omega));rw[eight e];generalize gI s 0=x0;generalize gI s 1=x1;generalize gI s 2=x2;generalize gI s 3=x3;generalize gI s 4=x4;generalize gI s 5=x5;generalize gI s 6=x6;generalize gI s 7=x7;have E:cm [x0,x1,x2,x3,x4,x5,x6,x7] 0=some x0:=rfl;have F:cm [x0,x1,x2,x3,x4,x5,x6,x7] 1=some x1:=rfl;have H:cm [x0,x1,x2,x3,x4,x5,x6,x7] 2=some x2:=rfl;have I:cm [x0,x1,x2,x3,x4,x5,x6,x7] 4=some x4:=rfl;have J:cm [x0,x1,x2,x3,x4,x5,x6,x7] 5=some x5:=rfl;have M:cm [x0,x1,x2,x3,x4,x5,x6,x7] 6=some x6:=rfl;have N:cm [x0,x1,x2,x3,x4,x5,x6,x7] 7=some x7:=rfl;have P:cm [x0,x0,x1,x2,x3,x4,x5,x6] 4=some x3:=rfl;have Q:∀y,cm (db [x0,x0,x1,x2,x3,x4,x5,x6] 4 y) 0=some x0:=λy=>rfl;simp only[AB,dv,c,fU,cL,E,F,H,I,J,M,N,cu,t1,t2,t3,t4,t5,t6,iZ D,iZ (l:=w) (show i<w.length by omega),afj a,P,Q];rw[dE (by omega)];rfl
theorem agU{h s:List Int}(a:h.length=8)(e:s.length=8)(j:2^41<=n){k:List Int->Option (List Int)}:DH n n h s [] 0 k=k ((List.range 8).map λi=>cw .u32 (gI h i) (gI s i)):=by
 obtain⟨m,rfl⟩:∃m,n=m+9:=⟨n-9,by omega⟩;rw[eight a,eight e];rfl
theorem acs{h b:List Int}(u:h.length=8)(y:qX b)(A:b.length=64)(x:2^41<=n):Iz n h b=some (blk h b):=by
 unfold Iz;rw[acr y A x,aaQ,fH (by simp;omega) (by omega)];simp only[cu,ic];have:=Wq (n:=n) (h:=h) (w:=words b) (k:=λe j=>DH n n e j [] 0 λa=>some a) (R8 b) x n 64 0 h u (by omega) (by omega);refine this.trans ?_;exact agU u (NF _ _ _ _ u) x
end spec
end
section
section
variable{n:Nat}
theorem uw{a e:Type}{f:a->List e}{c:Nat}(h:∀x,(f x).length=c):∀l:List a,(l.map f).flatten.length=c*l.length
 |[]=>rfl
 |x::l=>by rw[lk,Qj,eS,h,uw h l,fY,Nat.mul_succ];omega
def qe(a:Nat):Nat:=(119-a % 64) % 64
def pg(x:Int):Nat->List Int|0=>[]|j+1=>eK .u8 (sh x (8*j))::pg x j
def mR(text:cq):List Int:=dB text++128::List.replicate (qe text.length) 0++pg (text.length*8) 8
def tE:Nat->List Int->List Int->List Int|0,h,_=>h|q+1,h,b=>tE q (blk h (b.take 64)) (b.drop 64)
def GS:List Int:=[1779033703,3144134277,1013904242,2773480762,1359893119,2600822924,528734635,1541459225]
def K0(text:cq):List Int:=tE ((mR text).length/64) GS (mR text)
theorem K1(x:Int):eK .u8 x=x % 256:=by unfold eK;rw[IntKind.wrap_u8]
theorem NG(x:Int):∀j,qX (pg x j)
 |0=>by simp[pg,qX]
 |j+1=>λy a=>by
  rcases eo.1 a with rfl|a
  ·rw[K1];omega
  ·exact NG x j y a
theorem Ts(x:Int):∀j,(pg x j).length=j
 |0=>rfl
 |j+1=>by simp[pg,Ts x j]
theorem Rp(s:cq):qX (dB s):=λx hx=>by
 simp only[dB,gR] at hx;obtain⟨c,_,rfl⟩:=hx;have:=c.toNat_lt;omega
theorem acu(text:cq):qX (mR text):=λx hx=>by
 simp only[mR,eB,eo,List.mem_replicate] at hx;rcases hx with(hx|rfl|hx)|hx
 ·exact Rp _ x hx
 ·omega
 ·omega
 ·exact NG _ _ x hx
theorem Tt(text:cq):(mR text).length % 64=0/\64<=(mR text).length/\(mR text).length<=text.length+73:=by
 simp only[mR,eS,fY,Yz,Ts,dB,oC,qe];omega
theorem OW{a:Nat}:jY (a:Int) 64=some ((a % 64:Nat):Int):=by
 unfold jY;rw[cK (by omega),Qd (by omega)];exact congrArg some (by omega)
theorem Wr{text:cq}{k:cq->List Int->Option (List Int)}:∀(m j:Nat)(b:List Int),(b.length+j) % 64=56->j<64->j<m->b.length+j<2^31->Dt n m text b k=k text (b++List.replicate j 0)
 |0,j,b,h,a,u,x=>by omega
 |m+1,j,b,h,a,u,x=>by
  rw[Dt,cP,OW,cu]
  match j with
  |0=>
   have e:((b.length % 64:Nat):Int)=56:=by omega
   rw[e];simp[dO,en]
  |j+1=>
   have e:¬ ((b.length % 64:Nat):Int)=56:=by omega
   simp only[dO,en,e,gF,gE,cL];rw[fH (by simp;omega) (by omega),cu,Wr m j _ (by simp;omega) (by omega) (by omega) (by simp;omega)];simp[C8]
theorem Ws{x:Int}{k:List Int->Option (List Int)}:∀(m j:Nat)(b:List Int),j<=8->j<m->b.length+j<2^31->xU n m b x ((j:Int)-1) k=k (b++pg x j)
 |0,j,b,h,a,u=>by omega
 |m+1,0,b,h,a,u=>by
  simp only[xU,gv];simp[pg]
 |m+1,j+1,b,h,a,u=>by
  have e:((j+1:Nat):Int)-1=j:=by omega
  have y:ez .i64 8 (j:Int)=((8*j:Nat):Int):=by rw[mO (by omega)];omega
  have A:ko .i64 x ((8*j:Nat):Int)=some (sh x (8*j)):=rK (kd:=.i64) (by show 8*j<=64;omega);have C:cQ .i64 (j:Int) 1=(j:Int)-1:=by rw[ij];omega
  rw[e];have c:(0:Int)<=j:=by omega
  simp only[xU,gv,c,fU,cL,y,A,C,cu];rw[fH (by simp;omega) (by omega),cu,Ws m j _ (by omega) (by omega) (by simp;omega)];simp[pg]
theorem aaR{text:cq}(E:text.length<2^30)(F:2^41<=n):HP n text=some (mR text):=by
 have j:(dB text).length=text.length:=by simp[dB]
 have c:((text.length:Nat):Int)<=1152921504606846976:=by omega
 unfold HP;simp only[fV,gv,c,fU,tf,gr,cu];rw[fH (by simp;omega) (by omega),cu];have e:ez .i64 (text.length:Int) 8=text.length*8:=mO (by omega);have y:qe text.length<64:=by unfold qe;omega
 have A:=Wr (n:=n) (text:=text) (k:=λa C=>xU n n C (ez .i64 (eg a) 8) 7 λu=>some u) n (qe text.length) (dB text++[128]) (by rw[eS,j];unfold qe;simp;omega) y (by omega) (by rw[eS,j];simp;omega);refine A.trans ?_;rw[fV,e];have D:=Ws (n:=n) (x:=text.length*8) (k:=some) n 8 (dB text++[128]++List.replicate (qe text.length) 0) (by omega) (by omega) (by simp[j];omega);refine Qi D ?_;simp[mR]
theorem J1(h b:List Int):(blk h b).length=8:=by simp[blk]
theorem Wt{k:List Int->Option cq}{b:List Int}(j:qX b)(A:b.length<2^31)(u:2^41<=n):∀(m q i:Nat)(h:List Int),h.length=8->i+64*q=b.length->q<m->Bf n m h b i k=k (tE q h (b.drop i))
 |0,q,i,h,y,C,D=>by omega
 |m+1,q,i,h,y,C,D=>by
  match q with
  |0=>
   have c:¬ ((i:Int)<b.length):=by omega
   simp only[Bf,dv,cP,c,gF,cN,tE]
  |q+1=>
   have c:((i:Int)<b.length):=by omega
   have e:cw .i64 (i:Int) 64=((i+64:Nat):Int):=F8 (by omega) 64 (by omega);have E:kr (i:Int) ((i+64:Nat):Int) b.length=true:=by unfold kr;simp;omega
   have F:eR b (i:Int) ((i+64:Nat):Int)=some ((b.drop i).take 64):=by
    unfold eR
    rw[cJ (by omega),fB,fB,show i+64-i=64 by omega]
   have a:qX ((b.drop i).take 64):=λx hx=>j x (G8 (ub hx));simp only[Bf,dv,cP,c,fU,cL,e,E,tf,gr,cu,F,acs y a (by simp;omega) u];rw[Wt j A u m q (i+64) _ (J1 _ _) (by omega) (by omega),tE,q8]
def w8(x:Int):List Int:=[eK .u8 (sh x 24),eK .u8 (sh x 16),eK .u8 (sh x 8),eK .u8 x]
def u7(x:Int):UInt8:=([48,49,50,51,52,53,54,55,56,57,97,98,99,100,101,102]:cq).getD x.toNat 0
def kZ(b:Int):cq:=[u7 (b/16),u7 (b % 16)]
def lz(text:cq):cq:=(((List.range 8).map λi=>w8 (gI (K0 text) i)).flatten.map kZ).flatten
theorem NH:∀(q:Nat)(h b:List Int),h.length=8->(tE q h b).length=8|0,_,_,h=>h|q+1,h,b,_=>NH q _ _ (J1 _ _)
theorem acv(text:cq):(K0 text).length=8:=NH _ _ _ rfl
theorem agb{h:List Int}(C:h.length=8)(D:2^41<=n):vS n n h [] 0 (λa=>some (iQ a))=some (iQ ((List.range 8).map λi=>w8 (gI h i)).flatten):=by
 have e:∀m i:Nat,i<=8->8<m+i->vS n m h (((List.range i).map λi=>w8 (gI h i)).flatten) i (λa=>some (iQ a))=some (iQ ((List.range 8).map λi=>w8 (gI h i)).flatten):=by
  intro m
  induction m with
  |zero=>intro i j u;omega
  |succ m y=>
   intro i j u
   by_cases E:i<8
   ·have c:(i:Int)<8:=by omega
    have t1:∀x,ko .u32 x 24=some (sh x 24):=λx=>rK (kd:=.u32) (k:=24) (by decide);have t2:∀x,ko .u32 x 16=some (sh x 16):=λx=>rK (kd:=.u32) (k:=16) (by decide);have t3:∀x,ko .u32 x 8=some (sh x 8):=λx=>rK (kd:=.u32) (k:=8) (by decide);have A:(((List.range i).map λi=>w8 (gI h i)).flatten).length=4*i:=by
     rw[uw (c:=4) (λ_=>rfl),Qk]
    simp only[vS,dv,c,fU,cL,iZ (l:=h) (show i<h.length by omega),cu,t1,t2,t3];rw[fH (by rw[A];simp;omega) (by omega),cu,dE (by omega)];have:((List.range i).map λi=>w8 (gI h i)).flatten++[eK .u8 (sh (gI h i) 24),eK .u8 (sh (gI h i) 16),eK .u8 (sh (gI h i) 8),eK .u8 (gI h i)]=((List.range (i+1)).map λi=>w8 (gI h i)).flatten:=by
     rw[Qh,mG,Ql];simp[w8]
    rw[this];exact y (i+1) (by omega) (by omega)
   ·have:i=8:=by omega
    subst this;simp only[vS,dv];rfl
 exact e n 0 (by omega) (by omega)
theorem afk{text:cq}(j:text.length<2^30)(e:2^41<=n):JM n text=some (iQ ((List.range 8).map λi=>w8 (gI (K0 text) i)).flatten):=by
 unfold JM;rw[aaR j e,cu];have x:=Tt text;have:=Wt (n:=n) (k:=λu=>vS n n u [] 0 λa=>some (iQ a)) (acu text) (by omega) e n ((mR text).length/64) 0 GS rfl (by omega) (by omega);refine Qi this ?_;exact agb (acv text) e
theorem W4{x:Nat}(h:x<16):iq [48,49,50,51,52,53,54,55,56,57,97,98,99,100,101,102] (x:Int)=some ((u7 x).toNat:Int):=by
 have:∀x:Fin 16,iq [48,49,50,51,52,53,54,55,56,57,97,98,99,100,101,102] ((x.val:Nat):Int)=some ((u7 x.val).toNat:Int):=by decide
 exact this ⟨x,h⟩
theorem afl{s:cq}(E:s.length<2^28)(F:2^41<=n):JN n s=some ((s.map λc=>kZ (c.toNat:Int)).flatten):=by
 have j:∀m i:Nat,i<=s.length->s.length<m+i->Bg n m s (((s.take i).map λc=>(kZ (c.toNat:Int)).map λ(c:UInt8)=>(c.toNat:Int)).flatten) i (λa=>some (iQ a))=some ((s.map λc=>kZ (c.toNat:Int)).flatten):=by
  intro m
  induction m with
  |zero=>intro i x y;omega
  |succ m A=>
   intro i x y
   have e:(((s.take i).map λc=>(kZ (c.toNat:Int)).map λ(c:UInt8)=>(c.toNat:Int)).flatten).length=2*i:=by
    rw[uw (c:=2) (λ_=>rfl),kh];omega
   by_cases u:i<s.length
   ·have c:(i:Int)<s.length:=by omega
    have H:=s[i].toNat_lt;have C:jB .u8 (s[i].toNat:Int) 16=some ((s[i].toNat/16:Nat):Int):=by
     unfold jB
     rw[cK (by omega),IntKind.wrap_u8,YV (by omega)]
     exact congrArg some (by omega)
    have D:jY (s[i].toNat:Int) 16=some ((s[i].toNat % 16:Nat):Int):=by
     unfold jY
     rw[cK (by omega),Qd (by omega)]
     exact congrArg some (by omega)
    simp only[Bg,dv,fV,c,fU,cL,uU u,cu,C,D,W4 (show s[i].toNat/16<16 by omega),W4 (show s[i].toNat % 16<16 by omega)];rw[fH (by rw[e];simp;omega) (by omega),cu,dE (by omega)];have:((s.take i).map λc=>(kZ (c.toNat:Int)).map λ(c:UInt8)=>(c.toNat:Int)).flatten++[((u7 ((s[i].toNat/16:Nat):Int)).toNat:Int),((u7 ((s[i].toNat % 16:Nat):Int)).toNat:Int)]=((s.take (i+1)).map λc=>(kZ (c.toNat:Int)).map λ(c:UInt8)=>(c.toNat:Int)).flatten:=by
     rw[mi u,mG,Ql]
     simp[kZ]
    rw[this];exact A (i+1) (by omega) (by omega)
   ·have:i=s.length:=by omega
    subst this;have c:¬ ((s.length:Int)<s.length):=by omega
    simp only[Bg,dv,fV,c,gF,cN,sD]
    congr 1
    unfold iQ;rw[List.map_flatten,Dc]
    congr 1
    refine xK λc _=>?_;simp[kZ]
 have:=j n 0 (by omega) (by omega);unfold JN;simpa using this
theorem ZY{text:cq}(j:text.length<2^30)(e:2^41<=n):IA n text=some (lz text):=by
 unfold IA;rw[afk j e,cu,afl (by unfold iQ;rw[oC,uw (c:=4) (λ_=>rfl),Qk];omega) e,cu];unfold lz
 congr 2
 unfold iQ;rw[Dc];refine xK λb a=>?_;have:0<=b/\b<256:=by
  simp only[List.mem_flatten,gR] at a
  obtain⟨l,⟨i,_,rfl⟩,a⟩:=a
  simp only[w8,eo,mH,mI] at a
  rcases a with rfl|rfl|rfl|rfl<;>rw[K1]<;>omega
 simp only[P6];rw[YX]
 congr 1
 omega
theorem IX(text:cq):(lz text).length=64:=by
 unfold lz;rw[uw (c:=2) (λ_=>rfl),uw (c:=4) (λ_=>rfl),Qk]
end
end
end Go.Ev
namespace Go.Ev
open Go Go.Lib
section
section
variable{n:Nat}
theorem lq{a:Type}(l:List a)(i:Int)(x:a):(db l i x).length=l.length:=by simp[db]
theorem acw{l:List Int}{i:Nat}(h:i<l.length)(x:Int):cm (db l i x) (i:Int)=some x:=by
 simp[cm,db,h]
theorem acx{l:List Int}(i:Nat)(x y:Int):db (db l i x) (i:Int) y=db l i y:=by simp[db]
theorem Tu{a r:List Int}{x y:Int}:db (a++x::r) (a.length:Int) y=a++y::r:=by simp[db]
theorem oa{R:Type}{b:Bool}(h:b=true)(f:Unit->Option R):ck (dJ b) f=f ():=by subst h;rfl
theorem K2{x b:Int}(a:0<=x)(e:x<16777216)(j:0<=b/\b<256):lC .u32 (IntKind.u32.wrap (x*2^8)) (eK .u32 b)=x*256+b:=by
 simp only[eK,F7];rw[show x*2^8 % 4294967296=x*256 by omega,show b % 4294967296=b by omega,Jk (i:=8) (by omega) (by omega) (by omega) (by omega) (by omega) (by omega)]
theorem afm{text:cq}{i:Nat}{h a w:List Int}{k:cq->Int->List Int->List Int->List Int->Option (List Int)}{b0 b1 b2 b3:Int}(hi:i<64)(hw:w.length=64)(e:cm w (i:Int)=some 0)(j:0<=b0/\b0<256)(u:0<=b1/\b1<256)(y:0<=b2/\b2<256)(A:0<=b3/\b3<256)(hn:2^41<=n):
  D6 n n text i i [b0,b1,b2,b3] 4 0 h a w k=k text i h a (db w i (w4 b0 b1 b2 b3)):=by
 obtain⟨m,rfl⟩:∃m,n=m+5:=⟨n-5,by omega⟩;have c:cA (i:Int) 64=true:=by rw[dv];simp;omega
 have C:∀x,oW .u32 x 8=some (IntKind.u32.wrap (x*2^8)):=λx=>Cl (k:=8) (by omega);have g:∀x,cm (db w i x) (i:Int)=some x:=λx=>acw (by omega) x;have D:lC .u32 (IntKind.u32.wrap (0*2^8)) (eK .u32 b0)=b0:=by rw[K2 (by omega) (by omega) j];omega
 have E:lC .u32 (IntKind.u32.wrap (b0*2^8)) (eK .u32 b1)=b0*256+b1:=K2 (by omega) (by omega) u;have F:lC .u32 (IntKind.u32.wrap ((b0*256+b1)*2^8)) (eK .u32 b2)=b0*65536+b1*256+b2:=by rw[K2 (by omega) (by omega) y];omega
 have H:lC .u32 (IntKind.u32.wrap ((b0*65536+b1*256+b2)*2^8)) (eK .u32 b3)=w4 b0 b1 b2 b3:=by rw[K2 (by omega) (by omega) A];unfold w4;omega
 have I:cw .i64 0 1=1:=rfl;have J:cw .i64 1 1=2:=rfl;have M:cw .i64 2 1=3:=rfl;have N:cw .i64 3 1=4:=rfl;have P:cA 0 4=true:=rfl;have Q:cA 1 4=true:=rfl;have R:cA 2 4=true:=rfl;have S:cA 3 4=true:=rfl;have U:cA 4 4=false:=rfl;have Y:cm [b0,b1,b2,b3] 0=some b0:=rfl;have Z:cm [b0,b1,b2,b3] 1=some b1:=rfl;have l2:cm [b0,b1,b2,b3] 2=some b2:=rfl;have l3:cm [b0,b1,b2,b3] 3=some b3:=rfl;simp only[D6,c,oa,e,C,g,D,E,F,H,I,J,M,N,P,Q,R,S,U,Y,Z,l2,l3,cu,cL,cN,acx]
theorem W5{text:cq}{h v4:List Int}{k:List Int->List Int->List Int->Option (List Int)}(J:64<=text.length)(M:text.length<2^31)(I:2^41<=n):∀m i:Nat,i<=16->16<m+i->
  Bj n m text i h v4 (jP ((dB text).take 64) i++List.replicate (64-i) 0) k=k h v4 (jP ((dB text).take 64) 16++List.replicate 48 0)
 |0,i,N,P=>by omega
 |m+1,i,N,P=>by
  by_cases hi:i<16
  ·have c:cA (i:Int) 16=true:=by rw[dv];simp;omega
   have Q:ez .i64 4 (i:Int)=((4*i:Nat):Int):=by rw[mO (by omega)];omega
   have R:cw .i64 ((4*i:Nat):Int) 4=((4*i+4:Nat):Int):=F8 (by omega) 4 (by omega);have S:fg text ((4*i:Nat):Int) ((4*i+4:Nat):Int)=some ((text.drop (4*i)).take 4):=by
    unfold fg
    rw[cJ (by omega),fB,fB,show 4*i+4-4*i=4 by omega]
   have e:((text.drop (4*i)).take 4).length=4:=by simp;omega
   have U:dz (eg ((text.drop (4*i)).take 4)) 1152921504606846976=true:=by rw[gv,fV,e];rfl
   have Y:dB ((text.drop (4*i)).take 4)=[gI ((dB text).take 64) (4*i),gI ((dB text).take 64) (4*i+1),gI ((dB text).take 64) (4*i+2),gI ((dB text).take 64) (4*i+3)]:=by
    have C:∀j,j<4->gI ((dB text).take 64) (4*i+j)=gI (dB ((text.drop (4*i)).take 4)) j:=λj Z=>by
     have F:4*i+j<64:=by omega
     simp[gI,iE,dB,oz,F,Z,vp]
    have H:(dB ((text.drop (4*i)).take 4)).length=4:=by unfold dB;rw[oC];exact e
    have h4:∀u:List Int,u.length=4->u=[gI u 0,gI u 1,gI u 2,gI u 3]:=λu hx=>by
     match u,hx with
     |[a,b,c,d],_=>rfl
    rw[h4 _ H,C 1 (by omega),C 2 (by omega),C 3 (by omega),<-C 0 (by omega)]
    rw[<-C 1 (by omega),<-C 2 (by omega),<-C 3 (by omega)]
    rfl
   have hw:(jP ((dB text).take 64) i++List.replicate (64-i) 0).length=64:=by simp[jP];omega
   have E:qX ((dB text).take 64):=λx hx=>Rp _ x (ub hx);have D:(jP ((dB text).take 64) i).length=i:=by simp[jP]
   have A:List.replicate (64-i) (0:Int)=0::List.replicate (63-i) 0:=by rw[show 64-i=(63-i)+1 by omega];rfl
   have h0:cm (jP ((dB text).take 64) i++List.replicate (64-i) 0) (i:Int)=some 0:=by
    rw[A,iZ (by simp[D])]
    simp[gI,iE,D]
   have ll:cz [gI ((dB text).take 64) (4*i),gI ((dB text).take 64) (4*i+1),gI ((dB text).take 64) (4*i+2),gI ((dB text).take 64) (4*i+3)]=4:=rfl;simp only[Bj,c,cL,Q,R,S,cu,oa U,Y,ll];rw[afm (by omega) hw h0 (wM E _) (wM E _) (wM E _) (wM E _) I,dE (by omega)];have:db (jP ((dB text).take 64) i++List.replicate (64-i) 0) i (w4 (gI ((dB text).take 64) (4*i)) (gI ((dB text).take 64) (4*i+1)) (gI ((dB text).take 64) (4*i+2)) (gI ((dB text).take 64) (4*i+3)))=jP ((dB text).take 64) (i+1)++List.replicate (64-(i+1)) 0:=by
    rw[A]
    have:=Tu (a:=jP ((dB text).take 64) i) (r:=List.replicate (63-i) 0) (x:=0) (y:=w4 (gI ((dB text).take 64) (4*i)) (gI ((dB text).take 64) (4*i+1)) (gI ((dB text).take 64) (4*i+2)) (gI ((dB text).take 64) (4*i+3)))
    rw[D] at this
    rw[this,show 64-(i+1)=63-i by omega]
    simp[jP,Qh]
   rw[this];exact W5 J M I m (i+1) (by omega) (by omega)
  ·have:i=16:=by omega
   subst this;simp only[Bj];rfl
theorem aef{w r:List Int}{i:Nat}(h:i<w.length):gI (w++r) i=gI w i:=by
 simp[gI,iE,oB h]
theorem Wu{h v:List Int}{k:List Int->List Int->List Int->Option (List Int)}:∀(m j:Nat)(w:List Int),w.length+j=64->16<=w.length->j<m->Bk n m w.length h v (w++List.replicate j 0) k=k h v (w7 j w)
 |0,j,w,u,A,C=>by omega
 |m+1,0,w,u,A,C=>by
  have c:cA (w.length:Int) 64=false:=by rw[dv];simp;omega
  simp only[Bk,c,cN,w7,List.replicate_zero,G7]
 |m+1,j+1,w,u,A,C=>by
  have c:cA (w.length:Int) 64=true:=by rw[dv];simp;omega
  have D:cQ .i64 (w.length:Int) 15=((w.length-15:Nat):Int):=w9 (by omega) 15 (by omega);have E:cQ .i64 (w.length:Int) 2=((w.length-2:Nat):Int):=w9 (by omega) 2 (by omega);have F:cQ .i64 (w.length:Int) 16=((w.length-16:Nat):Int):=w9 (by omega) 16 (by omega);have H:cQ .i64 (w.length:Int) 7=((w.length-7:Nat):Int):=w9 (by omega) 7 (by omega);have I:cA ((w.length-15:Nat):Int) 64=true:=by rw[dv];simp;omega
  have g2:cA ((w.length-2:Nat):Int) 64=true:=by rw[dv];simp;omega
  have J:cA ((w.length-16:Nat):Int) 64=true:=by rw[dv];simp;omega
  have g4:cA ((w.length-7:Nat):Int) 64=true:=by rw[dv];simp;omega
  have a:∀i,i<w.length->cm (w++List.replicate (j+1) 0) ((i:Nat):Int)=some (gI w i):=λi M=>by rw[iZ (by simp;omega),aef M]
  have N:cm (w++List.replicate (j+1) 0) (w.length:Int)=some 0:=by
   rw[iZ (by simp)]
   simp[gI,iE,C8]
  have t1:∀x,kC n x 7=some (rr x 7):=λx=>sP (k:=7) (by decide);have t2:∀x,kC n x 18=some (rr x 18):=λx=>sP (k:=18) (by decide);have t3:∀x,kC n x 17=some (rr x 17):=λx=>sP (k:=17) (by decide);have t4:∀x,kC n x 19=some (rr x 19):=λx=>sP (k:=19) (by decide);have t5:∀x,ko .u32 x 3=some (sh x 3):=λx=>rK (kd:=.u32) (k:=3) (by decide);have t6:∀x,ko .u32 x 10=some (sh x 10):=λx=>rK (kd:=.u32) (k:=10) (by decide);simp only[Bk,c,cL,D,E,F,H,oa I,oa g2,oa J,oa g4,oa c,a _ (show w.length-15<w.length by omega),a _ (show w.length-2<w.length by omega),a _ (show w.length-16<w.length by omega),a _ (show w.length-7<w.length by omega),N,cu,t1,t2,t3,t4,t5,t6];rw[dE (by omega)];have e:∀y,db (w++List.replicate (j+1) 0) (w.length:Int) y=(w++[y])++List.replicate j 0:=λy=>by
   rw[C8,Tu];simp
  rw[e];have:=Wu (h:=h) (v:=v) (k:=k) m j (w++[Pp w]) (by simp;omega) (by simp;omega) (by omega);rw[eS,tY] at this;exact this
theorem Wv{h v4 w:List Int}(C:w.length=64){k:List Int->List Int->List Int->Option (List Int)}:∀(m j i:Nat)(s:List Int),s.length=8->i+j=64->j<m->Bl n m i h v4 w s k=k h v4 (u6 w j i s)
 |0,j,i,s,u,y,A=>by omega
 |m+1,0,i,s,u,y,A=>by
  have c:cA (i:Int) 64=false:=by rw[dv];simp;omega
  simp only[Bl,c,cN,u6]
 |m+1,j+1,i,s,u,y,A=>by
  have c:cA (i:Int) 64=true:=by rw[dv];simp;omega
  have D:i<sy.length:=by show i<64;omega
  have t1:∀x,kC n x 6=some (rr x 6):=λx=>sP (k:=6) (by decide);have t2:∀x,kC n x 11=some (rr x 11):=λx=>sP (k:=11) (by decide);have t3:∀x,kC n x 25=some (rr x 25):=λx=>sP (k:=25) (by decide);have t4:∀x,kC n x 2=some (rr x 2):=λx=>sP (k:=2) (by decide);have t5:∀x,kC n x 13=some (rr x 13):=λx=>sP (k:=13) (by decide);have t6:∀x,kC n x 22=some (rr x 22):=λx=>sP (k:=22) (by decide);rw[u6];refine Qi ?_ (Wv (k:=k) (h:=h) (v4:=v4) C m j (i+1) (LG (gI sy i) (gI w i) s) rfl (by omega) (by omega));rw[eight u];generalize gI s 0=x0;generalize gI s 1=x1;generalize gI s 2=x2;generalize gI s 3=x3;generalize gI s 4=x4;generalize gI s 5=x5;generalize gI s 6=x6;generalize gI s 7=x7;have E:cm [x0,x1,x2,x3,x4,x5,x6,x7] 0=some x0:=rfl;have F:cm [x0,x1,x2,x3,x4,x5,x6,x7] 1=some x1:=rfl;have H:cm [x0,x1,x2,x3,x4,x5,x6,x7] 2=some x2:=rfl;have I:cm [x0,x1,x2,x3,x4,x5,x6,x7] 3=some x3:=rfl;have J:cm [x0,x1,x2,x3,x4,x5,x6,x7] 4=some x4:=rfl;have M:cm [x0,x1,x2,x3,x4,x5,x6,x7] 5=some x5:=rfl;have N:cm [x0,x1,x2,x3,x4,x5,x6,x7] 6=some x6:=rfl;have P:cm [x0,x1,x2,x3,x4,x5,x6,x7] 7=some x7:=rfl;have Q:cm [1116352408,1899447441,3049323471,3921009573,961987163,1508970993,2453635748,2870763221,3624381080,310598401,607225278,1426881987,1925078388,2162078206,2614888103,3248222580,3835390401,4022224774,264347078,604807628,770255983,1249150122,1555081692,1996064986,2554220882,2821834349,2952996808,3210313671,3336571891,3584528711,113926993,338241895,666307205,773529912,1294757372,1396182291,1695183700,1986661051,2177026350,2456956037,2730485921,2820302411,3259730800,3345764771,3516065817,3600352804,4094571909,275423344,430227734,506948616,659060556,883997877,958139571,1322822218,1537002063,1747873779,1955562222,2024104815,2227730452,2361852424,2428436474,2756734187,3204031479,3329325298] (i:Int)=some (gI sy i):=iZ D;have R:cA 0 8=true:=rfl;have S:cA 1 8=true:=rfl;have U:cA 2 8=true:=rfl;have Y:cA 3 8=true:=rfl;have Z:cA 4 8=true:=rfl;have i5:cA 5 8=true:=rfl;have i6:cA 6 8=true:=rfl;have i7:cA 7 8=true:=rfl;have ie:∀a b c d e f g h:Int,cp (cz [a,b,c,d,e,f,g,h]) 8=true:=λ_ _ _ _ _ _ _ _=>rfl;have ib:fC true true=true:=rfl;have ct:dJ true=some ():=rfl;simp only[Bl,c,cL,R,S,U,Y,Z,i5,i6,i7,ie,ib,ct,E,F,H,I,J,M,N,P,Q,cu,t1,t2,t3,t4,t5,t6,iZ (l:=w) (show i<w.length by omega)];rw[dE (by omega)];have er:LG (gI sy i) (gI w i) [x0,x1,x2,x3,x4,x5,x6,x7]=[cw .u32 (cw .u32 (cw .u32 (cw .u32 (cw .u32 (cw .u32 x7 (eP .u32 (eP .u32 (rr x4 6) (rr x4 11)) (rr x4 25))) (eP .u32 (gW .u32 x4 x5) (gW .u32 (tj .u32 x4) x6))) (gI sy i)) (gI w i)) (eP .u32 (eP .u32 (rr x0 2) (rr x0 13)) (rr x0 22))) (eP .u32 (eP .u32 (gW .u32 x0 x1) (gW .u32 x0 x2)) (gW .u32 x1 x2)),x0,x1,x2,cw .u32 x3 (cw .u32 (cw .u32 (cw .u32 (cw .u32 x7 (eP .u32 (eP .u32 (rr x4 6) (rr x4 11)) (rr x4 25))) (eP .u32 (gW .u32 x4 x5) (gW .u32 (tj .u32 x4) x6))) (gI sy i)) (gI w i)),x4,x5,x6]:=rfl;rw[er];simp only[aee]
theorem agV{h v4 s:List Int}(a:h.length=8)(e:s.length=8)(j:2^41<=n){k:List Int->List Int->Option (List Int)}:HT n n 0 h v4 s k=k ((List.range 8).map λi=>cw .u32 (gI h i) (gI s i)) v4:=by
 obtain⟨m,rfl⟩:∃m,n=m+9:=⟨n-9,by omega⟩;rw[eight a,eight e];rfl
theorem aaS{h:List Int}{text:cq}(a:h.length=8)(y:64<=text.length)(A:text.length<2^31)(j:2^41<=n):JT n h text=some (blk h ((dB text).take 64)):=by
 unfold JT;have C:tk 64 (0:Int)=jP ((dB text).take 64) 0++List.replicate (64-0) 0:=rfl;rw[C];have D:=λk=>W5 (n:=n) (h:=h) (v4:=tk 8 0) (k:=k) y A j n 0 (by omega) (by omega);refine(D _).trans ?_;have e:(jP ((dB text).take 64) 16).length=16:=by simp[jP]
 have u:=λk=>Wu (n:=n) (h:=h) (v:=tk 8 0) (k:=k) n 48 (jP ((dB text).take 64) 16) (by omega) (by omega) (by omega);rw[e] at u;refine(u _).trans ?_;have x:cp (cz h) 8=true:=by rw[en,cP,a];rfl
 refine(oa x _).trans ?_;refine(oa (by rw[x];rfl) _).trans ?_;have E:=λk=>Wv (n:=n) (h:=h) (v4:=tk 8 0) (k:=k) (R8 ((dB text).take 64)) n 64 0 h a (by omega) (by omega);refine(E _).trans ?_;refine(agV a (NF _ _ _ _ a) j).trans ?_;rfl
end
end
section
section
variable{n:Nat}
def CP(text:cq):cq:=text++128::List.replicate (qe text.length) 0++iQ (pg (text.length*8) 8)
theorem aeg{l:List Int}(h:qX l):dB (iQ l)=l:=by
 unfold dB iQ;rw[Dc];refine(xK λx hx=>?_).trans (P7 l);have:=h x hx;simp only[P6,YX,id];omega
theorem VW(a b:cq):dB (a++b)=dB a++dB b:=by simp[dB]
theorem U5(text:cq):dB (CP text)=mR text:=by
 unfold CP mR;rw[VW,VW,aeg (NG _ _)];simp[dB]
theorem W6(x:UInt8):∀c,repeatL [x] c=List.replicate c x
 |0=>rfl
 |c+1=>by rw[repeatL,W6 x c];rfl
theorem Rq{x:UInt8}{c:Nat}(h:c<=1000):wq n [x] (c:Int)=some (List.replicate c x):=by
 unfold wq;rw[cJ (by simp;omega),fB,W6]
theorem W7{sz:Nat}(x:sz<2^40){k:cq->Option cq}:∀(m j:Nat)(b:cq),j<=8->j<m->b.length+j<2^31->AI n m b (sz:Int) (8*(j:Int)-8) k=k (b++iQ (pg sz j))
 |0,j,b,h,a,u=>by omega
 |m+1,0,b,h,a,u=>by
  simp only[AI,gv];simp[pg,iQ]
 |m+1,j+1,b,h,a,u=>by
  have e:8*(((j+1:Nat):Int))-8=((8*j:Nat):Int):=by omega
  have y:ko .u64 (sz:Int) ((8*j:Nat):Int)=some (sh sz (8*j)):=rK (kd:=.u64) (by show 8*j<=64;omega);have A:cQ .i64 ((8*j:Nat):Int) 8=8*(j:Int)-8:=by rw[ij];omega
  rw[e];have c:(0:Int)<=((8*j:Nat):Int):=by omega
  simp only[AI,gv,c,fU,cL,y,A,cu];rw[fP (by simp[iQ];omega),cu,W7 x m j _ (by omega) (by omega) (by simp[iQ];omega)];simp[pg,iQ]
theorem Ww{k:List Int->Option cq}(y:2^41<=n):∀(m q:Nat)(h:List Int)(b:cq),h.length=8->64*q=b.length->b.length<2^31->q<m->AJ n m b h k=k (tE q h (dB b))
 |0,q,h,b,a,j,u,A=>by omega
 |m+1,0,h,b,a,j,u,A=>by
  have:b=[]:=nL.1 (by omega);subst this;simp only[AJ];rfl
 |m+1,q+1,h,b,a,j,u,A=>by
  have D:cD (dm b [])=true:=by
   have:b≠[]:=by rintro rfl;simp at j
   simp[dO,kF,this]
  have C:cp (cz h) 8=true:=by rw[en,cP,a];rfl
  have g2:∀x,fC (cp (cz (blk h x)) 8) (cp (cz h) 8)=true:=λx=>by rw[C,en,cP,J1];rfl
  have e:fg b 64 (eg b)=some (b.drop 64):=by
   unfold fg
   rw[fV,cJ (by omega)]
   congr 1
   rw[xN (by simp)]
   rfl
  simp only[AJ,D,cL,oa C,aaS a (show 64<=b.length by omega) u y,cu,oa (g2 _),e];rw[Ww y m q _ _ (J1 _ _) (by simp;omega) (by simp;omega) (by omega),tE];simp[dB,List.map_drop]
abbrev dg(x:Nat):UInt8:=([48,49,50,51,52,53,54,55,56,57,97,98,99,100,101,102]:cq).getD x 0
def hx:Nat->Nat->cq|0,_=>[]|k+1,x=>hx k (x/16)++[dg (x % 16)]
theorem U6:∀k,hx k 0=List.replicate k 48
 |0=>rfl
 |k+1=>by
  rw[hx,Nat.zero_div,U6 k,aik];rfl
theorem acy:∀(k f x:Nat),x<16^(k+1)->k+1<=f->List.replicate (k+1-(hexDs f x).length) 48++hexDs f x=hx (k+1) x/\(hexDs f x).length<=k+1:=by
 intro k;induction k with
 |zero=>
  intro f x e j;obtain⟨g,rfl⟩:∃g,f=g+1:=⟨f-1,by omega⟩;have a:x<16:=by simpa using e
  rw[hexDs,cJ a];constructor
  ·simp[hx,zS a]
  ·simp
 |succ k u=>
  intro f x e j;obtain⟨g,rfl⟩:∃g,f=g+1:=⟨f-1,by omega⟩
  by_cases a:x<16
  ·rw[hexDs,cJ a];constructor
   ·rw[hx,P1 a,U6,zS a];rfl
   ·simp
  ·have y:x/16<16^(k+1):=by rw[tZ] at e;omega
   obtain⟨A,C⟩:=u g (x/16) y (by omega);rw[hexDs,cK a];constructor
   ·rw[hx,<-A,eS,tY,show k+1+1-((hexDs g (x/16)).length+1)=k+1-(hexDs g (x/16)).length by omega,jW]
   ·simp;omega
theorem agc(x k:Nat):(x:Int).fdiv (2^k)=((x/2^k:Nat):Int):=by
 rw[Int.fdiv_eq_ediv_of_nonneg _ (by exact_mod_cast xD _)]
 exact_mod_cast rfl
theorem Tv(x:Nat):u7 (x:Int)=dg x:=rfl
theorem acz{x:Nat}(h:x<4294967296):((w8 (x:Int)).map kZ).flatten=hx 8 x:=by
 have e:∀k,eK .u8 (sh (x:Int) k)=((x/2^k % 256:Nat):Int):=λk=>by rw[K1,sh,agc];omega
 have j:eK .u8 (x:Int)=((x % 256:Nat):Int):=by rw[K1];omega
 simp only[w8,e,j,lk,sC,Qj,List.flatten_nil,kZ,hx];have d:∀a:Nat,u7 ((a:Int)/16)=dg (a/16):=λa=>by rw[<-Tv];congr 1
 have m:∀a:Nat,u7 ((a:Int) % 16)=dg (a % 16):=λa=>by rw[<-Tv];congr 1
 simp only[d,m];simp only[ic,pI,G7]
 congr 1
 ·congr 1;omega
 congr 1
 ·congr 1;omega
 congr 1
 ·congr 1;omega
 congr 1
 ·congr 1;omega
 congr 1
 ·congr 1;omega
 congr 1
 ·congr 1;omega
 congr 1
 ·congr 1;omega
 congr 1
 ·congr 1;omega
theorem agd{x:Int}(y:0<=x)(D:x<4294967296){R:Type}(f:cq->Option R):(ck (ya n (eK .u64 x) 16) λj=>ck (wq n [48] (cQ .i64 8 (eg j))) λu=>ck (cV u j) f)=f ((w8 x).map kZ).flatten:=by
 obtain⟨a,rfl⟩:=gD y;have A:a<4294967296:=by omega
 have e:eK .u64 (a:Int)=a:=by
  unfold eK;rw[show IntKind.u64.wrap (a:Int)=(a:Int) % 18446744073709551616 by simp[IntKind.wrap,IntKind.bits,IntKind.signed]];omega
 obtain⟨C,E⟩:=acy 7 16 a (by omega) (by omega);rw[show ya n (eK .u64 (a:Int)) 16=some (hexDs 16 a) by
  rw[e];unfold ya;rw[cJ ⟨rfl,by omega,by omega⟩];rfl];simp only[cu,fV];rw[show cQ .i64 8 ((hexDs 16 a).length:Int)=((8-(hexDs 16 a).length:Nat):Int) by rw[ij];omega,Rq (by omega),cu,fP (by simp;omega),cu,acz A,<-C]
theorem agf{h:List Int}(F:h.length=8)(y:∀x∈h,0<=x/\x<4294967296)(H:2^41<=n){k:cq->Option cq}:yl n n h 0 [] k=k ((List.range 8).map λi=>((w8 (gI h i)).map kZ).flatten).flatten:=by
 have e:∀j,(((List.range j).map λi=>((w8 (gI h i)).map kZ).flatten).flatten).length=8*j:=λj=>by
  rw[uw (c:=8) (λx=>by rw[uw (c:=2) (λ_=>rfl)];rfl),Qk]
 have u:∀m i:Nat,i<=8->8<m+i->yl n m h i (((List.range i).map λi=>((w8 (gI h i)).map kZ).flatten).flatten) k=k (((List.range 8).map λi=>((w8 (gI h i)).map kZ).flatten).flatten):=by
  intro m
  induction m with
  |zero=>intro i A C;omega
  |succ m D=>
   intro i A C
   by_cases I:i<8
   ·have c:cA (i:Int) 8=true:=by rw[dv];simp;omega
    have hx:=y _ (OU (l:=h) (i:=i) (by omega));have E:(((w8 (gI h i)).map kZ).flatten).length=8:=by rw[uw (c:=2) (λ_=>rfl)];rfl
    have a:=e i;simp only[yl,c,cL,oa c,iZ (l:=h) (show i<h.length by omega),cu];rw[agd hx.1 hx.2];unfold EX;rw[cJ (by rw[a,E];omega),cu,dE (by omega)];have:((List.range i).map λi=>((w8 (gI h i)).map kZ).flatten).flatten++((w8 (gI h i)).map kZ).flatten=((List.range (i+1)).map λi=>((w8 (gI h i)).map kZ).flatten).flatten:=by
     rw[Qh,mG,Ql];simp
    rw[this];exact D (i+1) (by omega) (by omega)
   ·have:i=8:=by omega
    subst this;simp only[yl];rfl
 exact u n 0 (by omega) (by omega)
theorem aeh{h b:List Int}:∀x∈blk h b,0<=x/\x<4294967296:=λx hx=>by
 simp only[blk,gR] at hx;obtain⟨i,_,rfl⟩:=hx;unfold cw;rw[F7];omega
theorem Tw:∀(q:Nat)(h b:List Int),(∀x∈h,0<=x/\x<4294967296)->∀x∈tE q h b,0<=x/\x<4294967296|0,_,_,h=>h|q+1,h,b,_=>Tw q _ _ aeh
theorem aaT(l:List (List Int)):(l.map λw=>(w.map kZ).flatten).flatten=(l.flatten.map kZ).flatten:=by
 induction l with
 |nil=>rfl
 |cons x l a=>rw[lk,Qj,a,Qj,mG,Ql]
theorem acA{text:cq}(H:text.length<2^30)(j:2^41<=n):IM n text=some (lz text):=by
 unfold IM;have y:cQ .i64 119 ((text.length % 64:Nat):Int)=((119-text.length % 64:Nat):Int):=by rw[ij];omega
 have I:qe text.length<64:=by unfold qe;omega
 rw[fV,OW,cu,y,OW,cu];rw[show((119-text.length % 64) % 64)=qe text.length from rfl,Rq (by omega),cu,fP (by simp;omega),cu,fP (by simp;omega),cu];have A:ez .u64 (eK .u64 (text.length:Int)) 8=((text.length*8:Nat):Int):=by
  have w:∀x,IntKind.u64.wrap x=x % 18446744073709551616:=λx=>by simp[IntKind.wrap,IntKind.bits,IntKind.signed]
  unfold ez eK
  rw[w,w];omega
 rw[A];have C:=λk=>W7 (n:=n) (sz:=text.length*8) (by omega) (k:=k) n 8 (text++([128]++List.replicate (qe text.length) 0)) (by omega) (by omega) (by simp;omega);refine(C _).trans ?_;have a:text++([128]++List.replicate (qe text.length) 0)++iQ (pg ((text.length*8:Nat):Int) 8)=CP text:=by simp[CP]
 rw[a];have D:(CP text).length=(mR text).length:=by rw[<-U5];simp[dB]
 have E:=Tt text;refine(oa rfl _).trans ?_;refine(oa rfl _).trans ?_;have F:=λk=>Ww (n:=n) (k:=k) j n ((mR text).length/64) GS (CP text) rfl (by omega) (by omega) (by omega);refine(F _).trans ?_;rw[U5];have u:(tE ((mR text).length/64) GS (mR text)).length=8:=NH _ _ _ rfl;refine(oa (by rw[en,cP,u];rfl) _).trans ?_;have e:∀x∈GS,0<=x/\x<4294967296:=by decide
 refine(agf u (Tw _ _ _ e) j).trans ?_;show some _=_;unfold lz K0;rw[<-aaT,Dc];rfl
end
end
section
def vl(x:UInt8):List cq->List cq|[]=>[[x]]|h::t=>(x::h)::t
def dr(c:UInt8):cq->List cq
 |[]=>[[]]
 |x::a=>if x=c then[]::dr c a else vl x (dr c a)
theorem Ft(c:UInt8):∀s,dr c s≠[]
 |[]=>by simp[dr]
 |x::a=>by
  unfold dr;split
  ·simp
  ·cases dr c a<;>simp[vl]
theorem Jl(c:UInt8):∀s,(dr c s).length<=s.length+1
 |[]=>by simp[dr]
 |x::a=>by
  have:=Jl c a;unfold dr;split
  ·simp;omega
  ·cases h:dr c a with
   |nil=>simp[vl]
   |cons y e=>rw[h] at this;simp[vl] at this⊢;omega
def zx(a:cq):List cq->List cq|[]=>[a]|h::t=>(a++h)::t
theorem acB(a:cq)(x:UInt8)(l:List cq):zx a (vl x l)=zx (a++[x]) l:=by
 cases l<;>simp[zx,vl]
theorem Tx{l:List cq}(h:l≠[]):zx [] l=l:=by
 cases l with
 |nil=>exact absurd rfl h
 |cons x l=>rfl
theorem MZ{c:UInt8}:∀{s:cq},c∉s->dr c s=[s]
 |[],_=>rfl
 |x::a,h=>by
  simp only[eo,Da] at h;rw[dr,cK (oy h.1),MZ h.2];rfl
theorem Oy{c:UInt8}{b:cq}:∀{a:cq},c∉a->dr c (a++c::b)=a::dr c b
 |[],_=>by rw[ic,dr,cJ rfl]
 |x::e,h=>by
  simp only[eo,Da] at h;rw[pI,dr,cK (oy h.1),Oy h.2];rfl
theorem Ma{c:UInt8}:∀{s:cq},c∈s->∃a b,s=a++c::b/\c∉a
 |[],h=>by simp at h
 |x::j,h=>by
  by_cases hx:x=c
  ·exact⟨[],j,by rw[hx];rfl,by simp⟩
  ·rcases eo.1 h with e|h
   ·exact absurd e.symm hx
   ·obtain⟨a,b,e,u⟩:=Ma h;exact⟨x::a,b,by rw[e];rfl,by simp[oy hx,u]⟩
theorem R9(c:UInt8)(s:cq):(c∉s/\dr c s=[s])\/∃a b,s=a++c::b/\c∉a/\dr c s=a::dr c b:=by
 by_cases h:c∈s
 ·obtain⟨a,b,e,j⟩:=Ma h;exact .inr ⟨a,b,e,j,by rw[e];exact Oy j⟩
 ·exact .inl ⟨h,MZ h⟩
theorem uo{c:UInt8}:∀{s w:cq},w∈dr c s->w.length<=s.length:=by
 intro s;induction h:s.length using Nat.strongRecOn generalizing s with
 |_ k u=>
  intro w j;rcases R9 c s with⟨x,e⟩|⟨a,b,e,x,y⟩
  ·rw[e,fM] at j;subst j;omega
  ·rw[y] at j;have A:s.length=a.length+b.length+1:=by rw[e];simp;omega
   rcases eo.1 j with rfl|j
   ·omega
   ·have:=u b.length (by omega) rfl j;omega
def eQ(c:UInt8):List cq->cq|[]=>[]|[a]=>a|a::b::l=>a++c::eQ c (b::l)
theorem BU{c:UInt8}:∀{l:List cq},l≠[]->(∀w∈l,c∉w)->dr c (eQ c l)=l
 |[],h,_=>absurd rfl h
 |[a],_,h=>MZ (h a (by simp))
 |a::b::l,_,h=>by
  rw[eQ,Oy (h a (by simp)),BU (by simp) λw e=>h w (by simp[eo.1 e])]
theorem acC(c:UInt8):∀s:cq,eQ c (dr c s)=s:=by
 intro s;induction h:s.length using Nat.strongRecOn generalizing s with
 |_ k u=>
  rcases R9 c s with⟨y,e⟩|⟨a,b,e,y,A⟩
  ·rw[e];rfl
  ·rw[A];have:=u b.length (by rw[<-h,e];simp;omega) b rfl;cases j:dr c b with
   |nil=>exact absurd j (Ft c b)
   |cons x l=>rw[eQ,<-j,this,e]
theorem aaU{c b:UInt8}(h:b≠c)(l:cq):∀k,splitK [c] 0 k (b::l)=vl b (splitK [c] 0 k l)
 |0=>rfl
 |k+1=>by
  have x:([c]:List UInt8).isPrefixOf (b::l)=false:=by simp[List.isPrefixOf,oy h]
  have a:index (b::l) [c]=if index l [c]==-1 then-1 else index l [c]+1:=by rw[index,x];simp
  have y:=index_ge l [c];unfold splitK
  by_cases u:index l [c]=-1
  ·have:(index l [c]==-1)=true:=pE.2 u;rw[a,this];simp[vl]
  ·have A:(index l [c]==-1)=false:=by rw[YZ];exact u
   have j:(index l [c]+1==-1)=false:=by rw[YZ];omega
   rw[a,A];simp only[iN,iD,j,vl,q6];have e:(index l [c]+1).toNat=(index l [c]).toNat+1:=by omega
   rw[e,Y0];simp
theorem NI(c:UInt8):∀s:cq,Lib.split s [c]=dr c s
 |[]=>by rw[Lib.split,count_one];rfl
 |x::a=>by
  by_cases h:x=c
  ·subst h;rw[Lib.split,count_cons_eq,vr,splitK];have:index (x::a) [x]=0:=by rw[index];simp[List.isPrefixOf]
   rw[this];simp only[dr,gr];have:=NI x a;rw[Lib.split] at this;simp[this]
  ·rw[Lib.split,count_cons_ne x c a h,aaU h,dr,cK h];have:=NI c a;rw[Lib.split] at this;rw[this]
section
variable{n:Nat}
theorem Jm{c:UInt8}{s:cq}(a:s.length<2^31):qA n s [c]=some (dr c s):=by
 unfold qA;rw[cJ (by simp;omega),NI]
theorem OX{a b:UInt8}:((a.toNat:Int)=b.toNat)↔a=b:=by
 constructor
 ·intro h;exact YY.1 (by omega)
 ·rintro rfl;rfl
def Yr:cq->List cq->Int->Option (List cq):=λu e a=>ck (fg u a (eg u)) λx=>ck (cT 16 e [x]) λj=>some j
theorem PH{s:cq}{c:UInt8}(x:s.length<2^30):∀(m i f:Nat)(a:List cq),i<=s.length->f<=i->s.length<m+i->a.length<=i->yz n m s (c.toNat:Int) a f i Yr=some (a++zx ((s.drop f).take (i-f)) (dr c (s.drop i)))
 |0,i,f,a,C,D,E,F=>by omega
 |m+1,i,f,a,C,D,E,F=>by
  by_cases y:i<s.length
  ·have j:(i:Int)<s.length:=by omega
   simp only[yz,dv,fV,j,fU,cL,uU y,cu,en,OX,dE (show i<2^31 by omega)];have H:∀k,k=i-f->(s.drop f).take k++[s[i]]=(s.drop f).take (k+1):=λk I=>by
    subst I
    have u:i-f<(s.drop f).length:=by rw[mF];omega
    rw[mi u,YQ]
    congr 3;omega
   rw[kR y,dr]
   by_cases A:s[i]=c
   ·have e:fg s (f:Int) (i:Int)=some ((s.drop f).take (i-f)):=by
      unfold fg
      rw[cJ (by omega),fB,fB]
    simp only[A,fU,cL,e,cu,gr];rw[fH (by simp;omega) (by omega),cu,PH x m (i+1) (i+1) _ (by omega) (by omega) (by omega) (by simp;omega)];rw[vq,xF,Tx (Ft c _)];simp[zx]
   ·simp only[A,gF,cN,iD];rw[PH x m (i+1) f a (by omega) (by omega) (by omega) (by omega),acB,H _ rfl,show i+1-f=i-f+1 by omega]
  ·have:i=s.length:=by omega
   subst this;have j:¬ ((s.length:Int)<s.length):=by omega
   have e:fg s (f:Int) (s.length:Int)=some ((s.drop f).take (s.length-f)):=by
    unfold fg
    rw[cJ (by omega),fB,fB]
   simp only[yz,dv,fV,j,gF,cN,Yr,e,cu];rw[fH (by simp;omega) (by omega),cu,q7];simp[dr,zx]
theorem B9{s:cq}{c:UInt8}(a:s.length<2^30)(e:2^41<=n):nR n s (c.toNat:Int)=some (dr c s):=by
 unfold nR;have:=PH (n:=n) (c:=c) a n 0 0 [] (by omega) (by omega) (by omega) (by simp);refine this.trans ?_;rw[vq,xF,Tx (Ft c _)];rfl
def eL(c:UInt8):cq->cq×cq×Bool
 |[]=>([],[],false)
 |x::a=>if x=c then([],a,true) else(x::(eL c a).1,(eL c a).2)
theorem U7{c:UInt8}:∀{s:cq},c∉s->eL c s=(s,[],false)
 |[],_=>rfl
 |x::a,h=>by
  simp only[eo,Da] at h;rw[eL,cK (oy h.1),U7 h.2]
theorem BV{c:UInt8}{b:cq}:∀{a:cq},c∉a->eL c (a++c::b)=(a,b,true)
 |[],_=>by rw[ic,eL,cJ rfl]
 |x::e,h=>by
  simp only[eo,Da] at h;rw[pI,eL,cK (oy h.1),BV h.2]
theorem H8(c:UInt8)(s:cq):(c∉s/\eL c s=(s,[],false))\/∃a b,s=a++c::b/\c∉a/\eL c s=(a,b,true):=by
 by_cases h:c∈s
 ·obtain⟨a,b,e,j⟩:=Ma h;exact .inr ⟨a,b,e,j,by rw[e];exact BV j⟩
 ·exact .inl ⟨h,U7 h⟩
theorem U8(c:UInt8):∀s:cq,Lib.cut s [c]=eL c s
 |[]=>by unfold Lib.cut;rw[index];rfl
 |x::a=>by
  have y:=U8 c a;have A:=index_ge a [c]
  by_cases h:x=c
  ·subst h;have:index (x::a) [x]=0:=by rw[index];simp[List.isPrefixOf]
   unfold Lib.cut;rw[this];simp[eL]
  ·have C:([c]:List UInt8).isPrefixOf (x::a)=false:=by simp[List.isPrefixOf,oy h]
   have j:index (x::a) [c]=if index a [c]==-1 then-1 else index a [c]+1:=by rw[index,C];simp
   rw[eL,cK h,<-y];unfold Lib.cut;rw[j]
   by_cases u:index a [c]=-1
   ·have:(index a [c]==-1)=true:=pE.2 u;rw[this,u];simp
   ·have D:(index a [c]==-1)=false:=by rw[YZ];exact u
    rw[D];simp only[iN,iD];rw[cJ (by omega),cJ (by omega)];have e:(index a [c]+1).toNat=(index a [c]).toNat+1:=by omega
    rw[e,Y0];simp
theorem U9{s:cq}{c:UInt8}(a:s.length<2^31):zk n s [c]=some (eL c s):=by
 unfold zk;rw[cJ (by omega),U8]
end
end
section
theorem Rr(c:UInt8):∀(l:cq)(a:Nat),parseUint10 a (l++[c])=match parseUint10 a l with|.ok v=>parseUint10 v [c]|e=>e
 |[],a=>by simp[parseUint10]
 |x::l,a=>by
  rw[pI,parseUint10,parseUint10];split
  ·split
   ·rfl
   ·split
    ·rfl
    ·exact Rr c l _
  ·rfl
theorem Sa:∀u:Nat,u<1000000000000000000->parseUint10 0 (decDigits u)=.ok u:=by
 intro u;induction u using Nat.strongRecOn with
 |_ u a=>
  intro e
  by_cases h:u<10
  ·rw[oH h];simp only[parseUint10,y8 h];rw[cJ (by omega),cK (by omega),cK (by omega)]
   congr 1;omega
  ·rw[rH h,Rr,a _ (by omega) (by omega)];simp only[parseUint10,y8 (show u % 10<10 by omega)];rw[cJ (by omega),cK (by omega),cK (by omega)]
   congr 1;omega
theorem acD{u:Nat}(h:u<1000000000000000000):atoiAll (decDigits u)=.ok u:=by
 have e:parseMag (decDigits u)=.ok u:=by unfold parseMag;rw[cK (uI u),Sa u h]
 cases a:decDigits u with
 |nil=>exact absurd a (uI u)
 |cons c r=>
  have:=vW u c (by rw[a];simp);rw[atoiAll_plain c r (by omega) (by omega),<-a,e];unfold signless;simp only;rw[cK (by omega)]
theorem M0{x:Int}(e:-1000000000000000000<x)(j:x<1000000000000000000):atoiAll (itoa x)=.ok x:=by
 by_cases c:0<=x
 ·obtain⟨u,rfl⟩:=gD c;rw[nh,acD (by omega)]
 ·obtain⟨u,rfl⟩:∃u:Nat,x=-(u:Int):=⟨x.natAbs,by omega⟩;rw[itoa_neg (by omega),atoiAll_minus];have a:parseMag (decDigits u)=.ok u:=by unfold parseMag;rw[cK (uI u),Sa u (by omega)]
  rw[a];unfold signed;simp only;rw[cK (by omega)]
section
variable{n:Nat}
theorem DO{s:cq}(y:s.length<2^40):∃v b,wz n s=some (v,b)/\(b=true->s=itoa v/\-9223372036854775808<=v/\v<=9223372036854775807)/\∀u:Int,-1000000000000000000<u->u<1000000000000000000->s=itoa u->b=true/\v=u:=by
 unfold wz FP;rw[cJ (by omega),cu];cases h:atoiAll s with
 |ok v=>
  have x:=atoiAll_bounds h;refine⟨v,dm (itoa v) s,?_,λe=>?_,λu a j e=>?_⟩
  ·simp only[dO,gE,cL];unfold oM;rw[cJ (by omega),cu]
  ·simp only[kF,dF] at e;exact⟨e.symm,x⟩
  ·rw[e,M0 a j] at h;cases h;exact⟨by simp[kF,e],rfl⟩
 |range=>exact⟨atoiSat s,false,rfl,λe=>(by cases e),λu a j e=>by rw[e,M0 a j] at h;cases h⟩
 |_=>exact⟨0,false,rfl,λe=>(by cases e),λu a j e=>by rw[e,M0 a j] at h;cases h⟩
def jM(i:Nat)(r:cq):cq:=decDigits i++[58]++decDigits r.length++[58]++r
def ei(i:Nat)(r:cq):cq:=jM i r++(lz (jM i r)).take 12++[59]
theorem Sb(i:Nat)(r x:cq):jM i r++x=decDigits i++58::(decDigits r.length++58::(r++x)):=by simp[jM]
theorem ry(i:Nat)(r:cq):(ei i r).length=(decDigits i).length+(decDigits r.length).length+r.length+15:=by
 simp[ei,jM,IX];omega
theorem KO(u:Nat):(58:UInt8)∉decDigits u:=λh=>by
 have:=vW u _ h;have:(58:UInt8).toNat=58:=rfl;omega
theorem we{u:Nat}(h:u<1000000000000):(decDigits u).length<=12:=Bq 12 u (by omega) (by omega)
theorem Tz{i:Nat}{r:cq}(a:i<1000000000000)(x:r.length<2^29)(e:2^41<=n):DY n i r=some (ei i r):=by
 have y:=we a;have A:=we (u:=r.length) (by omega);have C:=IX (jM i r);have j:(jM i r).length<2^30:=by simp[jM];omega
 unfold DY;rw[OV (by omega) (by omega) (by omega),nh,cu,fP (by simp;omega),cu,fV,OV (by omega) (by omega) (by omega),nh,cu,fP (by simp;omega),cu,fP (by simp;omega),cu,fP (by simp;omega),cu];rw[show decDigits i++[58]++decDigits r.length++[58]++r=jM i r from rfl,ZY j e,cu];rw[show fg (lz (jM i r)) 0 12=some ((lz (jM i r)).take 12) by unfold fg;rw[cJ (by omega)];rfl,cu,fP (by simp;omega),cu,fP (by simp;omega),cu];rfl
theorem acE{i:Nat}{r:cq}(a:i<1000000000000)(y:r.length<2^29)(j:2^41<=n):JU n i r=some (ei i r):=by
 have A:=we a;have C:=we (u:=r.length) (by omega);have D:=IX (jM i r);have x:(jM i r).length<2^30:=by simp[jM];omega
 have e:∀u:Nat,u<1000000000000->oM n (u:Int)=some (decDigits u):=λu E=>by unfold oM;rw[cJ (by omega),nh]
 unfold JU;rw[e i a,cu,fP (by simp;omega),cu,fV,e _ (by omega),cu,fP (by simp;omega),cu,fP (by simp;omega),cu,fP (by simp;omega),cu];rw[show decDigits i++[58]++decDigits r.length++[58]++r=jM i r from rfl,acA x j,cu];rw[show fg (lz (jM i r)) 0 12=some ((lz (jM i r)).take 12) by unfold fg;rw[cJ (by omega)];rfl,cu,fP (by simp;omega),cu,fP (by simp;omega),cu];rfl
def il(i:Nat)(s:cq):Option cq:=
 let a:=eL 58 s
 let b:=eL 58 a.2.1
 if a.2.2=true/\b.2.2=true/\0<=ea b.1/\ea b.1<=b.2.1.length/\ei i (b.2.1.take (ea b.1).toNat)<+:s then some (b.2.1.take (ea b.1).toNat) else none
theorem ux{i:Nat}{s r:cq}(a:s.length<1000000000000):il i s=some r↔ei i r<+:s:=by
 constructor
 ·intro h;unfold il at h;simp only at h;split at h
  ·rename_i j;cases h;exact j.2.2.2.2
  ·cases h
 ·rintro⟨y,rfl⟩;have u:r.length<1000000000000:=by
   have:=ry i r
   simp at a;omega
  have e:ei i r++y=decDigits i++58::(decDigits r.length++58::(r++((lz (jM i r)).take 12++[59]++y))):=by
   rw[ei,jW,jW,Sb];simp
  have x:eL 58 (ei i r++y)=(decDigits i,decDigits r.length++58::(r++((lz (jM i r)).take 12++[59]++y)),true):=by rw[e];exact BV (KO i)
  have A:eL 58 (decDigits r.length++58::(r++((lz (jM i r)).take 12++[59]++y)))=(decDigits r.length,r++((lz (jM i r)).take 12++[59]++y),true):=BV (KO _);have C:ea (decDigits r.length)=r.length:=BT u;have D:(r++((lz (jM i r)).take 12++[59]++y)).take r.length=r:=by simp
  unfold il;simp only[x,A,C,fB,D];rw[cJ ⟨trivial,trivial,by omega,by simp;omega,⟨y,rfl⟩⟩]
theorem wA{i:Nat}{s r:cq}(a:s.length<1000000000000)(h:il i s=some r):(ei i r).length<=s.length/\r.length+15<=s.length:=by
 have:=((ux a).1 h).length_le;have:=ry i r;omega
def eW:Nat->Nat->cq->List cq×Nat
 |0,_,_=>([],0)
 |k+1,i,s=>match il i s with
  |none=>([],0)
  |some r=>(r::(eW k (i+1) (s.drop (ei i r).length)).1,(ei i r).length+(eW k (i+1) (s.drop (ei i r).length)).2)
def ed(s:cq):List cq×Nat:=eW (s.length+1) 0 s
theorem Ec:∀(k a i:Nat)(s:cq),s.length<1000000000000->s.length<k->s.length<a->eW k i s=eW a i s
 |0,_,_,_,_,h,_=>by omega
 |_,0,_,_,_,_,h=>by omega
 |k+1,a+1,i,s,e,j,u=>by
  unfold eW;cases h:il i s with
  |none=>rfl
  |some r=>
   have:=wA e h;have:=ry i r;simp only;rw[Ec k a (i+1) _ (by simp;omega) (by simp;omega) (by simp;omega)]
theorem Sc:∀(k i:Nat)(s:cq),s.length<1000000000000->(eW k i s).2<=s.length/\15*(eW k i s).1.length<=(eW k i s).2
 |0,_,_,_=>by simp[eW]
 |k+1,i,s,a=>by
  unfold eW;cases h:il i s with
  |none=>simp
  |some r=>
   have e:=wA a h;have j:=ry i r;have:=Sc k (i+1) (s.drop (ei i r).length) (by simp;omega);simp only[mF,fY] at this⊢;omega
theorem rB{s:cq}(a:s.length<1000000000000):(ed s).2<=s.length/\15*(ed s).1.length<=(ed s).2:=Sc _ _ _ a
theorem Se:∀(k i:Nat)(s x:cq),(s++x).length<1000000000000->(eW k i s).1<+:(eW k i (s++x)).1
 |0,_,_,_,_=>by simp[eW]
 |k+1,i,s,x,a=>by
  have e:s.length<1000000000000:=by simp at a;omega
  unfold eW;cases h:il i s with
  |none=>simp
  |some r=>
   have j:=(ux e).1 h;have u:il i (s++x)=some r:=(ux a).2 (j.trans (qZ s x));rw[u];simp only;have y:=j.length_le;rw[ail y];exact List.cons_prefix_cons.2 ⟨rfl,Se k (i+1) _ x (by simp at a⊢;omega)⟩
theorem acF(s x:cq)(e:(s++x).length<1000000000000):(ed s).1<+:(ed (s++x)).1:=by
 unfold ed;have a:s.length<1000000000000:=by simp at e;omega
 rw[Ec (s.length+1) ((s++x).length+1) 0 s a (by omega) (by simp;omega)];exact Se _ _ _ _ e
theorem Sf:∀(k i:Nat)(s r:cq),(s++ei (i+(eW k i s).1.length) r).length<1000000000000->s.length<k->(eW k i s).2=s.length->eW (k+(ei (i+(eW k i s).1.length) r).length) i (s++ei (i+(eW k i s).1.length) r)=((eW k i s).1++[r],s.length+(ei (i+(eW k i s).1.length) r).length)
 |0,_,_,_,_,h,_=>by omega
 |k+1,i,s,r,a,I,x=>by
  have u:s.length<1000000000000:=by simp at a;omega
  cases h:il i s with
  |none=>
   have e:eW (k+1) i s=([],0):=by unfold eW;rw[h]
   rw[e] at x a⊢;have:s=[]:=nL.1 x.symm;subst this;simp only[jx,q6,ic,ia] at a⊢;have D:=ry i r;have y:il i (ei i r)=some r:=(ux a).2 (sF _);rw[show k+1+(ei i r).length=(k+(ei i r).length)+1 by omega,eW,y];simp only[q7];have E:∀m j,eW m j []=([],0):=λm j=>by
    cases m with
    |zero=>rfl
    |succ m=>
     unfold eW
     have:il j []=none:=rfl
     rw[this]
   rw[E];rfl
  |some q=>
   have F:=wA u h;have D:=ry i q;have e:eW (k+1) i s=(q::(eW k (i+1) (s.drop (ei i q).length)).1,(ei i q).length+(eW k (i+1) (s.drop (ei i q).length)).2):=by
    conv=>lhs;unfold eW
    rw[h]
   generalize A:eW k (i+1) (s.drop (ei i q).length)=R at e;rw[e] at x a⊢;simp only[fY] at x a⊢;have H:i+(R.1.length+1)=i+1+R.1.length:=by omega
   rw[H] at a⊢;have C:=Sf k (i+1) (s.drop (ei i q).length) r (by rw[A];simp at a⊢;omega) (by simp;omega) (by rw[A];simp;omega);rw[A] at C;have y:il i (s++ei (i+1+R.1.length) r)=some q:=(ux a).2 (((ux u).1 h).trans (qZ _ _));rw[show k+1+(ei (i+1+R.1.length) r).length=(k+(ei (i+1+R.1.length) r).length)+1 by omega]
   conv=>lhs;unfold eW
   rw[y];simp only;rw[ail F.1,C];simp only[pI,eE,vn,mF];omega
theorem acG{s r:cq}(a:(s++ei (ed s).1.length r).length<1000000000000)(e:(ed s).2=s.length):ed (s++ei (ed s).1.length r)=((ed s).1++[r],s.length+(ei (ed s).1.length r).length):=by
 unfold ed at*;have:=Sf (s.length+1) 0 s r (by simpa using a) (by omega) e;simp only[ia] at this;rw[<-this,eS]
 congr 1
 omega
end
end
section
section
variable{n:Nat}
theorem KP{i j:Nat}(h:i+j<4611686018427387904):cw .i64 (i:Int) j=((i+j:Nat):Int):=by rw[uH];omega
def FR(s:cq)(a:Nat):Int×Int:=if(eL 58 (s.drop a)).2.2=true then(ea (eL 58 (s.drop a)).1,((a+(eL 58 (s.drop a)).1.length+1:Nat):Int)) else(-1,(s.length:Int))
theorem VX{s:cq}(I:s.length<2^30)(D:2^41<=n):∀(m f i:Nat),f<=i->i<=s.length->s.length<m+i->Ao n m s i f (λE a e=>cond (cp a (eg E)) (some (-1,a)) (ck (fg E e a) λJ=>ck (mq n J) λM=>some (M,cw .i64 a 1)))=some (if(eL 58 (s.drop i)).2.2=true then(ea ((s.drop f).take (i-f)++(eL 58 (s.drop i)).1),((i+(eL 58 (s.drop i)).1.length+1:Nat):Int)) else(-1,(s.length:Int)))
 |0,f,i,N,P,Q=>by omega
 |m+1,f,i,N,P,Q=>by
  by_cases F:i<s.length
  ·have j:cA (i:Int) (eg s)=true:=by rw[dv,fV];simp;omega
   have R:(s.drop f).take (i-f)++[s[i]]=(s.drop f).take (i+1-f):=by
    have u:i-f<(s.drop f).length:=by rw[mF];omega
    rw[show i+1-f=i-f+1 by omega,mi u,YQ]
    congr 3;omega
   rw[Ao,j,cL,uU F,cu,kR F,eL];have x:cp (s[i].toNat:Int) 58=decide (s[i]=58):=by
    rw[en]
    have:=@OX s[i] 58
    have y:((58:UInt8).toNat:Int)=58:=rfl
    rw[y] at this
    simp[this]
   rw[x]
   by_cases H:s[i]=58
   ·have A:cp (i:Int) (eg s)=false:=by rw[en,fV];simp;omega
    have S:fg s (f:Int) (i:Int)=some ((s.drop f).take (i-f)):=by
     unfold fg
     rw[cJ (by omega),fB,fB]
    simp only[H,fU,dO,eN,cN,A,S,cu,uJ D,gr,dE (show i<2^31 by omega)];simp
   ·simp only[H,gF,dO,gE,cL,iD];rw[dE (by omega),VX I D m f (i+1) (by omega) (by omega) (by omega),<-R];simp only[fY,jW,xI];split
    ·congr 3;omega
    ·rfl
  ·have:i=s.length:=by omega
   subst this;have j:cA (s.length:Int) (eg s)=false:=by rw[dv,fV];simp
   have C:cp (s.length:Int) (eg s)=true:=by rw[en,fV];simp
   rw[Ao,j,cN,C,cL,q7];rfl
theorem NJ{s:cq}{i:Nat}(a:s.length<2^30)(e:i<=s.length)(j:2^41<=n):DX n s i=some (FR s i):=by
 unfold DX FR;have:=VX (n:=n) a j n i i (by omega) e (by omega);rw[vq,xF,ic] at this;exact this
theorem aei{s:cq}{at' i:Nat}(hl:s.length<2^28)(ha:at'<=s.length)(hi:i<1000000000000)(P:2^41<=n):IB n s at' i=some (match il i (s.drop at') with|some r=>(r,((at'+(ei i r).length:Nat):Int),true)|none=>([],(at':Int),false)):=by
 unfold IB;rw[NJ (by omega) ha P,cu];unfold FR;have S:(s.drop at').length=s.length-at':=by simp
 rcases H8 58 (s.drop at') with⟨U,Y⟩|⟨a,b,U,Y,I⟩
 ·have C:il i (s.drop at')=none:=by unfold il;simp[Y]
  rw[Y,C];simp only[iN,iD];have hU:=NJ (n:=n) (s:=s) (i:=s.length) (by omega) (by omega) P;rw[hU,cu];unfold FR;rw[q7];rfl
 ·rw[I];simp only[gr];have af:a.length+b.length+1=s.length-at':=by rw[<-S,U];simp;omega
  have J:s.drop (at'+a.length+1)=b:=by
   rw[show at'+a.length+1=at'+(a.length+1) by omega,<-q8,U]
   simp
  rw[NJ (by omega) (by omega) P,cu];unfold FR;rw[J];rcases H8 58 b with⟨Z,g2⟩|⟨d,body,Z,g2,Q⟩
  ·have C:il i (s.drop at')=none:=by unfold il;simp[I,g2]
   rw[g2,C];rfl
  ·rw[Q];simp only[gr];have aa:d.length+body.length+1=b.length:=by rw[Z];simp;omega
   have ah:=J0 d
   by_cases c1:ea d<0
   ·have C:il i (s.drop at')=none:=by
      unfold il
      simp only[I,Q]
      rw[cK (by omega)]
    rw[C,dv,show decide (ea d<0)=true by simpa using c1];rfl
   obtain⟨v,hv⟩:=gD (show 0<=ea d by omega);have ai:s.drop at'=decDigits v++58::body\/True:=.inr trivial;have cf:cA (ea d) 0=false:=by rw[dv];simp;omega
   rw[cf,cN];have D:cw .i64 (cw .i64 (((at'+a.length+1)+d.length+1:Nat):Int) (ea d)) 13=(((at'+a.length+1)+d.length+1+v+13:Nat):Int):=by
    rw[hv,KP (j:=v) (by omega)];exact KP (j:=13) (by omega)
   rw[D]
   by_cases c2:s.length<(at'+a.length+1)+d.length+1+v+13
   ·have C:il i (s.drop at')=none:=by
      cases h:il i (s.drop at') with
      |none=>rfl
      |some r=>
       exfalso
       have x:=(ux (by omega)).1 h
       obtain⟨y,hy⟩:=x
       have e:ei i r++y=decDigits i++58::(decDigits r.length++58::(r++((lz (jM i r)).take 12++[59]++y))):=by
        rw[ei,jW,jW,Sb];simp
       have R:eL 58 (s.drop at')=(decDigits i,decDigits r.length++58::(r++((lz (jM i r)).take 12++[59]++y)),true):=by rw[<-hy,e];exact BV (KO i)
       rw[I] at R
       have hb:b=decDigits r.length++58::(r++((lz (jM i r)).take 12++[59]++y)):=by injection R with _ R;injection R
       have A:eL 58 b=(decDigits r.length,r++((lz (jM i r)).take 12++[59]++y),true):=by rw[hb];exact BV (KO _)
       rw[Q] at A
       have hd:d=decDigits r.length:=by injection A
       have ab:body=r++((lz (jM i r)).take 12++[59]++y):=by injection A with _ A;injection A
       have aj:=(wA (by omega) h).2
       rw[hd,BT (by omega)] at hv
       have:body.length=r.length+(12+1+y.length):=by rw[ab];simp[IX];omega
       omega
    have ct:cA (eg s) (((at'+a.length+1)+d.length+1+v+13:Nat):Int)=true:=by rw[dv,fV];simp;omega
    rw[ct,C];rfl
   have ct:cA (eg s) (((at'+a.length+1)+d.length+1+v+13:Nat):Int)=false:=by rw[dv,fV];simp;omega
   rw[ct,cN];have E:s.drop ((at'+a.length+1)+d.length+1)=body:=by
    rw[show(at'+a.length+1)+d.length+1=(at'+a.length+1)+(d.length+1) by omega,<-q8,J,Z]
    simp
   have M:fg s (((at'+a.length+1)+d.length+1:Nat):Int) (cw .i64 (((at'+a.length+1)+d.length+1:Nat):Int) (ea d))=some (body.take v):=by
    rw[hv,iY (by omega) (by omega) (by omega) (by omega)]
    unfold fg
    rw[cJ (by omega),fB,E]
    congr 2
    omega
   rw[M,cu,Tz hi (by simp;omega) P,cu];have ak:=ry i (body.take v);have am:=we hi;have an:=we (u:=(body.take v).length) (by simp;omega);have ao:(body.take v).length=v:=by simp;omega
   have ht:((ea d).toNat)=v:=by omega
   have ad:il i (s.drop at')=if ei i (body.take v)<+:s.drop at' then some (body.take v) else none:=by
    unfold il
    simp only[I,Q,ht]
    by_cases x:ei i (body.take v)<+:s.drop at'
    ·rw[cJ ⟨trivial,trivial,by omega,by omega,x⟩,cJ x]
    ·rw[cK (λh=>x h.2.2.2.2),cK x]
   rw[ad];simp only[fV];have N:cw .i64 (at':Int) ((ei i (body.take v)).length:Int)=((at'+(ei i (body.take v)).length:Nat):Int):=by
    rw[iY (by omega) (by omega) (by omega) (by omega)];omega
   rw[N]
   by_cases c3:s.length<at'+(ei i (body.take v)).length
   ·have ae:¬ ei i (body.take v)<+:s.drop at':=λh=>by have:=h.length_le;omega
    have F:cA (s.length:Int) ((at'+(ei i (body.take v)).length:Nat):Int)=true:=by rw[dv];simp;omega
    rw[F,cK ae];rfl
   have F:cA (s.length:Int) ((at'+(ei i (body.take v)).length:Nat):Int)=false:=by rw[dv];simp;omega
   have H:fg s (at':Int) ((at'+(ei i (body.take v)).length:Nat):Int)=some ((s.drop at').take (ei i (body.take v)).length):=by
    unfold fg
    rw[cJ (by omega),fB,fB]
    congr 2;omega
   rw[F,cN,H,cu,kF]
   by_cases x:ei i (body.take v)<+:s.drop at'
   ·have:(s.drop at').take (ei i (body.take v)).length=ei i (body.take v):=(aim.1 x).symm;rw[this,cJ x];simp[dO]
   ·have:¬ (s.drop at').take (ei i (body.take v)).length=ei i (body.take v):=λh=>x (aim.2 h.symm);rw[cK x];simp[dO,this]
theorem Wx{s:cq}(x:s.length<2^28)(y:2^41<=n){k:Option (List cq×Int)}:∀(m a:Nat)(j:List cq),a<=s.length->s.length<m+a->15*j.length<=a->DI n m s j a k=some (j++(eW (s.length-a+1) j.length (s.drop a)).1,((a+(eW (s.length-a+1) j.length (s.drop a)).2:Nat):Int))
 |0,a,j,A,C,D=>by omega
 |m+1,a,j,A,C,D=>by
  rw[DI,cP,aei x A (by omega) y,cu];unfold eW;cases h:il j.length (s.drop a) with
  |none=>simp[dO]
  |some r=>
   have u:=wA (by simp;omega) h;have E:=ry j.length r;simp only[dO,eN,cN];rw[fH (by simp;omega) (by omega),cu,Wx x y m _ _ (by simp at u;omega) (by omega) (by simp;omega)];have e:eW (s.length-(a+(ei j.length r).length)+1) (j++[r]).length (s.drop (a+(ei j.length r).length))=eW (s.length-a) (j.length+1) ((s.drop a).drop (ei j.length r).length):=by
    rw[q8,eS,tY]
    exact Ec _ _ _ _ (by simp;omega) (by simp) (by simp at u⊢;omega)
   rw[e];simp only[jW,xI,oA]
theorem H9{s:cq}(a:s.length<2^28)(e:2^41<=n):yH n s=some ((ed s).1,((ed s).2:Int)):=by
 unfold yH ed;have:=Wx (n:=n) (k:=none) a e n 0 [] (by omega) (by omega) (by simp);simpa using this
def tF(s r:cq):Option cq:=if(ed s).2=s.length/\s.length+(ei (ed s).1.length r).length<=9000 then some (s++ei (ed s).1.length r) else none
theorem M1{s r:cq}(C:s.length<2^28)(F:r.length<2^28)(j:2^41<=n):wy n s r=some (match tF s r with|some x=>(x,true)|none=>(s,false)):=by
 have H:=rB (s:=s) (by omega);have I:=ry (ed s).1.length r;have D:=we (u:=(ed s).1.length) (by omega);have E:=we (u:=r.length) (by omega);unfold wy tF;rw[H9 C j,cu];dsimp only;rw[cP,Tz (by omega) (by omega) j,cu,fP (by omega),cu];simp only[en,fV,dO,dv,eS]
 by_cases y:(ed s).2=s.length
 ·have a:((ed s).2:Int)=s.length:=by omega
  by_cases A:s.length+(ei (ed s).1.length r).length<=9000
  ·have e:¬ (9000:Int)<((s.length+(ei (ed s).1.length r).length:Nat):Int):=by omega
   rw[cJ ⟨y,A⟩];simp only[a,fU,eN,cN,e,gF]
  ·have e:(9000:Int)<((s.length+(ei (ed s).1.length r).length:Nat):Int):=by omega
   rw[cK (λh=>A h.2)];simp only[a,fU,eN,cN,e,cL]
 ·have a:¬ ((ed s).2:Int)=s.length:=by omega
  rw[cK (λh=>y h.1)];simp only[a,gF,gE,cL]
theorem VY{s:cq}(hl:s.length<2^28)(hn:2^41<=n){k:List cq->Int->Option (List cq×Int)}:∀(m at':Nat)(x:List cq),at'<=s.length->s.length<m+at'->15*x.length<=at'->DJ n m s x at' k=k (x++(eW (s.length-at'+1) x.length (s.drop at')).1) ((at'+(eW (s.length-at'+1) x.length (s.drop at')).2:Nat):Int)
 |0,at',x,H,P,Q=>by omega
 |m+1,at',x,H,P,Q=>by
  have R:fg s (at':Int) (eg s)=some (s.drop at'):=by
   unfold fg
   rw[fV,cJ (by omega),fB,fB,xN (by simp)]
  have ad:(s.drop at').length=s.length-at':=by simp
  have y:il x.length (s.drop at')=none->k x (at':Int)=k (x++(eW (s.length-at'+1) x.length (s.drop at')).1) ((at'+(eW (s.length-at'+1) x.length (s.drop at')).2:Nat):Int):=λh=>by
   unfold eW
   rw[h]
   simp
  rw[DJ,R,cu,U9 (by omega),cu];have ab:(eL 58 (s.drop at')).2.1.length<=(s.drop at').length/\(eL 58 (eL 58 (s.drop at')).2.1).1.length<=(s.drop at').length/\(eL 58 (eL 58 (s.drop at')).2.1).2.1.length<=(s.drop at').length:=by
   rcases H8 58 (s.drop at') with⟨_,P⟩|⟨a,b,H,_,Q⟩
   ·rw[P];simp[eL]
   ·rw[Q];simp only;have:(s.drop at').length=a.length+b.length+1:=by rw[H];simp;omega
    rcases H8 58 b with⟨_,g2⟩|⟨d,j,g1,_,g3⟩
    ·rw[g2];simp;omega
    ·rw[g3];have:b.length=d.length+j.length+1:=by rw[g1];simp;omega
     simp only;omega
  rw[U9 (by omega),cu];obtain⟨v,b,I,S,U⟩:=DO (n:=n) (s:=(eL 58 (eL 58 (s.drop at')).2.1).1) (by omega);rw[I,cu];simp only[dO];cases Y:(eL 58 (s.drop at')).2.2 with
  |false=>
   simp only[gE,cL];exact y (by unfold il;simp[Y])
  |true=>
   cases cb:(eL 58 (eL 58 (s.drop at')).2.1).2.2 with
   |false=>
    simp only[gE,eN,cN,cL];exact y (by unfold il;simp[Y,cb])
   |true=>
    simp only[eN,cN];have ae:=J0 (eL 58 (eL 58 (s.drop at')).2.1).1;have A:(b=true/\0<=v/\v<=(eL 58 (eL 58 (s.drop at')).2.1).2.1.length->ea (eL 58 (eL 58 (s.drop at')).2.1).1=v)/\(0<=ea (eL 58 (eL 58 (s.drop at')).2.1).1->b=true/\v=ea (eL 58 (eL 58 (s.drop at')).2.1).1):=by
     constructor
     ·rintro⟨hb,F,H⟩;obtain⟨u,rfl⟩:=gD F;have e:=(S hb).1;rw[nh] at e;rw[e,BT (by omega)]
     ·intro F;rcases Eb (eL 58 (eL 58 (s.drop at')).2.1).1 with⟨u,e,_,e2,hu⟩|⟨e,_⟩
      ·have:=U u (by omega) (by omega) (by rw[nh];exact e);exact⟨this.1,by rw[this.2,e2]⟩
      ·omega
    have C:il x.length (s.drop at')=if 0<=ea (eL 58 (eL 58 (s.drop at')).2.1).1/\ea (eL 58 (eL 58 (s.drop at')).2.1).1<=(eL 58 (eL 58 (s.drop at')).2.1).2.1.length/\ei x.length ((eL 58 (eL 58 (s.drop at')).2.1).2.1.take (ea (eL 58 (eL 58 (s.drop at')).2.1).1).toNat)<+:s.drop at' then some ((eL 58 (eL 58 (s.drop at')).2.1).2.1.take (ea (eL 58 (eL 58 (s.drop at')).2.1).1).toNat) else none:=by
     unfold il
     simp only[Y,cb,vn]
    generalize hd:(eL 58 (eL 58 (s.drop at')).2.1).1=d at*;generalize af:(eL 58 (eL 58 (s.drop at')).2.1).2.1=j at*;cases b with
    |false=>
     simp only[gE,cL];refine y ?_;rw[C,cK];rintro⟨F,_⟩;have:=(A.2 F).1;cases this
    |true=>
     simp only[eN,cN];have Z:lB n v 0 (eg j)=some (decide (0<=v/\v<=j.length)):=by
      unfold lB
      simp only[gv,fV]
      by_cases h:0<=v<;>simp[h]
     rw[Z,cu]
     by_cases E:0<=v/\v<=j.length
     ·obtain⟨u,rfl⟩:=gD E.1;have aa:=A.1 ⟨rfl,E.1,E.2⟩;rw[aa,fB] at C;have J:fg j 0 (u:Int)=some (j.take u):=by
       unfold fg
       rw[cJ (by omega)]
       simp
      have ah:(j.take u).length=u:=by simp;omega
      simp only[E,ua,fU,eN,cN,J,cu,cP];rw[acE (by omega) (by omega) hn,cu];unfold Mf;rw[cu]
      by_cases N:ei x.length (j.take u)<+:s.drop at'
      ·have D:Lib.hasPrefix (s.drop at') (ei x.length (j.take u))=true:=by unfold Lib.hasPrefix;rw[ain];exact N
       have hN:il x.length (s.drop at')=some (j.take u):=by rw[C,cJ ⟨E.1,E.2,N⟩]
       have ai:=wA (by omega) hN;have aj:=ry x.length (j.take u);simp only[D,eN,cN];rw[fH (by simp;omega) (by omega),cu,fV];have M:cw .i64 (at':Int) ((ei x.length (j.take u)).length:Int)=((at'+(ei x.length (j.take u)).length:Nat):Int):=by
        rw[iY (by omega) (by omega) (by omega) (by omega)];omega
       rw[M,VY hl hn m _ _ (by omega) (by omega) (by simp;omega)]
       conv=>rhs;unfold eW
       rw[hN];have e:eW (s.length-(at'+(ei x.length (j.take u)).length)+1) (x++[j.take u]).length (s.drop (at'+(ei x.length (j.take u)).length))=eW (s.length-at') (x.length+1) ((s.drop at').drop (ei x.length (j.take u)).length):=by
        rw[q8,eS,tY]
        exact Ec _ _ _ _ (by simp;omega) (by simp) (by simp;omega)
       rw[e];simp only[jW,xI,oA]
      ·have D:Lib.hasPrefix (s.drop at') (ei x.length (j.take u))=false:=by
         unfold Lib.hasPrefix
         rw[<-pH,ain];exact N
       simp only[D,gE,cL];exact y (by rw[C,cK (λh=>N h.2.2)])
     ·simp only[E,gF,gE,cL];refine y ?_;rw[C,cK];rintro⟨F,H,_⟩;have:=(A.2 F).2;omega
theorem ZA{s:cq}(a:s.length<2^28)(e:2^41<=n):IP n s=some ((ed s).1,((ed s).2:Int)):=by
 unfold IP ed;have:=λk=>VY (n:=n) (k:=k) a e n 0 [] (by omega) (by omega) (by simp);refine(this _).trans ?_;simp only[ic,jx,ia,Qc,sE];have j:∀l:List cq,IN n l=some l:=λl=>by
  unfold IN
  simp[kr,oY,fC,cp,cz,tf,cu]
 rw[j,cu]
end
end
section
section
variable{n:Nat}
abbrev gO(l:List de)(i:Nat):de:=l.getD i ⟨[],0,0,0⟩
theorem zl{l:List de}{i:Nat}(h:i<l.length):gO l i=l[i]:=by
 rw[gO,iE,eA h];rfl
def mX(o:de):Bool:=gy o.di&&(decide (0<=o.cls/\o.cls<=2)&&(decide (-4<=o.cM/\o.cM<=4)&&(!decide (o.cM=0)&&decide (0<=o.share/\o.share<=1000000000000))))
def C4(a:List de)(j:Nat):Bool:=mX (gO a j)&&fL j λk=>!decide ((gO a k).di=(gO a j).di)
def iS(a:List de):Bool:=fL a.length (C4 a)&&decide (1<=(a.length:Int)/\(a.length:Int)<=3)
def xi(a:List de):Prop:=a.length<2^29/\∀o∈a,o.di.length<2^29
theorem agh{o:de}(h:o.di.length<2^30)(a:2^41<=n):JO n o=some (mX o):=by
 unfold JO mX;rw[ru h a];simp only[rG,cu,dO,en];generalize decide (0<=o.cls/\o.cls<=2)=e;generalize decide (-4<=o.cM/\o.cM<=4)=j;generalize decide (o.cM=0)=u;generalize decide (0<=o.share/\o.share<=1000000000000)=x;cases gy o.di<;>cases e<;>cases j<;>cases u<;>rfl
theorem VZ{a:List de}(h:xi a)(x:2^41<=n):E6 n a=some (iS a):=by
 have A:=h.1;have u:∀i,i<a.length->∀k,yo n n a (i:Int) 0 k=if fL i (λj=>!decide ((gO a j).di=(gO a i).di))=true then k a i else some false:=λi e k=>
  kD (N:=i) (by omega) (L:=λm j=>yo n m a i j k) (P:=λj=>!decide ((gO a j).di=(gO a i).di)) (λm=>by simp[go_sem,yo]) (λm j C=>by
   have c:(j:Int)<i:=by omega
   simp only[go_sem,yo,eG (show j<a.length by omega) ⟨[],0,0,0⟩,eG e ⟨[],0,0,0⟩,c]
   grind) (by omega)
 have:=λk=>kD (N:=a.length) (by omega) (L:=λm i=>A2 n m a i k) (P:=C4 a) (k:=k a) (r:=some false) (λm=>by simp[go_sem,A2]) (λm i e=>by
  have y:(gO a i).di.length<2^30:=by rw[zl e];have:=h.2 _ (dG e);omega
  simp only[go_sem,A2,eG e ⟨[],0,0,0⟩,e,agh y x,C4,u i e]
  cases mX (gO a i)<;>simp) (m:=n) (by omega);unfold E6 iS;rw[this];cases fL a.length (C4 a)<;>simp[go_sem]
theorem uK(a b c:Int):lB n a b c=some (decide (b<=a/\a<=c)):=by
 simp only[lB,gv]
 by_cases h:b<=a<;>simp[h]
theorem Ia{t:cq}(a:t.length<2^30)(u:2^41<=n):yS n t=some (gy t):=by
 have:=λk=>Pm a (L:=λm i=>A4 n m t i k) (G:=λe=>if e.all low=true then k t else some false) (λm=>by simp[go_sem,A4]) (λm i h j=>by
  simp only[go_sem,A4,uU h,j,low,h];grind) (m:=n) (by omega);simp only[go_sem,yS,gy,uK] at this⊢;rw[this]
 grind
theorem aaV{l:List cq}{s:cq}(u:l.length<2^30)(D:2^41<=n):Hg n l s=some (decide (s∈l)):=by
 have y:Mk n l s=some (lW (λx=>decide (s=x)) 0 l):=
  wH u (L:=λm i=>An n m l s (cz l) i (some (-1))) (f:=some) (λm=>by simp[go_sem,An]) (λm i h=>by simp only[go_sem,An,dt h,h]) (by omega);unfold Hg;rw[y,cu,gv]
 congr 1
 rcases qu (p:=λx=>decide (s=x)) (xs:=l) (i:=0) with⟨e,a⟩|⟨j,A,e,a,_⟩
 ·rw[e];have:s∉l:=λC=>by simpa using a s C
  simp[this]
 ·rw[e];have:s∈l:=by
   have:=fj a
   rw[this];exact dG A
  simp[this]
abbrev gS(l:List cq)(i:Nat):cq:=l.getD i []
theorem Pq{l:List cq}{i:Nat}(h:i<l.length):gS l i=l[i]:=by
 rw[gS,iE,eA h];rfl
theorem aej{l:List cq}(y:l.length<2^29)(h:∀s∈l,s.length<2^29)(u:2^41<=n):Dx n l=some (fL l.length λj=>gy (gS l j)&&!decide (gS l j∈l.take j)):=by
 have:=kD (N:=l.length) (by omega) (L:=λm i=>Ah n m l l (cz l) i (some true)) (P:=λj=>gy (gS l j)&&!decide (gS l j∈l.take j)) (k:=some true) (r:=some false) (λm=>by simp[go_sem,Ah]) (λm i a=>by
  have x:(gS l i).length<2^30:=by rw[Pq a];have:=h _ (dG a);omega
  have e:eR l 0 (i:Int)=some (l.take i):=by unfold eR;rw[cJ (by omega)];simp
  simp only[go_sem,Ah,eG a [],a,Ia x u,e,aaV (show(l.take i).length<2^30 by simp;omega) u]
  cases gy (gS l i)<;>simp) (m:=n) (by omega);unfold Dx;rw[this];cases fL l.length (λj=>gy (gS l j)&&!decide (gS l j∈l.take j))<;>simp
def dU(o:de):Bool:=decide (0<=o.cls/\o.cls<=2)&&(decide (-4<=o.cM/\o.cM<=4)&&(!decide (o.cM=0)&&decide (0<=o.share/\o.share<=1000000000000)))
theorem aaW{ops:List de}(h:xi ops)(Z:2^41<=n):JV n ops=some (iS ops):=by
 have hl:=h.1;have J:∀k:List de->List cq->Option Bool,∀m i:Nat,i<=ops.length->ops.length<m+i->Bm n m ops ((ops.take i).map (·.di)) ops (cz ops) i k=if(ops.drop i).all dU=true then k ops (ops.map (·.di)) else some false:=by
  intro k m
  induction m with
  |zero=>intro i C E;omega
  |succ m ih=>
   intro i C E
   by_cases M:i<ops.length
   ·have y:cA (i:Int) (cz ops)=true:=by rw[dv,cP];simp;omega
    rw[Bm,y,cL,dt M,cu,kR M,GW];unfold EC;simp only[uK,cu,dO,en,dU]
    by_cases F:0<=ops[i].cls/\ops[i].cls<=2
    ·by_cases I:-4<=ops[i].cM/\ops[i].cM<=4
     ·by_cases N:ops[i].cM=0
      ·simp[F,I,N]
      ·by_cases S:0<=ops[i].share/\ops[i].share<=1000000000000
       ·simp only[F,I,N,S,ua,fU,gF,eN,gE,cN,mZ];rw[fH (by simp;omega) (by omega),cu,dE (by omega)];have:(ops.take i).map (·.di)++[ops[i].di]=(ops.take (i+1)).map (·.di):=by
         rw[mi M,mG];rfl
        rw[this];exact ih (i+1) (by omega) (by omega)
       ·simp[F,I,N,S]
     ·simp[F,I]
    ·simp[F]
   ·have:i=ops.length:=by omega
    subst this;have y:cA (ops.length:Int) (cz ops)=false:=by rw[dv,cP];simp
    rw[Bm,y,cN];simp
 unfold JV;have:=J (λA x=>ck (lB n (cz A) 1 3) λP=>cond P (ck (Dx n x) λQ=>some Q) (some false)) n 0 (by omega) (by omega);refine this.trans ?_;rw[sE,uK,cP];simp only[cu];rw[aej (by simp;omega) (λs hs=>by
  obtain⟨o,R,rfl⟩:=gR.1 hs
  exact h.2 o R) Z,cu];have H:(ops.all dU&&decide (1<=(ops.length:Int)/\(ops.length:Int)<=3)&&fL (ops.map (·.di)).length (λj=>gy (gS (ops.map (·.di)) j)&&!decide (gS (ops.map (·.di)) j∈(ops.map (·.di)).take j)))=iS ops:=by
  rw[G6]
  unfold iS C4 mX
  have U:∀j,j<ops.length->gS (ops.map (·.di)) j=(gO ops j).di:=λj u=>by rw[Pq (by simpa using u),zl u];simp
  have Y:∀j,j<ops.length->((gO ops j).di∈(ops.map (·.di)).take j↔∃k,k<j/\(gO ops k).di=(gO ops j).di):=λj u=>by
   rw[List.mem_take_iff_getElem]
   constructor
   ·rintro⟨k,D,e⟩;simp only[oC] at D;exact⟨k,by omega,by rw[<-e,zl (by omega)];simp⟩
   ·rintro⟨k,D,e⟩;exact⟨k,by simp;omega,by rw[<-e,zl (by omega)];simp⟩
  have ha:ops.all dU=true↔∀j,j<ops.length->dU (gO ops j)=true:=by
   rw[jh]
   constructor
   ·intro h j u;rw[zl u];exact h _ (dG u)
   ·intro h o R;obtain⟨j,u,rfl⟩:=pD R;rw[<-zl u];exact h j u
  simp only[du,ha,mn,oC,lj,kS,dF];constructor
  ·rintro⟨⟨C,E⟩,h3⟩;refine⟨λj u=>?_,E⟩;have a:=C j u;have b:=h3 j u;rw[U j u,Y j u] at b;simp only[dU,du,lj,kS,dF] at a;exact⟨⟨b.1,a⟩,λk D e=>b.2 ⟨k,D,e⟩⟩
  ·rintro⟨C,E⟩;refine⟨⟨λj u=>?_,E⟩,λj u=>?_⟩
   ·have a:=C j u;simp only[dU,du,lj,kS,dF];exact a.1.2
   ·have a:=C j u;rw[U j u,Y j u];exact⟨a.1.1,λ⟨k,D,e⟩=>a.2 k D e⟩
 rw[<-H];generalize fL (ops.map (·.di)).length (λj=>gy (gS (ops.map (·.di)) j)&&!decide (gS (ops.map (·.di)) j∈(ops.map (·.di)).take j))=b1;generalize decide (1<=(ops.length:Int)/\(ops.length:Int)<=3)=b2;cases ops.all dU<;>cases b2<;>rfl
def jV(o:de):cq:=o.di++[58]++itoa o.cls++[58]++itoa o.cM++[58]++itoa o.share
def gG(a:List de):cq:=eQ 44 (a.map jV)
theorem nP{a:List de}(h:iS a=true):(∀o∈a,mX o=true)/\1<=a.length/\a.length<=3:=by
 simp only[iS,C4,du,mn,dF] at h;refine⟨λo u=>?_,by omega,by omega⟩;obtain⟨j,e,rfl⟩:=pD u;have:=(h.1 j e).1;rwa[zl e] at this
theorem wI{o:de}(h:mX o=true):gy o.di=true/\(0<=o.cls/\o.cls<=2)/\(-4<=o.cM/\o.cM<=4)/\o.cM≠0/\0<=o.share/\o.share<=1000000000000:=by
 simp only[mX,du,lj,kS,dF] at h;exact h
theorem ls{t:cq}(h:gy t=true):(∀c∈t,97<=c.toNat/\c.toNat<=122)/\1<=t.length/\t.length<=8:=by
 simp only[gy,du,jh,dF,low] at h;exact⟨λc a=>by have:=h.1 c a;omega,by omega,by omega⟩
theorem aek{o:de}(h:mX o=true):(jV o).length<=100:=by
 obtain⟨e,j,u,y,A⟩:=wI h;have:=ls e;have a:=ki (x:=o.cls) (by omega) (by omega);have b:=ki (x:=o.cM) (by omega) (by omega);have c:=ki (x:=o.share) (by omega) (by omega);simp[jV];omega
theorem Ed(c:UInt8)(x:cq):∀l:List cq,l≠[]->eQ c (l++[x])=eQ c l++[c]++x
 |[],h=>absurd rfl h
 |[a],_=>by simp[eQ]
 |a::b::l,_=>by
  rw[pI,pI,eQ,<-pI,Ed c x (b::l) (by simp),eQ];simp
theorem mS{x:Int}(a:2^41<=n)(h:-9000000000000000000<=x/\x<=9000000000000000000):eO n x=some (itoa x):=OV (by omega) (by omega) (by omega)
theorem Pr{x:Int}(h:-9000000000000000000<=x/\x<=9000000000000000000):oM n x=some (itoa x):=by unfold oM;rw[cJ (by omega)]
theorem IY{l:List de}(h:∀o∈l,mX o=true):(gG l).length<=101*l.length:=by
 induction l with
 |nil=>simp[gG,eQ]
 |cons o l a=>
  have u:=aek (h o (by simp));have j:=a λx hx=>h x (by simp[hx]);cases l with
  |nil=>simp[gG,eQ];omega
  |cons p l=>
   have e:gG (o::p::l)=jV o++44::gG (p::l):=rfl;rw[e];simp only[eS,fY] at j⊢;omega
theorem QU{ops:List de}(h:xi ops)(j:2^41<=n):D1 n ops=some (if iS ops=true then gG ops else[]):=by
 unfold D1;rw[VZ h j,cu];cases I:iS ops with
 |false=>rfl
 |true=>
  obtain⟨F,J,M⟩:=nP I;simp only[dO,eN,cN,gr];have C:∀m i:Nat,i<=ops.length->ops.length<m+i->xX n m ops (gG (ops.take i)) i some=some (gG ops):=by
   intro m
   induction m with
   |zero=>intro i N P;omega
   |succ m H=>
    intro i N P
    by_cases y:i<ops.length
    ·have u:cA (i:Int) (cz ops)=true:=by rw[dv,cP];simp;omega
     have D:=F _ (dG y);obtain⟨Q,Y,Z,q4,q5⟩:=wI D;have R:=ls Q;have a:=ki (x:=ops[i].cls) (by omega) (by omega);have b:=ki (x:=ops[i].cM) (by omega) (by omega);have c:=ki (x:=ops[i].share) (by omega) (by omega);have S:=IY (l:=ops.take i) λo D=>F o (ub D);have U:(gG (ops.take i)).length<=400:=by simp at S;omega
     have A:cw .i64 (i:Int) 1=((i+1:Nat):Int):=dE (by omega);rw[xX,u,cL]
     by_cases h0:0<i
     ·have e:cA 0 (i:Int)=true:=by rw[dv];simp;omega
      rw[e,cL];simp only[dt y,cu,mS j (show-9000000000000000000<=ops[i].cls/\ops[i].cls<=9000000000000000000 by omega),mS j (show-9000000000000000000<=ops[i].cM/\ops[i].cM<=9000000000000000000 by omega),mS j (show-9000000000000000000<=ops[i].share/\ops[i].share<=9000000000000000000 by omega)]
      iterate 8 rw[fP (by simp;omega),cu]
      rw[A];have:gG (ops.take i)++([44]:cq)++ops[i].di++([58]:cq)++itoa ops[i].cls++([58]:cq)++itoa ops[i].cM++([58]:cq)++itoa ops[i].share=gG (ops.take (i+1)):=by
       rw[mi y]
       unfold gG
       rw[mG,lk,sC,Ed _ _ _ (by simp;exact⟨by omega,by rintro rfl;simp at y⟩)]
       simp[jV]
      rw[this];exact H (i+1) (by omega) (by omega)
     ·have e:cA 0 (i:Int)=false:=by rw[dv];simp;omega
      rw[e,cN];simp only[dt y,cu,mS j (show-9000000000000000000<=ops[i].cls/\ops[i].cls<=9000000000000000000 by omega),mS j (show-9000000000000000000<=ops[i].cM/\ops[i].cM<=9000000000000000000 by omega),mS j (show-9000000000000000000<=ops[i].share/\ops[i].share<=9000000000000000000 by omega)]
      iterate 7 rw[fP (by simp;omega),cu]
      rw[A];have E:i=0:=by omega
      subst E;have:gG (ops.take 0)++ops[0].di++([58]:cq)++itoa ops[0].cls++([58]:cq)++itoa ops[0].cM++([58]:cq)++itoa ops[0].share=gG (ops.take (0+1)):=by
       rw[mi y]
       simp[gG,eQ,jV]
      rw[this];exact H (0+1) (by omega) (by omega)
    ·have:i=ops.length:=by omega
     subst this;have u:cA (ops.length:Int) (cz ops)=false:=by rw[dv,cP];simp
     rw[xX,u,cN,sD]
  have:=C n 0 (by omega) (by omega);exact this
theorem join_eq(c:UInt8):∀l:List cq,Lib.join l [c]=eQ c l
 |[]=>rfl
 |[a]=>by rw[join_one];rfl
 |a::b::l=>by
  rw[join_cons,eQ,<-join_eq c (b::l),join_cons];simp[joinTail]
theorem Zk{ops:List de}(h:xi ops)(E:2^41<=n):vU n ops=some (if iS ops=true then gG ops else[]):=by
 unfold vU;rw[aaW h E,cu];cases F:iS ops with
 |false=>rfl
 |true=>
  obtain⟨D,H,I⟩:=nP F;simp only[dO,eN,cN,gr];have S:=IY D;have u:∀m i:Nat,i<=ops.length->ops.length<m+i->Ar n m ((ops.take i).map jV) ops (cz ops) i (λe=>ck (Ck n e [44]) λy=>some y)=some (gG ops):=by
   intro m
   induction m with
   |zero=>intro i J M;omega
   |succ m N=>
    intro i J M
    by_cases A:i<ops.length
    ·have j:cA (i:Int) (cz ops)=true:=by rw[dv,cP];simp;omega
     have P:=D _ (dG A);obtain⟨Q,U,Y,Z,q5⟩:=wI P;have R:=ls Q;have a:=ki (x:=ops[i].cls) (by omega) (by omega);have b:=ki (x:=ops[i].cM) (by omega) (by omega);have c:=ki (x:=ops[i].share) (by omega) (by omega);have C:cw .i64 (i:Int) 1=((i+1:Nat):Int):=dE (by omega);rw[Ar,j,cL];simp only[dt A,cu,Pr (n:=n) (show-9000000000000000000<=ops[i].cls/\ops[i].cls<=9000000000000000000 by omega),Pr (n:=n) (show-9000000000000000000<=ops[i].cM/\ops[i].cM<=9000000000000000000 by omega),Pr (n:=n) (show-9000000000000000000<=ops[i].share/\ops[i].share<=9000000000000000000 by omega)]
     iterate 6 rw[fP (by simp;omega),cu]
     rw[fH (by simp;omega) (by omega),cu,C];have:(ops.take i).map jV++[ops[i].di++[58]++itoa ops[i].cls++[58]++itoa ops[i].cM++[58]++itoa ops[i].share]=(ops.take (i+1)).map jV:=by
      rw[mi A,mG];rfl
     rw[this];exact N (i+1) (by omega) (by omega)
    ·have:i=ops.length:=by omega
     subst this;have j:cA (ops.length:Int) (cz ops)=false:=by rw[dv,cP];simp
     rw[Ar,j,cN,sD];unfold Ck;rw[join_eq,cJ ⟨by simp;omega,by show(gG ops).length<=_;omega⟩];rfl
  have:=u n 0 (by omega) (by omega);exact this
end
end
section
section
variable{n:Nat}
theorem wg{x:Int}:∀c∈itoa x,c.toNat=45\/(48<=c.toNat/\c.toNat<=57):=λc a=>by
 unfold itoa at a;split at a
 ·rcases eo.1 a with rfl|a
  ·exact .inl rfl
  ·exact .inr (vW _ c a)
 ·exact .inr (vW _ c a)
theorem acH{o:de}(h:mX o=true):(44:UInt8)∉jV o:=λa=>by
 have e:=(ls (wI h).1).1;have j:(44:UInt8).toNat=44:=rfl;have u:(58:UInt8).toNat=58:=rfl;simp only[jV,eB,fM] at a;rcases a with(((((a|a)|a)|a)|a)|a)|a
 ·have:=e _ a;omega
 ·cases a
 ·have:=wg _ a;omega
 ·cases a
 ·have:=wg _ a;omega
 ·cases a
 ·have:=wg _ a;omega
theorem OY(x:Int):(58:UInt8)∉itoa x:=λa=>by
 have e:(58:UInt8).toNat=58:=rfl;have:=wg _ a;omega
theorem Fu{o:de}(h:mX o=true):dr 58 (jV o)=[o.di,itoa o.cls,itoa o.cM,itoa o.share]:=by
 have u:=(ls (wI h).1).1;have a:(58:UInt8)∉o.di:=λx=>by
  have y:(58:UInt8).toNat=58:=rfl
  have:=u _ x;omega
 have e:jV o=eQ 58 [o.di,itoa o.cls,itoa o.cM,itoa o.share]:=by simp[jV,eQ]
 rw[e];refine BU (by simp) λw j=>?_;simp only[eo,mH,mI] at j;rcases j with rfl|rfl|rfl|rfl
 ·exact a
 ·exact OY _
 ·exact OY _
 ·exact OY _
theorem IZ{ops:List de}(a:ops≠[])(h:∀o∈ops,mX o=true):dr 44 (gG ops)=ops.map jV:=
 BU (by simpa using a) λw e=>by
  obtain⟨o,j,rfl⟩:=gR.1 e;exact acH (h o j)
theorem afn(o:de):jV o≠[]:=by simp[jV]
theorem acI{a:List de}(e:a≠[]):gG a≠[]:=by
 match a,e with
 |[o],_=>exact afn o
 |o::p::l,_=>simp[gG,eQ]
theorem EH{x:Int}(a:0<=x)(e:x<1000000000000):ea (itoa x)=x:=by
 obtain⟨u,rfl⟩:=gD a;rw[nh,BT (by omega)]
theorem aaX{x:Int}(A:-1000000<=x)(e:x<1000000000000):(qP (itoa x)).1=x:=by
 by_cases c:0<=x
 ·obtain⟨u,rfl⟩:=gD c;have:(itoa (u:Int)).head?≠some 45:=by
   rw[nh]
   cases j:decDigits u with
   |nil=>simp
   |cons y l=>
    have C:=vW u y (by rw[j];simp)
    simp only[LP,LQ,cW]
    rintro rfl
    have:(45:UInt8).toNat=45:=rfl
    omega
  unfold qP;rw[cK this];exact EH (by omega) e
 ·obtain⟨u,rfl⟩:∃u:Nat,x=-(u:Int):=⟨x.natAbs,by omega⟩;rw[itoa_neg (by omega)];have a:(45::decDigits u:cq).head?=some 45:=rfl;unfold qP;rw[cJ a];simp only[aio,sE];rw[BT (by omega),vV (by omega) (by omega)]
def vm(w:cq):Option de:=match dr 58 w with
 |[a,b,c,d]=>some ⟨a,ea b,(qP c).1,ea d⟩
 |_=>none
def nA:List cq->Option (List de)
 |[]=>some []
 |w::a=>match vm w with
  |none=>none
  |some o=>match nA a with
   |none=>none
   |some l=>some (o::l)
theorem ael{o:de}(h:mX o=true)(a:o.share<1000000000000):vm (jV o)=some o:=by
 obtain⟨e,j,u,x,y⟩:=wI h;unfold vm;rw[Fu h];simp only;rw[EH (by omega) (by omega),aaX (by omega) (by omega),EH (by omega) (by omega)]
theorem TA:∀{a:List de},(∀o∈a,mX o=true/\o.share<1000000000000)->nA (a.map jV)=some a
 |[],_=>rfl
 |o::a,h=>by
  rw[lk,nA,ael (h o (by simp)).1 (h o (by simp)).2,TA λx hx=>h x (by simp[hx])]
theorem M2:∀{u:List cq}{l:List de},nA u=some l->l.length=u.length/\∀o∈l,(∃w∈u,o.di.length<=w.length)/\o.share<1000000000000
 |[],l,h=>by simp only[nA,cW] at h;subst h;simp
 |w::u,l,h=>by
  unfold nA at h;cases j:vm w with
  |none=>rw[j] at h;cases h
  |some o=>
   rw[j] at h;cases A:nA u with
   |none=>rw[A] at h;cases h
   |some I=>
    rw[A] at h;cases h;obtain⟨C,D⟩:=M2 A;refine⟨by simp[C],λx hx=>?_⟩;rcases eo.1 hx with rfl|hx
    ·unfold vm at j;split at j
     ·rename_i a b c d e;cases j;exact⟨⟨w,by simp,uo (by rw[e];simp)⟩,(J0 d).2⟩
     ·cases j
    ·obtain⟨⟨y,E,F⟩,H⟩:=D x hx;exact⟨⟨y,by simp[E],F⟩,H⟩
theorem four{l:List cq}(h:l.length=4):l=[gS l 0,gS l 1,gS l 2,gS l 3]:=by
 match l,h with
 |[a,b,c,d],_=>rfl
theorem V0{text:cq}{ws:List cq}(H:ws.length<2^29)(h:∀w∈ws,w.length<2^29)(C:2^41<=n){k:cq->List de->Option (List de×Bool)}:∀(m i:Nat)(a:List de),i<=4->i<=ws.length->4<m+i->a.length=i->AE n m text ws a i k=match nA ((ws.drop i).take (4-i)) with|none=>some ([],false)|some l=>k text (a++l)
 |0,i,a,I,J,M,N=>by omega
 |m+1,i,a,I,J,M,N=>by
  by_cases E:i<ws.length
  ·have x:cA (i:Int) (cz ws)=true:=by rw[dv,cP];simp;omega
   rw[AE,x,cL]
   by_cases P:i<4
   ·have y:dz (i:Int) 3=true:=by rw[gv];simp;omega
    have D:nR n ws[i] 58=some (dr 58 ws[i]):=B9 (c:=58) (by have:=h _ (dG E);omega) C;rw[y,cL,dt E];simp only[cu,D];rw[kR E,show 4-i=(4-(i+1))+1 by omega,Y0,nA]
    by_cases u:(dr 58 ws[i]).length=4
    ·have Q:=four u;have F:vm ws[i]=some ⟨gS (dr 58 ws[i]) 0,ea (gS (dr 58 ws[i]) 1),(qP (gS (dr 58 ws[i]) 2)).1,ea (gS (dr 58 ws[i]) 3)⟩:=by
      unfold vm
      rw[Q]
      rfl
     rw[F];have q:∀j,j<4->cm (dr 58 ws[i]) ((j:Nat):Int)=some (gS (dr 58 ws[i]) j):=λj R=>eG (by omega) [];have A:cp (cz (dr 58 ws[i])) 4=true:=by rw[en,cP,u];rfl
     simp only[A,dO,eN,cN];rw[show(2:Int)=((2:Nat):Int) from rfl,q 2 (by omega)];simp only[cu,Ko C];rw[show(0:Int)=((0:Nat):Int) from rfl,q 0 (by omega)];simp only[cu];rw[show(1:Int)=((1:Nat):Int) from rfl,q 1 (by omega)];simp only[cu,uJ C];rw[show(3:Int)=((3:Nat):Int) from rfl,q 3 (by omega)];simp only[cu,uJ C];rw[fH (by simp;omega) (by omega),cu];rw[show cw .i64 (i:Int) ((1:Nat):Int)=((i+1:Nat):Int) from dE (by omega)];rw[V0 H h C m (i+1) _ (by omega) (by omega) (by omega) (by simp;omega)];cases nA ((ws.drop (i+1)).take (4-(i+1))) with
     |none=>rfl
     |some l=>simp
    ·have F:vm ws[i]=none:=by
       unfold vm
       split
       ·rename_i e;rw[e] at u;simp at u
       ·rfl
     have A:cp (cz (dr 58 ws[i])) 4=false:=by rw[en,cP];simp;omega
     rw[F];simp only[A,dO,gE,cL]
   ·have:i=4:=by omega
    subst this;have y:dz ((4:Nat):Int) 3=false:=by rfl
    rw[y,cN];simp[nA]
  ·have:i=ws.length:=by omega
   subst this;have x:cA (ws.length:Int) (cz ws)=false:=by rw[dv,cP];simp
   rw[AE,x,cN,q7];simp[nA]
def jA(text:cq):List de×Bool:=match nA ((dr 44 text).take 4) with
 |none=>([],false)
 |some a=>if text=[] then([],false) else if(if iS a=true then gG a else[])=text then(a,true) else([],false)
theorem ZZ{text:cq}(H:text.length<2^28)(e:2^41<=n):IF n text=some (jA text):=by
 unfold IF jA;rw[show nR n text 44=some (dr 44 text) from B9 (c:=44) (by omega) e,cu];have y:=Jl 44 text;have a:∀w∈dr 44 text,w.length<2^29:=λw j=>by have:=uo j;omega
 have:=λk=>V0 (n:=n) (text:=text) (k:=k) (ws:=dr 44 text) (by omega) a e n 0 [] (by omega) (by omega) (by omega) rfl;refine(this _).trans ?_;rw[sE,Qc];cases A:nA ((dr 44 text).take 4) with
 |none=>rfl
 |some out=>
  obtain⟨C,D⟩:=M2 A;have E:xi out:=⟨by simp at C;omega,λo F=>by
   obtain⟨⟨w,j,I⟩,_⟩:=D o F
   have:=a w (ub j)
   omega⟩;simp only[ic,kF,QU E e,cu,dO]
  by_cases u:text=[]
  ·simp[u]
  ·by_cases x:(if iS out=true then gG out else[])=text
   ·simp[u,x]
   ·simp[u,x]
theorem Sg{a:List de}(h:iS a=true)(x:∀o∈a,o.share<1000000000000):jA (gG a)=(a,true):=by
 obtain⟨e,y,A⟩:=nP h;have j:a≠[]:=by rintro rfl;simp at y
 unfold jA;rw[IZ j e,xN (by simp;omega),TA λo u=>⟨e o u,x o u⟩];simp only;rw[cK (acI j),h,cJ rfl,cJ rfl]
theorem Ee{text:cq}(h:(jA text).2=true):iS (jA text).1=true/\text=gG (jA text).1/\∀o∈(jA text).1,o.share<1000000000000:=by
 unfold jA at h⊢;cases j:nA ((dr 44 text).take 4) with
 |none=>rw[j] at h;cases h
 |some a=>
  rw[j] at h;simp only at h⊢
  by_cases u:text=[]
  ·rw[cJ u] at h;cases h
  ·rw[cK u] at h⊢
   by_cases e:(if iS a=true then gG a else[])=text
   ·rw[cJ e]
    by_cases x:iS a=true
    ·rw[cJ x] at e;exact⟨x,e.symm,λo y=>((M2 j).2 o y).2⟩
    ·rw[cK x] at e;exact absurd e.symm u
   ·rw[cK e] at h;cases h
theorem ZB{text:cq}(h:(jA text).2=false):jA text=([],false):=by
 unfold jA at h⊢;cases u:nA ((dr 44 text).take 4) with
 |none=>rfl
 |some a=>
  rw[u] at h;simp only at h⊢
  by_cases e:text=[]
  ·rw[cJ e]
  ·rw[cK e] at h⊢
   by_cases j:(if iS a=true then gG a else[])=text
   ·rw[cJ j] at h;cases h
   ·rw[cK j]
theorem V1{text:cq}{ws:List cq}(hw:ws.length<2^29)(h:∀w∈ws,w.length<2^29){k:cq->List de->Option (List de×Bool)}:∀(m i:Nat)(y:List de),i<=ws.length->ws.length<m+i->y.length=i->(∀o∈y,o.di.length<2^29)->
  ((∃D:List de,(∀o∈D,o.di.length<2^29)/\D.length=ws.length/\q9 n m text y ws (cz ws) i k=k text D)\/q9 n m text y ws (cz ws) i k=some ([],false))/\
  ∀a:List de,(∀o∈a,mX o=true)->ws.drop i=a.map jV->q9 n m text y ws (cz ws) i k=k text (y++a)
 |0,i,y,h1,h2,S,Q=>by omega
 |m+1,i,y,h1,h2,S,Q=>by
  by_cases N:i<ws.length
  ·have E:cA (i:Int) (cz ws)=true:=by rw[dv,cP];simp;omega
   have aa:=h _ (dG N);have R:qA n ws[i] [58]=some (dr 58 ws[i]):=Jm (by omega);rw[q9,E,cL,dt N];simp only[cu,R]
   by_cases F:(dr 58 ws[i]).length=4
   ·have H:cp (cz (dr 58 ws[i])) 4=true:=by rw[en,cP,F];rfl
    have q:∀j,j<4->cm (dr 58 ws[i]) ((j:Nat):Int)=some (gS (dr 58 ws[i]) j):=λj hj=>eG (by omega) [];have P:∀j,j<4->(gS (dr 58 ws[i]) j).length<2^29:=λj hj=>by
     have:=uo (c:=58) (s:=ws[i]) (w:=gS (dr 58 ws[i]) j) (by rw[Pq (by omega)];exact dG _)
     omega
    obtain⟨U,Y,n1,y1,z1⟩:=DO (n:=n) (s:=gS (dr 58 ws[i]) 1) (by have:=P 1 (by omega);omega);obtain⟨Z,b2,n2,y2,z2⟩:=DO (n:=n) (s:=gS (dr 58 ws[i]) 2) (by have:=P 2 (by omega);omega);obtain⟨v3,b3,n3,y3,z3⟩:=DO (n:=n) (s:=gS (dr 58 ws[i]) 3) (by have:=P 3 (by omega);omega);simp only[H,dO,eN,cN];rw[show(2:Int)=((2:Nat):Int) from rfl,show(0:Int)=((0:Nat):Int) from rfl,show(3:Int)=((3:Nat):Int) from rfl,show(1:Int)=((1:Nat):Int) from rfl,q 1 (by omega),q 2 (by omega),q 3 (by omega),q 0 (by omega)];simp only[cu,n1,n2,n3];have C:∀a:List de,(∀o∈a,mX o=true)->ws.drop i=a.map jV->∃o u,a=o::u/\Y=true/\b2=true/\b3=true/\(⟨gS (dr 58 ws[i]) 0,U,Z,v3⟩:de)=o/\ws.drop (i+1)=u.map jV:=by
     intro a A e
     rw[kR N] at e
     cases a with
     |nil=>cases e
     |cons o a=>
      rw[lk] at e
      injection e with I e2
      have hb:=A o (by simp)
      have J:=Fu hb
      rw[<-I] at J
      obtain⟨r1,r2,r3,r4,r5⟩:=wI hb
      have g0:gS (dr 58 ws[i]) 0=o.di:=by rw[J];rfl
      have g1:gS (dr 58 ws[i]) 1=itoa o.cls:=by rw[J];rfl
      have g2:gS (dr 58 ws[i]) 2=itoa o.cM:=by rw[J];rfl
      have g3:gS (dr 58 ws[i]) 3=itoa o.share:=by rw[J];rfl
      have w1:=z1 o.cls (by omega) (by omega) g1
      have w2:=z2 o.cM (by omega) (by omega) g2
      have w3:=z3 o.share (by omega) (by omega) g3
      exact⟨o,a,rfl,w1.1,w2.1,w3.1,by rw[g0,w1.2,w2.2,w3.2],e2⟩
    cases Y with
    |false=>
     simp only[gE,cL];refine⟨.inr trivial,λa A e=>?_⟩;obtain⟨o,u,_,M,_⟩:=C a A e;cases M
    |true=>
     cases b2 with
     |false=>
      simp only[gE,eN,cL,cN];refine⟨.inr trivial,λa A e=>?_⟩;obtain⟨o,u,_,_,M,_⟩:=C a A e;cases M
     |true=>
      cases b3 with
      |false=>
       simp only[gE,eN,cL,cN];refine⟨.inr trivial,λa A e=>?_⟩;obtain⟨o,u,_,_,_,M,_⟩:=C a A e;cases M
      |true=>
       simp only[eN,cN];rw[fH (by simp;omega) (by omega),cu];rw[show cw .i64 (i:Int) ((1:Nat):Int)=((i+1:Nat):Int) from dE (by omega)];obtain⟨a1,a2⟩:=V1 (text:=text) (k:=k) hw h m (i+1) (y++[⟨gS (dr 58 ws[i]) 0,U,Z,v3⟩]) (by omega) (by omega) (by simp;omega) (λo A=>by
        rcases eB.1 A with A|A
        ·exact Q o A
        ·rw[fM] at A;subst A;exact P 0 (by omega));refine⟨a1,λa A e=>?_⟩;obtain⟨o,u,I,_,_,_,e5,e6⟩:=C a A e;rw[a2 u (λx hx=>A x (by rw[I];simp[hx])) e6,e5,I];simp
   ·have H:cp (cz (dr 58 ws[i])) 4=false:=by rw[en,cP];simp;omega
    simp only[H,dO,gE,cL];refine⟨.inr trivial,λa A e=>?_⟩;rw[kR N] at e;cases a with
    |nil=>cases e
    |cons o a=>
     rw[lk] at e;injection e with I e2;rw[I,Fu (A o (by simp))] at F;exact absurd rfl F
  ·have:i=ws.length:=by omega
   subst this;have E:cA (ws.length:Int) (cz ws)=false:=by rw[dv,cP];simp
   rw[q9,E,cN,q7];refine⟨.inl ⟨y,Q,S,rfl⟩,λa A e=>?_⟩;cases a with
   |nil=>simp
   |cons o a=>cases e
theorem Zd{text:cq}(hl:text.length<2^28)(S:2^41<=n):∃r,EE n text=some r/\(r.2=true->iS r.1=true/\text=gG r.1)/\(r.2=false->r.1=[])/\∀u,iS u=true->text=gG u->r=(u,true):=by
 unfold EE;rw[show qA n text [44]=some (dr 44 text) from Jm (by omega),cu];have U:=Jl 44 text;have I:∀w∈dr 44 text,w.length<2^29:=λw Y=>by have:=uo Y;omega
 have C:=λk=>V1 (n:=n) (text:=text) (k:=k) (ws:=dr 44 text) (by omega) I n 0 [] (by omega) (by omega) rfl (by simp);have D:∀l:List de,rh n l=some l:=λl=>by
  unfold rh
  simp[kr,oY,fC,cp,cz,tf,cu]
 have Q:∀j:List de,(∀o∈j,o.di.length<2^29)->j.length<2^29->(ck (vU n j) λy=>cond (cD (dm y text)) (some ([],false)) (ck (rh n j) λA=>some (A,true)))=some (if(if iS j=true then gG j else[])=text then(j,true) else([],false)):=λj E F=>by
  rw[Zk ⟨F,E⟩ S,cu,D,cu,kF,dO]
  by_cases c:(if iS j=true then gG j else[])=text<;>simp[c]
 have R:∀u,iS u=true->text=gG u->(q9 n n text [] (dr 44 text) (cz (dr 44 text)) 0 λx a=>ck (vU n a) λy=>cond (cD (dm y x)) (some ([],false)) (ck (rh n a) λA=>some (A,true)))=some (u,true):=λu E F=>by
  obtain⟨J,Z,l3⟩:=nP E
  have h0:u≠[]:=by rintro rfl;simp at Z
  refine((C _).2 u J (by rw[sE,F,IZ h0 J])).trans ?_
  rw[ic]
  refine(Q u (λo ho=>by have:=(ls (wI (J o ho)).1).2;omega) (by omega)).trans ?_
  rw[E,cJ rfl,cJ F.symm]
 rcases(C λx a=>ck (vU n a) λy=>cond (cD (dm y x)) (some ([],false)) (ck (rh n a) λA=>some (A,true))).1 with⟨j,E,F,H⟩|H
 ·have M:=H.trans (Q j E (by omega));refine⟨_,M,λe=>?_,λe=>?_,λu N g2=>?_⟩
  ·by_cases c:(if iS j=true then gG j else[])=text
   ·rw[cJ c]
    by_cases P:iS j=true
    ·rw[cJ P] at c;exact⟨P,c.symm⟩
    ·rw[cK P] at c;exfalso;subst c;have h5:(q9 n n ([]:cq) [] (dr 44 []) (cz (dr 44 [])) ((0:Nat):Int) λx a=>ck (vU n a) λy=>cond (cD (dm y x)) (some ([],false)) (ck (rh n a) λA=>some (A,true)))=some ([],false):=by
      obtain⟨m,rfl⟩:∃m,n=m+1:=⟨n-1,by omega⟩
      have e1:(dr 44 []:List cq)=[[]]:=rfl
      rw[e1,q9]
      have e2:qA (m+1) [] [58]=some [[]]:=Jm (n:=m+1) (c:=58) (s:=[]) (by simp)
      have e3:cm ([[]]:List cq) ((0:Nat):Int)=some []:=rfl
      have e4:cA ((0:Nat):Int) (cz ([[]]:List cq))=true:=rfl
      rw[e4,cL,e3]
      simp only[cu,e2]
      rfl
     have h6:=gA (h5.symm.trans M);rw[<-h6] at e;cases e
   ·rw[cK c] at e;cases e
  ·by_cases c:(if iS j=true then gG j else[])=text
   ·rw[cJ c] at e;cases e
   ·rw[cK c]
  ·exact gA (M.symm.trans (R u N g2))
 ·refine⟨([],false),H,λe=>(by cases e),λ_=>rfl,λu N g2=>?_⟩;exact gA (H.symm.trans (R u N g2))
def Ps(text:cq):Prop:=∀a,iS a=true->text=gG a->∀o∈a,o.share<1000000000000
end
end
section
section
variable{n:Nat}
structure ph(l:cE):Prop where
 n1:l.name.length<=100
 n2:l.cI.length<=100
 n3:l.to.length<=100
 z1:l.dy.length<=1000
 z2:l.dq.length<=1000
 z3:l.eu.length<=1000
 z4:l.holds.length<=1000
theorem gP.z{l:cE}(h:gP l):ph l:=⟨by have:=ls h.n1;omega,by have:=ls h.n2;omega,by have:=ls h.n3;omega,by have:=h.l3;omega,by have:=h.s3;omega,by have:=h.b;omega,by have:=h.h6;omega⟩
theorem ph.s{l:cE}(h:ph l):CN l:=⟨by have:=h.n1;omega,by have:=h.n2;omega,by have:=h.n3;omega⟩
theorem Fv{l:cE}(h:ph l):wx n l=some l:=by
 have:=h.z1;have:=h.z2;have:=h.z3;have:=h.z4;unfold wx;rw[fH (by simp;omega) (by omega),fH (by simp;omega) (by omega),fH (by simp;omega) (by omega),fH (by simp;omega) (by omega)];simp only[cu,ic]
theorem J2{u e R:Type}{xs:List u}{f:u->e}(E:xs.length<2^29){L:Nat->List e->Int->Option R}{k:List e->Option R}(A:∀m a,a.length=xs.length->L (m+1) a xs.length=k a)(x:∀m i a(h:i<xs.length),a.length=i->L (m+1) a i=L m (a++[f xs[i]]) (cw .i64 i 1)){m:Nat}(F:xs.length<m):L m [] 0=k (xs.map f):=by
 have j:∀m i:Nat,i<=xs.length->xs.length<m+i->L m ((xs.take i).map f) i=k (xs.map f):=by
  intro m
  induction m with
  |zero=>intro i x C;omega
  |succ m D=>
   intro i C H
   by_cases y:i<xs.length
   ·rw[x m i _ y (by simp;omega),dE (by omega)];have:(xs.take i).map f++[f xs[i]]=(xs.take (i+1)).map f:=by
     rw[mi y,mG];rfl
    rw[this];exact D (i+1) (by omega) (by omega)
   ·have:i=xs.length:=by omega
    subst this;rw[A _ _ (by simp),sD]
 have:=j m 0 (by omega) (by omega);simpa using this
theorem yA{legs:List cE}(u:legs.length<2^29)(h:∀l∈legs,ph l)(x:2^41<=n):re n legs=some legs:=by
 unfold re;have:=J2 (f:=λl=>l) u (L:=λm a i=>Ai n m legs a i λe=>some e) (k:=some) (λm a _=>by simp[go_sem,Ai]) (λm i a j y=>by
  simp only[Ai,dv,cP,dt j,Fv (h _ (dG j)),cu,show decide ((i:Int)<legs.length)=true by simp;omega,cL]
  rw[fH (by simp;omega) (by omega),cu]) (m:=n) (by omega);simpa using this
def ky(a:List cE)(name:cq):Int:=lW (λl=>decide (l.name=name)) 0 a
def oU(a:Int):List cE->List de->Option (List cE)
 |legs,[]=>some legs
 |legs,o::e=>if ky legs o.di<0 then none else if rW (gL legs (ky legs o.di).toNat) ⟨a,o.cls,o.cM⟩ o.share=true then oU a (legs.set (ky legs o.di).toNat (w6 (gL legs (ky legs o.di).toNat) ⟨a,o.cls,o.cM⟩)) e else none
def iJ(a:List cE):Prop:=a.length<=1000/\∀l∈a,gP l
theorem rR{l:List cE}{i:Nat}(h:i<l.length):gL l i=l[i]:=by
 rw[gL,iE,eA h];rfl
theorem wN{l:List cE}{i:Nat}(h:i<l.length):gL l i∈l:=by rw[rR h];exact dG h
theorem J3{a:List cE}{name:cq}(h:0<=ky a name):∃k,ky a name=((k:Nat):Int)/\k<a.length/\(gL a k).name=name:=by
 unfold ky at*;rcases qu (p:=λl:cE=>decide (l.name=name)) (xs:=a) (i:=0) with⟨e,_⟩|⟨j,u,e,x,_⟩
 ·omega
 ·exact⟨j,by rw[e];simp,u,by rw[rR u];simpa using x⟩
theorem iJ.set{legs:List cE}(h:iJ legs){i:Nat}{l:cE}(a:gP l):iJ (legs.set i l):=by
 refine⟨by have:=h.1;simp;exact this,λx hx=>?_⟩;rcases zQ hx with hx|rfl
 ·exact h.2 x hx
 ·exact a
theorem Va{y:Int}:∀{A:List de}{j x:List cE},iJ j->oU y j A=some x->iJ x/\x.map (·.name)=j.map (·.name)
 |[],j,x,h,e=>by simp only[oU,cW] at e;subst e;exact⟨h,rfl⟩
 |o::A,j,x,h,e=>by
  unfold oU at e;split at e
  ·cases e
  ·rename_i H;obtain⟨k,C,u,D⟩:=J3 (show 0<=ky j o.di by omega);rw[C,fB] at e;split at e
   ·rename_i E;have F:=Ou (h.2 _ (wN u)) E;obtain⟨a,b⟩:=Va (h.set F) e;refine⟨a,b.trans ?_⟩;rw[List.map_set];have:(w6 (gL j k) ⟨y,o.cls,o.cM⟩).name=(j.map (·.name))[k]'(by simpa using u):=by
     rw[List.getElem_map,<-rR u];rfl
    rw[this,Qm]
   ·cases e
theorem V2{legs:List cE}{txn:Int}{ops:List de}(H:ops.length<2^29)(C:2^41<=n):∀(m i:Nat)(a:List cE),i<=ops.length->ops.length<m+i->iJ a->AF n m legs txn ops a i (λe=>some (e,true))=some (match oU txn a (ops.drop i) with|some x=>(x,true)|none=>(legs,false))
 |0,i,a,I,J,y=>by omega
 |m+1,i,a,I,J,y=>by
  have M:=y.1
  by_cases F:i<ops.length
  ·have j:cA (i:Int) (cz ops)=true:=by rw[dv,cP];simp;omega
   have D:ni n a ops[i].di=some (ky a ops[i].di):=OT (by omega) C;rw[AF,j,cL,dt F];simp only[cu,D];rw[kR F,oU]
   by_cases E:ky a ops[i].di<0
   ·have:cA (ky a ops[i].di) 0=true:=by rw[dv];simpa using E
    rw[this,cL,cJ E]
   ·have N:cA (ky a ops[i].di) 0=false:=by rw[dv];simp;omega
    obtain⟨k,P,u,Q⟩:=J3 (show 0<=ky a ops[i].di by omega);rw[N,cN,cK E,P,eG u ⟨[],[],[],0,0,0,[],[],[],[]⟩];simp only[cu,fB];rw[aea (y.2 _ (wN u)) C];simp only[cu]
    by_cases A:rW (gL a k) ⟨txn,ops[i].cls,ops[i].cM⟩ ops[i].share=true
    ·rw[cJ A,cJ A];simp only[dO,eN,cN];rw[dE (by omega),show db a (k:Int) (w6 (gL a k) ⟨txn,ops[i].cls,ops[i].cM⟩)=a.set k (w6 (gL a k) ⟨txn,ops[i].cls,ops[i].cM⟩) by simp[db]];exact V2 H C m (i+1) _ (by omega) (by omega) (y.set (Ou (y.2 _ (wN u)) A))
    ·rw[cK A,cK A];simp only[dO,gE,cL]
  ·have:i=ops.length:=by omega
   subst this;have j:cA (ops.length:Int) (cz ops)=false:=by rw[dv,cP];simp
   rw[AF,j,cN,q7];simp[oU]
theorem acJ{legs:List cE}{txn:Int}{a:List de}(e:a.length<2^29)(h:iJ legs)(j:2^41<=n):IG n legs txn a=some (match oU txn legs a with|some x=>(x,true)|none=>(legs,false)):=by
 unfold IG;rw[yA (by have:=h.1;omega) (λl e=>(h.2 l e).z) j,cu];have:=V2 (n:=n) (legs:=legs) (txn:=txn) e j n 0 legs (by omega) (by omega) h;rw[sE] at this;exact this
def mT(a:List cE)(e:Int)(j:Bool):List cE:=a.map λl=>if j=true then qJ l e else n5 l e
theorem afo{a:List cE}{txn:Int}{e:Bool}(h:iJ a)(A:2^41<=n):rA n a txn e=some (mT a txn e):=by
 have D:=h.1;unfold rA mT;exact J2 (f:=λl=>if e=true then qJ l txn else n5 l txn) (by omega) (L:=λm j i=>vO n m a txn e j i λu=>some u) (k:=some) (λm j _=>by simp[go_sem,vO]) (λm i j y E=>by
  have x:=h.2 _ (dG y)
  have C:decide ((i:Int)<a.length)=true:=by simp;omega
  cases e with
  |true=>
   simp only[vO,dv,cP,dt y,aec x A,Fv (U0 (txn:=txn) x).z,cu,C,cL,gr]
   rw[fH (by simp;omega) (by omega),cu]
  |false=>
   simp only[vO,dv,cP,dt y,U1 x A,Fv (Ov (txn:=txn) x).z,cu,C,cL,cN]
   rw[fH (by simp;omega) (by omega),cu]
   rfl) (m:=n) (by omega)
theorem afp{a:List cE}{e:Int}{j:Bool}(h:iJ a):iJ (mT a e j):=by
 refine⟨by unfold mT;rw[oC];exact h.1,λl u=>?_⟩;obtain⟨x,hx,rfl⟩:=gR.1 u;split
 ·exact U0 (h.2 x hx)
 ·exact Ov (h.2 x hx)
def iz(a:List eH)(e:Int):Int:=lW (λt=>decide (t.txn=e)) 0 a
abbrev gT(l:List eH)(i:Nat):eH:=l.getD i ⟨0,0,[]⟩
theorem Cz{l:List eH}{i:Nat}(h:i<l.length):gT l i=l[i]:=by
 rw[gT,iE,eA h];rfl
theorem OZ{a:List eH}{e:Int}(j:a.length<2^30)(u:2^41<=n):E5 n a e=some (iz a e):=wH j (L:=λm i=>A1 n m a e i (some (-1))) (f:=some) (λm=>by simp[go_sem,A1]) (λm i h=>by simp only[go_sem,A1,dt h,h]) (by omega)
theorem Ca{a:List eH}{txn:Int}(h:0<=iz a txn):∃k,iz a txn=((k:Nat):Int)/\k<a.length/\(gT a k).txn=txn:=by
 unfold iz at*;rcases qu (p:=λt:eH=>decide (t.txn=txn)) (xs:=a) (i:=0) with⟨e,_⟩|⟨j,u,e,x,_⟩
 ·omega
 ·exact⟨j,by rw[e];simp,u,by rw[Cz u];simpa using x⟩
theorem V3{a:List eH}{txn:Int}(h:iz a txn<0):iz a txn=-1/\∀t∈a,t.txn≠txn:=by
 unfold iz at*;rcases qu (p:=λt:eH=>decide (t.txn=txn)) (xs:=a) (i:=0) with⟨e,u⟩|⟨j,y,e,u,_⟩
 ·exact⟨e,λt x=>by simpa using u t x⟩
 ·omega
def rX(a:List eH)(k:Nat)(da:Int):List eH:=a.set k {gT a k with da:=da}
theorem afq{a:List eH}{k:Nat}{e:Int}(u:a.length<2^30)(j:k<a.length):lT n a k e=some (rX a k e):=by
 unfold lT rX;rw[fH (by simp;omega) (by omega),cu,ic,eG j ⟨0,0,[]⟩];simp[cu,db]
def oc(u:List cE)(e:List eH)(j:cq):Option (List cE×List eH):=
 match dr 32 j with
 |[a,b,c]=>if a=[80]/\iz e (ea b)<0/\(1<=ea b/\ea b<=99)/\(jA c).2=true then
    (oU (ea b) u (jA c).1).map λl=>(l,e++[⟨ea b,1,(jA c).1⟩]) else none
 |[a,b]=>if(a=[67]\/a=[65])/\0<=iz e (ea b)/\(gT e (iz e (ea b)).toNat).da=1/\j=a++[32]++itoa (ea b) then
    some (mT u (ea b) (decide (a=[67])),rX e (iz e (ea b)).toNat (if a=[67] then 2 else 3)) else none
 |_=>none
theorem Sh{s:cS}{record:cq}(hr:record.length<2^28)(h:iJ s.legs)(ht:s.cB.length<2^29)(H:2^41<=n):match oc s.legs s.cB record with
  |some (l,t)=>A3 n s record=some ({s with legs:=l,cB:=t},true)
  |none=>∃x,A3 n s record=some (x,false):=by
 unfold A3 oc;rw[show nR n record 32=some (dr 32 record) from B9 (c:=32) (by omega) H,cu];have E:∀w∈dr 32 record,w.length<2^28:=λw Z=>by have:=uo Z;omega
 generalize R:dr 32 record=ws at E
 match ws with
 |[]=>exact absurd R (Ft 32 record)
 |[a]=>exact⟨s,rfl⟩
 |a::b::j=>
  have S:cA (cz (a::b::j)) 2=false:=by rw[dv,cP];simp;omega
  have l0:cm (a::b::j) 0=some a:=rfl;have l1:cm (a::b::j) 1=some b:=rfl;rw[S,cN];simp only[l1,l0,cu,uJ H,OZ (show s.cB.length<2^30 by omega) H,rG];have U:=J0 b;have hE:∀(w:cq),(w=[67]\/w=[65])->a=w->j=[]->0<=iz s.cB (ea b)->(gT s.cB (iz s.cB (ea b)).toNat).da=1->record=a++[32]++itoa (ea b)->True:=λ_ _ _ _ _ _ _=>trivial;have I:cV a [32]=some (a++[32]):=fP (by have:=E a (by simp);simp;omega);have Y:(itoa (ea b)).length<=21:=ki (by omega) (by omega);have F:cV (a++[32]) (itoa (ea b))=some (a++[32]++itoa (ea b)):=fP (by have:=E a (by simp);simp;omega)
  match j with
  |[]=>
   have J:cp (cz [a,b]) 2=true:=rfl;have M:cp (cz [a,b]) 3=false:=rfl;simp only[J,M,cL,cN,gv,en,kF]
   by_cases C:0<=iz s.cB (ea b)
   ·obtain⟨k,hk,N,aa⟩:=Ca C;rw[hk,eG N ⟨0,0,[]⟩,fB];have P:(0:Int)<=(k:Int):=by omega
    have d1:decide ((0:Int)<=(k:Int))=true:=by simp
    simp only[cu,d1,cL,I,F,mS H (show-9000000000000000000<=ea b/\ea b<=9000000000000000000 by omega),afo h H,afq (show s.cB.length<2^30 by omega) N]
    by_cases y:(gT s.cB k).da=1
    ·by_cases A:record=a++[32]++itoa (ea b)
     ·by_cases e:a=[67]
      ·rw[cJ ⟨.inl e,P,y,A⟩];have u:¬ a=[80]:=by rw[e];decide
       simp only[u,e,y,fU,gF,cL,cN];rw[<-e,<-A];simp
      ·by_cases u:a=[65]
       ·rw[cJ ⟨.inr u,P,y,A⟩];have D:¬ a=[80]:=by rw[u];decide
        simp only[D,e,u,y,fU,gF,cL,cN];rw[<-u,<-A];simp[e]
       ·rw[cK (λh=>by rcases h.1 with h|h;exact e h;exact u h)]
        by_cases D:a=[80]<;>simp[e,u,D]
     ·have Q:¬ record=a++32::itoa (ea b):=by simpa using A
      rw[cK (λh=>A h.2.2.2)]
      by_cases e:a=[67]
      ·have u:¬ a=[80]:=by rw[e];decide
       simp only[u,e,y,fU,gF,cL,cN];rw[<-e];simp[A,Q]
      ·by_cases u:a=[65]
       ·have D:¬ a=[80]:=by rw[u];decide
        simp only[D,e,u,y,fU,gF,cL,cN];rw[<-u];simp[A,Q]
       ·by_cases D:a=[80]<;>simp[e,u,D]
    ·rw[cK (λh=>y h.2.2.1)]
     by_cases D:a=[80]<;>by_cases e:a=[67]<;>by_cases u:a=[65]<;>simp[y,e,u,D,-List.getD_eq_getElem?_getD]
   ·rw[cK (λh=>C h.2.1)]
    by_cases D:a=[80]<;>by_cases e:a=[67]<;>by_cases u:a=[65]<;>simp[C,e,u,D]
  |[c]=>
   have J:cp (cz [a,b,c]) 2=false:=rfl;have M:cp (cz [a,b,c]) 3=true:=rfl;have l2:cm [a,b,c] 2=some c:=rfl;simp only[J,M,l2,cL,cN,dv,kF,cu,ZZ (E c (by simp)) H]
   by_cases C:a=[80]
   ·by_cases y:iz s.cB (ea b)<0
    ·by_cases A:1<=ea b/\ea b<=99
     ·by_cases e:(jA c).2=true
      ·rw[cJ ⟨C,y,A,e⟩];have ab:=(nP (Ee e).1).2;rw[acJ (by omega) h H];simp only[C,y,A,e,ua,fU,cL,dO,eN,cN,cu];rw[fH (by simp;omega) (by omega),cu,fH (by simp;omega) (by omega),cu];cases oU (ea b) s.legs (jA c).1 with
       |none=>exact⟨_,rfl⟩
       |some x=>simp
      ·rw[cK (λh=>e h.2.2.2)];rw[pH] at e;simp[C,y,A,e,dO]
     ·rw[cK (λh=>A h.2.2.1)];simp[C,y,A]
    ·rw[cK (λh=>y h.2.1)];simp[C,y]
   ·rw[cK (λh=>C h.1)]
    by_cases e:a=[67]<;>by_cases u:a=[65]<;>simp[C,e,u]
  |c::d::j=>
   have J:cp (cz (a::b::c::d::j)) 2=false:=by rw[en,cP];simp;omega
   have M:cp (cz (a::b::c::d::j)) 3=false:=by rw[en,cP];simp;omega
   simp only[J,M,cN,kF]
   by_cases C:a=[80]<;>by_cases e:a=[67]<;>by_cases u:a=[65]<;>simp[C,e,u]
end
end
section
section
variable{n:Nat}
structure qQ(cB:List eH):Prop where
 t:∀t∈cB,(1<=t.txn/\t.txn<=99)/\iS t.ops=true
 d:(cB.map (·.txn)).Nodup
theorem acK{a:List eH}{k:Nat}{e:Int}(j:k<a.length):(rX a k e).map (·.txn)=a.map (·.txn):=by
 unfold rX;rw[List.map_set];have:({gT a k with da:=e}:eH).txn=(a.map (·.txn))[k]'(by simpa using j):=by
  rw[List.getElem_map,Cz j]
 rw[this,Qm]
theorem afr{a:List eH}{k:Nat}{u:Int}(h:qQ a)(e:k<a.length):qQ (rX a k u):=by
 refine⟨λt j=>?_,by rw[acK e];exact h.d⟩;rcases zQ j with j|rfl
 ·exact h.t t j
 ·have:=h.t _ (dG e);rw[Cz e];exact this
theorem Kq{u l:List cE}{A t:List eH}{r:cq}(H:iJ u)(D:qQ A)(h:oc u A r=some (l,t)):iJ l/\qQ t/\t.length<=A.length+1/\l.map (·.name)=u.map (·.name):=by
 unfold oc at h;split at h
 ·rename_i a b c e;split at h
  ·rename_i C;cases E:oU (ea b) u (jA c).1 with
   |none=>rw[E] at h;cases h
   |some x=>
    rw[E] at h;simp only[jc,cW,eE] at h;obtain⟨rfl,rfl⟩:=h;obtain⟨J,M⟩:=Va H E;refine⟨J,⟨λt j=>?_,?_⟩,by simp,M⟩
    ·rcases eB.1 j with j|j
     ·exact D.t t j
     ·rw[fM] at j;subst j;exact⟨C.2.2.1,(Ee C.2.2.2).1⟩
    ·rw[mG,List.map_singleton,List.nodup_append];refine⟨D.d,by simp,λx hx y I=>?_⟩;rw[fM] at I;subst I;obtain⟨t,j,rfl⟩:=gR.1 hx;exact(V3 C.2.1).2 t j
  ·cases h
 ·rename_i a b e;split at h
  ·rename_i C;simp only[cW,eE] at h;obtain⟨rfl,rfl⟩:=h;obtain⟨k,N,F,P⟩:=Ca C.2.1;rw[N,fB];refine⟨afp H,afr D F,by simp[rX],?_⟩;unfold mT;rw[Dc];refine xK λl Q=>?_;simp only[P6];split
   ·unfold qJ;split<;>rfl
   ·rfl
  ·cases h
 ·cases h
def nB:List cE->List eH->List cq->Option (List cE×List eH)
 |l,t,[]=>some (l,t)
 |l,t,r::a=>match oc l t r with
  |none=>none
  |some x=>nB x.1 x.2 a
theorem Cm:∀{j:List cq}{a l:List cE}{e t:List eH},iJ a->qQ e->nB a e j=some (l,t)->iJ l/\qQ t/\t.length<=e.length+j.length/\l.map (·.name)=a.map (·.name)
 |[],a,l,e,t,u,y,h=>by
  simp only[nB,cW,eE] at h;obtain⟨rfl,rfl⟩:=h;exact⟨u,y,by simp,rfl⟩
 |r::j,a,l,e,t,u,y,h=>by
  unfold nB at h;cases A:oc a e r with
  |none=>rw[A] at h;cases h
  |some x=>
   rw[A] at h;obtain⟨C,D,J,E⟩:=Kq u y A;obtain⟨F,H,M,I⟩:=Cm C D h;exact⟨F,H,by simp;omega,I.trans E⟩
theorem TB{s0:cS}{rs:List cq}(C:∀r∈rs,r.length<2^28)(F:rs.length<2^28)(D:2^41<=n):∀(m i:Nat)(x:cS),i<=rs.length->rs.length<m+i->iJ x.legs->qQ x.cB->x.cB.length<=i->Am n m rs i s0 x (λH=>some (H,true))=some (match nB x.legs x.cB (rs.drop i) with|some y=>({x with legs:=y.1,cB:=y.2},true)|none=>(s0,false))
 |0,i,x,I,J,j,E,M=>by omega
 |m+1,i,x,I,J,j,E,M=>by
  by_cases u:i<rs.length
  ·have a:cA (i:Int) (cz rs)=true:=by rw[dv,cP];simp;omega
   rw[Am,a,cL,dt u,cu,kR u,nB];have e:=Sh (n:=n) (s:=x) (record:=rs[i]) (C _ (dG u)) j (by omega) D;cases A:oc x.legs x.cB rs[i] with
   |none=>
    rw[A] at e;obtain⟨y,N⟩:=e;rw[N];simp only[cu,dO,gE,cL]
   |some y=>
    obtain⟨l,t⟩:=y;rw[A] at e;simp only at e;obtain⟨P,Q,R,_⟩:=Kq j E A;rw[e];simp only[cu,dO,eN,cN];rw[dE (by omega)];exact TB C F D m (i+1) _ (by omega) (by omega) P Q (by simp;omega)
  ·have:i=rs.length:=by omega
   subst this;have a:cA (rs.length:Int) (cz rs)=false:=by rw[dv,cP];simp
   rw[Am,a,cN,q7];rfl
theorem Si:∀(k i:Nat)(s:cq),s.length<1000000000000->∀r∈(eW k i s).1,r.length<=s.length
 |0,_,_,_,r,a=>by simp[eW] at a
 |k+1,i,s,e,r,a=>by
  unfold eW at a;cases h:il i s with
  |none=>rw[h] at a;simp at a
  |some q=>
   rw[h] at a;have:=wA e h;rcases eo.1 a with rfl|a
   ·omega
   ·have:=Si k (i+1) _ (by simp;omega) r a;simp at this;omega
theorem NK{s r:cq}(a:s.length<1000000000000)(e:r∈(ed s).1):r.length<=s.length:=Si _ _ _ a r e
theorem Sj{s:cS}(j:s.log.length<2^27)(a:iJ s.base)(e:2^41<=n):DM n s=some (match nB s.base [] (ed s.log).1 with|some y=>(⟨s.id,s.base,s.log.take (ed s.log).2,true,y.1,y.2⟩,true)|none=>(s,false)):=by
 have x:=rB (s:=s.log) (by omega);unfold DM;rw[H9 (by omega) e,cu];dsimp only;rw[show fg s.log 0 ((ed s.log).2:Int)=some (s.log.take (ed s.log).2) by unfold fg;rw[cJ (by omega)];simp,cu,yA (by have:=a.1;omega) (λl j=>(a.2 l j).z) e,cu];have:=TB (n:=n) (s0:=s) (rs:=(ed s.log).1) (λr u=>by have:=NK (by omega) u;omega) (by omega) e n 0 (cS.mk s.id s.base (s.log.take (ed s.log).2) true s.base []) (by omega) (by omega) a ⟨by simp,by simp⟩ (by simp);rw[sE] at this;exact this
def kI(a:List Int):cq:=eQ 44 (a.map itoa)
abbrev In(x:Int):Prop:=-1000000000000<=x/\x<=1000000000000
theorem wh{c:UInt8}{b:Nat}:∀{l:List cq},(∀w∈l,w.length<=b)->(eQ c l).length<=(b+1)*l.length
 |[],_=>by simp[eQ]
 |[a],h=>by have:=h a (by simp);simp[eQ];omega
 |a::d::l,h=>by
  have u:=h a (by simp);have e:=wh (c:=c) (l:=d::l) λw j=>h w (by simp[eo.1 j]);rw[eQ];simp only[eS,fY,Qo] at e⊢;omega
theorem Oz{xs:List Int}(J:xs.length<=1000)(h:∀x∈xs,In x)(A:2^41<=n):E8 n xs=some (kI xs):=by
 have u:∀m i:Nat,i<=xs.length->xs.length<m+i->yu n m xs (kI (xs.take i)) i some=some (kI xs):=by
  intro m
  induction m with
  |zero=>intro i D E;omega
  |succ m C=>
   intro i D E
   by_cases j:i<xs.length
   ·have e:cA (i:Int) (cz xs)=true:=by rw[dv,cP];simp;omega
    have hx:=h _ (dG j);have F:=ki (x:=xs[i]) (by omega) (by omega);have H:(kI (xs.take i)).length<=22*1000:=by
     have:=wh (c:=44) (b:=21) (l:=(xs.take i).map itoa) (λw I=>by
      obtain⟨x,hx,rfl⟩:=gR.1 I
      have:=h x (ub hx)
      exact ki (by omega) (by omega))
     simp at this
     unfold kI
     simp
     omega
    rw[yu,e,cL]
    by_cases M:0<i
    ·have a:cA 0 (i:Int)=true:=by rw[dv];simp;omega
     rw[a,cL];simp only[dt j,cu,mS A (show-9000000000000000000<=xs[i]/\xs[i]<=9000000000000000000 by omega)];rw[fP (by simp;omega),cu,fP (by simp;omega),cu,dE (by omega)];have:kI (xs.take i)++([44]:cq)++itoa xs[i]=kI (xs.take (i+1)):=by
      rw[mi j]
      unfold kI
      rw[mG,lk,sC,Ed _ _ _ (by simp;exact⟨by omega,by rintro rfl;simp at j⟩)]
     rw[this];exact C (i+1) (by omega) (by omega)
    ·have a:cA 0 (i:Int)=false:=by rw[dv];simp;omega
     rw[a,cN];simp only[dt j,cu,mS A (show-9000000000000000000<=xs[i]/\xs[i]<=9000000000000000000 by omega)];rw[fP (by omega),cu,dE (by omega)];have y:i=0:=by omega
     subst y;have:kI (xs.take 0)++itoa xs[0]=kI (xs.take (0+1)):=by
      rw[mi j]
      simp[kI,eQ]
     rw[this];exact C (0+1) (by omega) (by omega)
   ·have:i=xs.length:=by omega
    subst this;have e:cA (xs.length:Int) (cz xs)=false:=by rw[dv,cP];simp
    rw[yu,e,cN,sD]
 exact u n 0 (by omega) (by omega)
structure rY(l:cE):Prop extends ph l where
 b1:(32:UInt8)∉l.name
 b2:(32:UInt8)∉l.cI
 b3:(32:UInt8)∉l.to
 i1:In l.fb
 i2:In l.arr
 i4:∀x∈l.dy,In x
 i5:∀x∈l.dq,In x
 i6:∀x∈l.eu,In x
theorem M3{t:cq}(h:gy t=true):(32:UInt8)∉t:=λa=>by
 have e:(32:UInt8).toNat=32:=rfl;have:=(ls h).1 _ a;omega
theorem gP.r{l:cE}(h:gP l):rY l:={h.z with
 b1:=M3 h.n1,b2:=M3 h.n2,b3:=M3 h.n3
 i1:=by have:=h.fb;unfold In;omega
 i2:=by have:=h.arr;have:=h.fb;unfold In;omega
 i4:=λx hx=>by
  obtain⟨j,a,rfl⟩:=pD hx
  have:=sY h (show j<3 by have:=h.l3;omega)
  rw[F6 a] at this
  have:=h.cap
  unfold In;omega
 i5:=λx hx=>by
  obtain⟨j,a,rfl⟩:=pD hx
  have:=sY h (show j<3 by have:=h.s3;omega)
  rw[F6 (l:=l.dq) a] at this
  have:=h.cap
  unfold In;omega
 i6:=λx hx=>by
  obtain⟨j,a,rfl⟩:=pD hx
  have:=h.pA j a
  simp only[xh,du,dF,F6 a] at this
  unfold In;omega}
def Gk(l:cE):cq:=eQ 32 [l.name,l.cI,l.to,itoa l.fb,itoa l.arr,kI l.dy,kI l.dq,kI l.eu]
theorem M4{a:List Int}(j:a.length<=1000)(h:∀x∈a,In x):(kI a).length<=22000:=by
 have:=wh (c:=44) (b:=21) (l:=a.map itoa) (λw e=>by
  obtain⟨x,hx,rfl⟩:=gR.1 e
  have:=h x hx
  exact ki (by omega) (by omega));simp at this;unfold kI;omega
theorem TC{l:cE}(h:rY l)(a:2^41<=n):EF n l=some (Gk l):=by
 have e:=h.n1;have j:=h.n2;have u:=h.n3;have d1:=h.i1;have d2:=h.i2;have y:=ki (x:=l.fb) (by omega) (by omega);have A:=ki (x:=l.arr) (by omega) (by omega);have C:=M4 h.z1 h.i4;have D:=M4 h.z2 h.i5;have E:=M4 h.z3 h.i6;unfold EF;simp only[mS a (show-9000000000000000000<=l.fb/\l.fb<=9000000000000000000 by omega),mS a (show-9000000000000000000<=l.arr/\l.arr<=9000000000000000000 by omega),Oz h.z1 h.i4 a,Oz h.z2 h.i5 a,Oz h.z3 h.i6 a,cu]
 iterate 14 rw[fP (by simp;omega),cu]
 simp[Gk,eQ]
theorem Jn{x y:Int}(h:itoa x=itoa y):x=y:=by
 have j:∀u:Nat,(decDigits u).head?≠some 45:=λu e=>by
  cases a:decDigits u with
  |nil=>exact uI u a
  |cons c l=>
   rw[a] at e
   have:=vW u c (by rw[a];simp)
   simp only[LP,cW] at e
   subst e
   have:(45:UInt8).toNat=45:=rfl
   omega
 unfold itoa at h;split at h<;>split at h
 ·injection h with _ h;have:=Ow h;omega
 ·exact absurd (by rw[<-h];rfl) (j y.toNat)
 ·exact absurd (by rw[h];rfl) (j x.toNat)
 ·have:=Ow h;omega
theorem aem(x:Int):itoa x≠[]:=by
 unfold itoa;split
 ·simp
 ·exact uI _
theorem afs(x:Int):(44:UInt8)∉itoa x:=λa=>by
 have e:(44:UInt8).toNat=44:=rfl;have:=wg _ a;omega
theorem O0(x:Int):(32:UInt8)∉itoa x:=λa=>by
 have e:(32:UInt8).toNat=32:=rfl;have:=wg _ a;omega
theorem Sk{c x:UInt8}:∀{l:List cq},x∈eQ c l->x=c\/∃w∈l,x∈w
 |[],h=>by simp[eQ] at h
 |[a],h=>.inr ⟨a,by simp,h⟩
 |a::b::l,h=>by
  rw[eQ] at h;rcases eB.1 h with h|h
  ·exact .inr ⟨a,by simp,h⟩
  ·rcases eo.1 h with h|h
   ·exact .inl h
   ·rcases Sk h with h|⟨w,e,h⟩
    ·exact .inl h
    ·exact .inr ⟨w,by simp[eo.1 e],h⟩
theorem OA(xs:List Int):(32:UInt8)∉kI xs:=λa=>by
 rcases Sk a with h|⟨w,e,h⟩
 ·cases h
 ·obtain⟨x,_,rfl⟩:=gR.1 e;exact O0 x h
theorem map_inj{j A:Type}{f:j->A}(u:∀x y,f x=f y->x=y):∀{a e:List j},a.map f=e.map f->a=e
 |[],[],_=>rfl
 |[],y::e,h=>by cases h
 |x::a,[],h=>by cases h
 |x::a,y::e,h=>by
  simp only[lk,lF] at h;rw[u _ _ h.1,map_inj u h.2]
theorem TD{c:UInt8}{l:List cq}(h:l≠[])(e:∀w∈l,w≠[]):eQ c l≠[]:=by
 match l,h with
 |[a],_=>exact e a (by simp)
 |a::b::l,_=>simp[eQ]
theorem M5{e ys:List Int}(h:kI e=kI ys):e=ys:=by
 have u:∀y:List Int,∀w∈y.map itoa,w≠[]/\(44:UInt8)∉w:=λy w a=>by
  obtain⟨x,_,rfl⟩:=gR.1 a
  exact⟨aem x,afs x⟩
 by_cases hx:e=[]
 ·subst hx
  by_cases j:ys=[]
  ·exact j.symm
  ·exact absurd h.symm (TD (by simpa using j) λw a=>(u ys w a).1)
 ·by_cases j:ys=[]
  ·subst j;exact absurd h (TD (by simpa using hx) λw a=>(u e w a).1)
  ·have A:=BU (c:=44) (l:=e.map itoa) (by simpa using hx) λw a=>(u e w a).2;have C:=BU (c:=44) (l:=ys.map itoa) (by simpa using j) λw a=>(u ys w a).2;unfold kI at h;rw[h,C] at A;exact map_inj (λ_ _=>Jn) A.symm
theorem acL{a b:cE}(y:rY a)(A:rY b)(h:Gk a=Gk b):a.name=b.name/\a.cI=b.cI/\a.to=b.to/\a.fb=b.fb/\a.arr=b.arr/\a.dy=b.dy/\a.dq=b.dq/\a.eu=b.eu:=by
 have u:∀l:cE,rY l->dr 32 (Gk l)=[l.name,l.cI,l.to,itoa l.fb,itoa l.arr,kI l.dy,kI l.dq,kI l.eu]:=λl e=>by
  refine BU (by simp) λw x=>?_
  simp only[eo,mH,mI] at x
  rcases x with rfl|rfl|rfl|rfl|rfl|rfl|rfl|rfl
  ·exact e.b1
  ·exact e.b2
  ·exact e.b3
  ·exact O0 _
  ·exact O0 _
  ·exact OA _
  ·exact OA _
  ·exact OA _
 have j:=u a y;rw[h,u b A] at j;simp only[lF,jg] at j;obtain⟨C,D,E,F,H,I,J,M⟩:=j;exact⟨C.symm,D.symm,E.symm,(Jn F).symm,(Jn H).symm,(M5 I).symm,(M5 J).symm,(M5 M).symm⟩
theorem ug{e:Type}{a b:List e}(d:e)(h:a.length=b.length):(∀j,j<a.length->a.getD j d=b.getD j d)↔a=b:=by
 constructor
 ·intro x;refine List.ext_getElem h λj u y=>?_;have:=x j u;simpa[iE,u,y] using this
 ·rintro rfl j _;rfl
theorem QV{a b:dj}:a=b↔a.txn=b.txn/\a.cls=b.cls/\a.cM=b.cM:=by
 cases a;cases b;simp
theorem Rs{a b:de}:a=b↔a.di=b.di/\a.cls=b.cls/\a.cM=b.cM/\a.share=b.share:=by
 cases a;cases b;simp
theorem agi{a b:cE}(u:rY a)(A:rY b)(C:2^41<=n):Ok (Jh n a b) λr=>r=true↔a=b:=by
 unfold Jh;rw[TC u C,TC A C];simp only[cu];refine dS (n4 (λx=>dS (ok_eq (λD=>dS (ok_eq (λy=>?_) λy=>?_)) λD=>?_)) λx=>?_)
 ·have F:a.holds.length=b.holds.length:=by simp only[go_sem] at y;omega
  have J:=u.z4;have H:=kD (N:=a.holds.length) (by omega) (L:=λm i=>A6 n m i a b (some true)) (P:=λj=>decide ((gH a.holds j).txn=(gH b.holds j).txn)&&(decide ((gH a.holds j).cls=(gH b.holds j).cls)&&decide ((gH a.holds j).cM=(gH b.holds j).cM))) (k:=some true) (r:=some false) (λm=>by simp[go_sem,A6]) (λm i I=>by
   have e:decide ((i:Int)<a.holds.length)=true:=by simp;omega
   simp only[A6,dv,cP,e,cL,eG I ⟨0,0,0⟩,eG (show i<b.holds.length by omega) ⟨0,0,0⟩,cu,fC,en,dO]
   generalize(decide ((gH a.holds i).txn=(gH b.holds i).txn)&&(decide ((gH a.holds i).cls=(gH b.holds i).cls)&&decide ((gH a.holds i).cM=(gH b.holds i).cM)))=z
   cases z<;>rfl) (m:=n) (by omega);rw[H];obtain⟨M,Q,R,S,U,Y,Z,e8⟩:=acL u A x;have E:(fL a.holds.length λj=>decide ((gH a.holds j).txn=(gH b.holds j).txn)&&(decide ((gH a.holds j).cls=(gH b.holds j).cls)&&decide ((gH a.holds j).cM=(gH b.holds j).cM)))=true↔a.holds=b.holds:=by
   rw[<-ug ⟨0,0,0⟩ F,mn]
   simp only[du,dF,QV]
  split
  ·rename_i e;refine cF ⟨λ_=>?_,λ_=>rfl⟩;have:=E.1 e;cases a;cases b;simp_all
  ·rename_i e;refine cF ⟨λh=>(by cases h),λh=>absurd (E.2 (by rw[h])) e⟩
 ·refine cF ⟨λh=>(by cases h),λh=>absurd (by rw[h]) y⟩
 ·refine cF ⟨λh=>(by cases h),λh=>absurd (by rw[h]) D⟩
 ·refine cF ⟨λh=>(by cases h),λh=>absurd (by rw[h]) x⟩
theorem aft{a b:List de}(D:a.length<2^29)(E:2^41<=n):Ok (IT n a b) λr=>r=true↔a=b:=by
 unfold IT;refine dS (ok_eq (λu=>?_) λu=>?_)
 ·have y:a.length=b.length:=by simp only[go_sem] at u;omega
  have A:=kD (N:=a.length) (by omega) (L:=λm i=>AM n m a b i (some true)) (P:=λj=>decide ((gO a j).di=(gO b j).di)&&(decide ((gO a j).cls=(gO b j).cls)&&(decide ((gO a j).cM=(gO b j).cM)&&decide ((gO a j).share=(gO b j).share)))) (k:=some true) (r:=some false) (λm=>by simp[go_sem,AM]) (λm i C=>by
   have e:decide ((i:Int)<a.length)=true:=by simp;omega
   simp only[AM,dv,cP,e,cL,eG C ⟨[],0,0,0⟩,eG (show i<b.length by omega) ⟨[],0,0,0⟩,cu,fC,en,kF,dO]
   generalize(decide ((gO a i).di=(gO b i).di)&&(decide ((gO a i).cls=(gO b i).cls)&&(decide ((gO a i).cM=(gO b i).cM)&&decide ((gO a i).share=(gO b i).share))))=z
   cases z<;>rfl) (m:=n) (by omega);rw[A];have x:(fL a.length λj=>decide ((gO a j).di=(gO b j).di)&&(decide ((gO a j).cls=(gO b j).cls)&&(decide ((gO a j).cM=(gO b j).cM)&&decide ((gO a j).share=(gO b j).share))))=true↔a=b:=by
   rw[<-ug ⟨[],0,0,0⟩ y,mn]
   simp only[du,dF,Rs]
  split
  ·rename_i e;exact cF ⟨λ_=>x.1 e,λ_=>rfl⟩
  ·rename_i e;refine cF ⟨λh=>(by cases h),λh=>absurd (x.2 h) e⟩
 ·refine cF ⟨λh=>(by cases h),λh=>absurd (by rw[h]) u⟩
end
end
end Go.Ev
