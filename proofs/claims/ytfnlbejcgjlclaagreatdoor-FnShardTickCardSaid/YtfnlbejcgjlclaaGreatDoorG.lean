/- Laws of the plain functions: numbers, texts, legs, logs. -/
import Derived.Laws.BitsLemmas
import Derived.Lib.ItoaLen
import Derived.Lib.Repeat
import Derived.Lib.SplitLaws
import Derived.Lib.AtoiAllCases
import Derived.Test.YtfnlbejcgjlclaaGreatDoorD
set_option linter.all false
namespace Go.Ev
open Go
attribute[go_sem] akP bH fM iy iJ aQ mL lP bo Int.natCast_zero wR Int.ofNat_lt Oi List.all_nil Aq Ol
@[go_sem] theorem ak{a R:Type}(x:a)(f:a->Option R):ae (some x) f=f x:=rfl
@[go_sem] theorem zk(b:Bool):bR b=if b=true then some () else none:=by cases b<;>rfl
theorem y6(a b:Int):aq .i64 a b=(a+b+9223372036854775808) % 18446744073709551616-9223372036854775808:=IntKind.wrap_i64 _
theorem iA(a b:Int):aL .i64 a b=(a-b+9223372036854775808) % 18446744073709551616-9223372036854775808:=IntKind.wrap_i64 _
theorem bD{i:Nat}(h:i<2^31):aq .i64 i 1=((i+1:Nat):Int):=by rw[y6];omega
theorem bn{a:Type}{l:List a}{i:Nat}(h:i<l.length):af l i=some l[i]:=by
 simp[af,h]
theorem zl{l:aj}{i:Nat}(h:i<l.length):iC l i=some (l[i].toNat:Int):=by
 simp[iC,h]
@[go_sem] theorem cN(a b:Int):ai a b=decide (a=b):=rfl
@[go_sem] theorem bp(a b:Int):av a b=decide (a<b):=rfl
@[go_sem] theorem gx(a b:Int):bE a b=decide (a<=b):=rfl
@[go_sem] theorem fN(a:aj):de a=a.length:=rfl
@[go_sem] theorem aJ{e:Type}(a:List e):au a=a.length:=rfl
@[go_sem] theorem cn(a:Bool):ay a=!a:=rfl
@[go_sem] theorem mU(a b:aj):bf a b=decide (a=b):=rfl
@[go_sem] theorem vf(n:Nat)(a b c:Int):bj n a b c=some (decide (b<=a/\a<=c)):=by
  simp only[bj,gx]
  by_cases h:b<=a<;>simp[h]
theorem HZ{e σ R:Type}{xs:List e}(y:xs.length<2^30){L:Nat->Int->σ->Option R}{G:List e->σ->Option R}(h0:∀m st,L (m+1) xs.length st=G [] st)
  (j:∀m(i:Nat)(h:i<xs.length),(∀st,L m (aq .i64 i 1) st=G (xs.drop (i+1)) st)->∀st,L (m+1) i st=G (xs[i]::xs.drop (i+1)) st){m:Nat}(A:xs.length<m)(st:σ):L m 0 st=G xs st:=by
 have a:∀m i:Nat,i<=xs.length->xs.length<m+i->∀st,L m i st=G (xs.drop i) st:=by
  intro m
  induction m with
  |zero=>intro i h u;omega
  |succ m x=>
   intro i h u st
   by_cases hi:i<xs.length
   ·rw[lx hi];exact j m i hi (λst=>by rw[bD (by omega)];exact x (i+1) (by omega) (by omega) st) st
   ·have:i=xs.length:=by omega
    subst this;rw[aaI (iI _)];exact h0 m st
 have:=a m 0 (by omega) (by omega) st;simpa using this
theorem Ym{a R:Type}{xs:List a}(e:xs.length<2^30){L:Nat->Int->Option R}{G:List a->Option R}(h0:∀m,L (m+1) xs.length=G [])(j:∀m(i:Nat)(h:i<xs.length),L m (aq .i64 i 1)=G (xs.drop (i+1))->L (m+1) i=G (xs[i]::xs.drop (i+1))){m:Nat}(u:xs.length<m):L m 0=G xs:=HZ (σ:=Unit) e (L:=λm i _=>L m i) (G:=λxs _=>G xs) (λm _=>h0 m) (λm i h x _=>j m i h (x ())) u ()
theorem Si{R:Type}{N:Nat}(x:N<2^30){L:Nat->Int->Option R}{G:Nat->Option R}(h0:∀m,L (m+1) N=G N)(e:∀m i,i<N->L m (aq .i64 i 1)=G (i+1)->L (m+1) i=G i){m:Nat}(y:N<m):L m 0=G 0:=by
 have a:∀m i:Nat,i<=N->N<m+i->L m i=G i:=by
  intro m
  induction m with
  |zero=>intro i h j;omega
  |succ m u=>
   intro i h j
   by_cases hi:i<N
   ·exact e m i hi (by rw[bD (by omega)];exact u (i+1) (by omega) (by omega))
   ·have:i=N:=by omega
    subst this;exact h0 m
 exact a m 0 (by omega) (by omega)
def eX(N:Nat)(P:Nat->Bool):Bool:=(List.range N).all P
theorem lT{R:Type}{N:Nat}(a:N<2^30){L:Nat->Int->Option R}{P:Nat->Bool}{k r:Option R}(h0:∀m,L (m+1) N=k)(e:∀m i,i<N->L (m+1) i=if P i=true then L m (aq .i64 i 1) else r){m:Nat}(j:N<m):L m 0=if eX N P=true then k else r:=by
 have:=Si a (L:=L) (G:=λi=>if(List.range' i (N-i)).all P=true then k else r) (λm=>by rw[h0];simp) (λm i hi u=>by
  rw[e m i hi,u,show N-i=(N-(i+1))+1 by omega,aaA,Oi]
  cases P i<;>rfl) j;rw[this,eX,akJ,aaJ]
def nL{a:Type}(p:a->Bool):Nat->List a->Int
 |_,[]=>-1
 |i,x::e=>if p x=true then(i:Int) else nL p (i+1) e
theorem tX{u:Type}{p:u->Bool}:∀{xs:List u}{i:Nat},nL p i xs=-1/\(∀x∈xs,p x=false)\/∃(j:Nat)(h:j<xs.length),nL p i xs=((i+j:Nat):Int)/\p xs[j]=true/\∀(k:Nat)(_:k<j),p (xs[k]'(by omega))=false
 |[],i=>.inl ⟨rfl,by simp⟩
 |x::xs,i=>by
  unfold nL
  by_cases h:p x=true
  ·exact .inr ⟨0,by simp,by simp[h],by simpa using h,λk y=>by omega⟩
  ·rw[aE h];have h:p x=false:=by simpa using h
   rcases tX (p:=p) (xs:=xs) (i:=i+1) with⟨a,e⟩|⟨j,A,a,e,C⟩
   ·exact .inl ⟨a,by simpa[h] using e⟩
   ·refine .inr ⟨j+1,by simpa using A,by rw[a];omega,by simpa using e,λk y=>?_⟩;cases k with
    |zero=>simpa using h
    |succ k=>simpa using C k (by omega)
theorem yV{a R:Type}{xs:List a}(e:xs.length<2^30){L:Nat->Int->Option R}{p:a->Bool}{f:Int->Option R}(h0:∀m,L (m+1) xs.length=f (-1))(j:∀m(i:Nat)(h:i<xs.length),L (m+1) i=if p xs[i]=true then f i else L m (aq .i64 i 1)){m:Nat}(u:xs.length<m):L m 0=f (nL p 0 xs):=by
 have:=Si e (L:=L) (G:=λi=>f (nL p i (xs.drop i))) (λm=>by rw[h0,aaI (iI _)];rfl) (λm i hi x=>by
  rw[j m i hi,x,lx hi,nL]
  split<;>rfl) u;simpa using this
theorem db{a:Type}{l:List a}{i:Nat}(h:i<l.length)(d:a):af l i=some (l.getD i d):=by
 rw[bn h,iR,cT h];rfl
theorem pl{c:Prop}[Decidable c]{X:Option Bool}{a b:Bool}(e:c↔a=false)(h:a=true->X=some b):(if c then some false else X)=some (a&&b):=by
 cases a with
 |false=>rw[aD (e.2 rfl)];rfl
 |true=>rw[aE (λh=>by cases e.1 h),h rfl];rfl
def low(c:UInt8):Bool:=decide (97<=(c.toNat:Int)/\(c.toNat:Int)<=122)
def gw(t:aj):Bool:=t.all low&&decide (1<=(t.length:Int)/\(t.length:Int)<=8)
theorem u5{n:Nat}{t:aj}(a:t.length<2^30)(u:2^41<=n):nH n t=some (gw t):=by
 have:=λk=>Ym a (L:=λm i=>Gl n m t i k) (G:=λe=>if e.all low=true then k t else some false) (λm=>by simp[go_sem,Gl]) (λm i h j=>by
  simp only[go_sem,Gl,zl h,j,low,h];grind) (m:=n) (by omega);simp only[go_sem,nH,gw] at this⊢;rw[this]
 grind
section
section
variable{n:Nat}{l:ax}{c:Int}{R:Type}
def BD(l:ax)(c x:Int):Int:=(l.bh.drop c.toNat).foldl (aq .i64) x
def zm(a:List bc)(c x:Int):Int:=a.foldl (λx h=>if c<=h.cls/\0<h.aG then aq .i64 x h.aG else x) x
def used(l:ax)(c:Int):Int:=zm l.holds c (BD l c 0)
def pL(a:List bc)(c x:Int):Int:=a.foldl (λx h=>if h.cls=c/\h.aG<0 then aL .i64 x h.aG else x) x
theorem afY{k:Int->Int->ax->Option Int}(e:l.bh.length=3):∀m i:Nat,i<=3->3<m+i->∀x,Gn n m c x i l k=k c (BD l i x) l
 |0,i,h,j,x=>by omega
 |m+1,i,h,j,x=>by
  by_cases hi:i<3
  ·have a:i<l.bh.length:=by omega
   have:((i:Int)<3):=by omega
   simp only[go_sem,Gn,bn a,bD (i:=i) (by omega),afY e m (i+1) (by omega) (by omega),this,BD,eC,lx a]
  ·have:¬ ((i:Int)<3):=by omega
   simp only[go_sem,Gn,this,BD,eC,aaI (show l.bh.length<=i by omega)]
theorem aeU(a:l.bh.length=3)(e:l.holds.length<2^30)(A:2^41<=n){i:Nat}(hi:i<=3):KU n l i=some (used l i):=by
 have h0:=HZ e (L:=λm j x=>AF n m i x j l some) (G:=λu x=>some (zm u i x)) (λm x=>by simp[go_sem,AF,zm]) (λm i h y x=>by
  simp only[go_sem,AF,bn h,y,zm,h];grind) (m:=n) (by omega);simp only[go_sem,KU,afY a n i hi (by omega)] at h0⊢;rw[h0];rfl
theorem aeV(a:l.holds.length<2^30)(y:2^41<=n):DK n l c=some (pL l.holds c 0):=by
 have:=HZ a (L:=λm j x=>AG n m c x j l some) (G:=λe x=>some (pL e c x)) (λm x=>by simp[go_sem,AG,pL]) (λm i h u x=>by
  simp only[go_sem,AG,bn h,u,pL,h];grind) (m:=n) (by omega);simp only[go_sem,DK] at this⊢;rw[this]
abbrev gI(l:List Int)(i:Nat):Int:=l.getD i 0
def uy(l:ax)(j:Nat):Bool:=decide (0<=gI l.bA j/\gI l.bA j<=l.cap)&&decide (0<j->gI l.bA j<=gI l.bA (j-1))&&decide (0<=gI l.bh j/\gI l.bh j<=l.cap)
def BV(l:ax)(j:Nat):Bool:=decide (0<=gI l.cV j/\gI l.cV j<=1000000000)&&decide (0<j->gI l.cV j<=gI l.cV (j-1))
def pI(l:ax):Bool:=gw l.name&&(gw l.aC&&(gw l.to&&(!decide (l.aC=l.to)&&(decide (0<=l.dJ/\l.dJ<=9999)&&(decide (aq .i64 l.dJ 1<=l.arr/\l.arr<=9999)&&(decide (1<=l.cap/\l.cap<=9)&&(decide ((l.bA.length:Int)=3)&&(decide ((l.bh.length:Int)=3)&&(decide (gI l.bA 0=l.cap)&&(decide (1<=(l.cV.length:Int)/\(l.cV.length:Int)<=4)&&(!decide ((6:Int)<l.holds.length)&&(eX 3 (uy l)&&eX l.cV.length (BV l)))))))))))))
theorem aop(j:l.name.length<2^30)(u:l.aC.length<2^30)(x:l.to.length<2^30)(e:2^41<=n):PM n l=some (pI l):=by
 have y:l.bA.length=3->af l.bA 0=some (gI l.bA 0):=λh=>db (i:=0) (by omega) 0;have A:l.bA.length=3->l.bh.length=3->∀k,Aw n n 0 l k=if eX 3 (uy l)=true then k l else some false:=λa b k=>
  lT (N:=3) (by omega) (L:=λm i=>Aw n m i l k) (λm=>by simp[go_sem,Aw]) (λm i h=>by
   have c:((i:Int)<3):=by omega
   simp only[go_sem,Aw,db (show i<l.bA.length by omega) 0,db (show i<l.bh.length by omega) 0,c,uy]
   by_cases hi:0<i
   ·have:aL .i64 i 1=((i-1:Nat):Int):=by rw[iA];omega
    simp only[this,db (show i-1<l.bA.length by omega) 0,go_sem]
    grind
   ·grind) (by omega)
 have C:l.cV.length<2^30->∀k,Ax n n 0 l k=if eX l.cV.length (BV l)=true then k else some false:=λa k=>
  lT a (L:=λm i=>Ax n m i l k) (λm=>by simp[go_sem,Ax]) (λm i h=>by
   simp only[go_sem,Ax,db h 0,h,BV]
   by_cases hi:0<i
   ·have:aL .i64 i 1=((i-1:Nat):Int):=by rw[iA];omega
    simp only[this,db (show i-1<l.cV.length by omega) 0,go_sem]
    grind
   ·grind) (by omega)
 unfold PM pI;simp only[go_sem,u5 j e,u5 u e,u5 x e];refine pl (by simp) λ_=>pl (by simp) λ_=>pl (by simp) λ_=>pl (by simp) λ_=>pl (by simp) λ_=>pl (by simp) λ_=>pl (by simp) λ_=>pl (by simp) λD=>pl (by simp) λE=>?_;simp only[go_sem] at D E;rw[y (by omega),ak];refine pl (by simp) λ_=>pl (by simp) λh6=>pl (by simp) λ_=>?_;simp only[go_sem] at h6;rw[A (by omega) (by omega),C (by omega)];cases eX 3 (uy l)<;>cases eX l.cV.length (BV l)<;>rfl
abbrev gH(l:List bc)(i:Nat):bc:=l.getD i ⟨0,0,0⟩
def BE(l:ax)(j:Nat):Bool:=decide (1<=(gH l.holds j).txn/\(gH l.holds j).txn<=99)&&decide (0<j->(gH l.holds (j-1)).txn<(gH l.holds j).txn)&&decide (0<=(gH l.holds j).cls/\(gH l.holds j).cls<=2)&&decide ((gH l.holds j).aG≠0)&&decide (fO .i64 l.cap<=(gH l.holds j).aG/\(gH l.holds j).aG<=l.cap)
def qx(l:ax)(j:Nat):Bool:=decide (used l j<=gI l.bA j)&&decide (pL l.holds j 0<=gI l.bh j)
def lF(l:ax):Bool:=pI l&&(eX l.holds.length (BE l)&&eX 3 (qx l))
theorem alh(h:pI l=true):l.bA.length=3/\l.bh.length=3/\1<=l.cV.length/\l.cV.length<=4/\l.holds.length<=6/\gw l.name=true/\gw l.aC=true/\gw l.to=true:=by
 simp only[pI,bo,bH,mL,lP] at h;refine⟨by omega,by omega,by omega,by omega,by omega,h.1,h.2.1,h.2.2.1⟩
def Iq(l:ax):Prop:=l.name.length<2^30/\l.aC.length<2^30/\l.to.length<2^30
theorem aoq(h:Iq l)(a:2^41<=n):Q2 n l=some (lF l):=by
 unfold Q2 lF;simp only[go_sem,aop h.1 h.2.1 h.2.2 a];refine pl (by simp) λe=>?_;obtain⟨y,j,_,_,A,_⟩:=alh e;have u:∀k,AK n n 0 l k=if eX l.holds.length (BE l)=true then k l else some false:=λk=>
  lT (by omega) (L:=λm i=>AK n m i l k) (λm=>by simp[go_sem,AK]) (λm i h=>by
   simp only[go_sem,AK,db h ⟨0,0,0⟩,h,BE]
   by_cases hi:0<i
   ·have:aL .i64 i 1=((i-1:Nat):Int):=by rw[iA];omega
    simp only[this,db (show i-1<l.holds.length by omega) ⟨0,0,0⟩,go_sem]
    grind
   ·grind) (by omega)
 have x:∀k,Ds n n 0 l k=if eX 3 (qx l)=true then k else some false:=λk=>
  lT (by omega) (L:=λm i=>Ds n m i l k) (λm=>by simp[go_sem,Ds]) (λm i h=>by
   have c:((i:Int)<3):=by omega
   simp only[go_sem,Ds,aeU j (show l.holds.length<2^30 by omega) a (show i<=3 by omega),aeV (show l.holds.length<2^30 by omega) a,db (show i<l.bA.length by omega) 0,db (show i<l.bh.length by omega) 0,c,qx]
   grind) (by omega)
 rw[u,x];cases eX l.holds.length (BE l)<;>cases eX 3 (qx l)<;>rfl
theorem XL{net:List ax}{name:aj}(a:net.length<2^30)(e:2^41<=n):pG n net name=some (nL (λl=>decide (l.name=name)) 0 net):=yV a (L:=λm i=>GH n m net name i (some (-1))) (f:=some) (λm=>by simp[go_sem,GH]) (λm i h=>by simp only[go_sem,GH,bn h,h]) (by omega)
abbrev gL(l:List ax)(i:Nat):ax:=l.getD i ⟨[],[],[],0,0,0,[],[],[],[]⟩
def rR(net:List ax)(j:Nat):Bool:=lF (gL net j)&&decide (nL (λl=>decide (l.name=(gL net j).name)) 0 net=j)
def zG(net:List ax):Bool:=eX net.length (rR net)&&decide ((net.length:Int)<=6)
theorem aor{net:List ax}(a:net.length<2^30)(h:∀l∈net,Iq l)(e:2^41<=n):Q3 n net=some (zG net):=by
 have:=λk=>lT a (L:=λm i=>GI n m net i k) (P:=rR net) (k:=k net) (r:=some false) (λm=>by simp[go_sem,GI]) (λm i hi=>by
  have j:gL net i=net[i]:=by simp[iR,cT hi]
  have u:Iq (gL net i):=by rw[j];exact h _ (bI hi)
  simp only[go_sem,GI,db hi ⟨[],[],[],0,0,0,[],[],[],[]⟩,hi,aoq u e,XL a e,rR]
  grind) (m:=n) (by omega);unfold Q3 zG;rw[this];cases eX net.length (rR net)<;>simp[go_sem]
def qy(net:List ax):Bool:=(net.all λl=>decide (l.holds=[]))&&zG net
theorem W6{net:List ax}(a:net.length<2^30)(h:∀l∈net,Iq l)(e:2^41<=n):GZ n net=some (qy net):=by
 have:=λk=>Ym a (L:=λm i=>F1 n m net i k) (G:=λj=>if j.all (λl=>decide (l.holds=[]))=true then k net else some false) (λm=>by simp[go_sem,F1]) (λm i hi u=>by
  simp only[go_sem,F1,bn hi,hi,u]
  cases net[i].holds<;>simp) (m:=n) (by omega);unfold GZ qy;simp only[go_sem,this,aor a h e];cases(net.all λl=>decide (l.holds=[]))<;>simp
end
end
theorem J9{a b:Int}(e:-1000000<=a)(j:a<=1000000)(u:-1000000<=b)(x:b<=1000000):aq .i64 a b=a+b:=by rw[y6];omega
theorem abL{a b:Int}(e:-1000000<=a)(j:a<=1000000)(u:-1000000<=b)(x:b<=1000000):aL .i64 a b=a-b:=by rw[iA];omega
def dR{a:Type}(f:a->Int):List a->Int|[]=>0|x::e=>f x+dR f e
theorem K7{j:Type}(f:j->Int):∀(a e:List j),dR f (a++e)=dR f a+dR f e
 |[],e=>by simp[dR]
 |x::a,e=>by simp only[sE,dR,K7 f a];omega
theorem W7{e:Type}{f:e->Int}{a:Int}:∀{xs:List e},(∀x∈xs,a<=f x)->a*xs.length<=dR f xs
 |[],_=>by simp[dR]
 |x::xs,h=>by
  have u:=W7 (xs:=xs) λy j=>h y (by simp[j]);have A:=h x (by simp);simp only[dR,fD,akQ,akR];simp;omega
theorem aeW{e:Type}{f:e->Int}{a:Int}:∀{xs:List e},(∀x∈xs,f x<=a)->dR f xs<=a*xs.length
 |[],_=>by simp[dR]
 |x::xs,h=>by
  have u:=aeW (xs:=xs) λy j=>h y (by simp[j]);have A:=h x (by simp);simp only[dR,fD,akQ,akR];simp;omega
theorem QF{e:Type}{g:Int->e->Int}{f:e->Int}(j:∀x y,-1000<=x->x<=1000->-9<=f y->f y<=9->g x y=x+f y):∀(a:List e)(x:Int),(∀y∈a,-9<=f y/\f y<=9)->-1000<=x-9*a.length->x+9*a.length<=1000->a.foldl g x=x+dR f a
 |[],x,_,_,_=>by simp[dR]
 |y::A,x,h,C,D=>by
  have u:=h y (by simp);simp only[fD,akQ] at C D;rw[Aq,j x y (by omega) (by omega) u.1 u.2,QF j A _ (λz hz=>h z (by simp[hz])) (by omega) (by omega),dR];omega
def ny(c:Int)(h:bc):Int:=if c<=h.cls/\0<h.aG then h.aG else 0
def nV(c:Int)(h:bc):Int:=if h.cls=c/\h.aG<0 then-h.aG else 0
def um(l:ax)(c:Nat):Int:=dR id (l.bh.drop c)
structure gR(l:ax):Prop where
 n1:gw l.name=true
 n2:gw l.aC=true
 n3:gw l.to=true
 ne:l.aC≠l.to
 dJ:0<=l.dJ/\l.dJ<=9999
 arr:l.dJ+1<=l.arr/\l.arr<=9999
 cap:1<=l.cap/\l.cap<=9
 l3:l.bA.length=3
 s3:l.bh.length=3
 l0:gI l.bA 0=l.cap
 b:1<=l.cV.length/\l.cV.length<=4
 h6:l.holds.length<=6
 qX:∀j,j<3->uy l j=true
 su:∀j,j<l.cV.length->BV l j=true
 hold:∀h∈l.holds,(1<=h.txn/\h.txn<=99)/\(0<=h.cls/\h.cls<=2)/\h.aG≠0/\-l.cap<=h.aG/\h.aG<=l.cap
 qd:l.holds.Pairwise (λa b=>a.txn<b.txn)
 iU:∀j:Nat,j<3->um l j+dR (ny j) l.holds<=gI l.bA j/\dR (nV j) l.holds<=gI l.bh j
theorem oq{N:Nat}{P:Nat->Bool}:eX N P=true↔∀j,j<N->P j=true:=by simp[eX,jJ]
theorem XM{l:List Int}{i:Nat}(h:i<l.length):gI l i∈l:=by
 rw[gI,iR,cT h];exact bI h
theorem BF{l:List bc}{i:Nat}(h:i<l.length):gH l i=l[i]:=by
 rw[gH,iR,cT h];rfl
theorem L8{l:List Int}{i:Nat}(h:i<l.length):gI l i=l[i]:=by
 rw[gI,iR,cT h];rfl
theorem aeX{e:List bc}:e.Pairwise (λa b=>a.txn<b.txn)↔∀j,j<e.length->0<j->(gH e (j-1)).txn<(gH e j).txn:=by
 constructor
 ·intro h j u h0;rw[BF u,BF (by omega)];exact aaK.1 h _ _ (by omega) u (by omega)
 ·intro h;have x:∀d i,i+d+1<e.length->(gH e i).txn<(gH e (i+d+1)).txn:=by
   intro d
   induction d with
   |zero=>intro i hi;exact h (i+1) (by omega) (by omega)
   |succ d y=>
    intro i hi
    have C:=y i (by omega)
    have A:=h (i+(d+1)+1) hi (by omega)
    have:i+(d+1)+1-1=i+d+1:=by omega
    rw[this] at A
    omega
  refine aaK.2 λi j hi u D=>?_;have:=x (j-i-1) i (by omega);rwa[show i+(j-i-1)+1=j by omega,BF hi,BF u] at this
theorem adB{l:ax}(s3:l.bh.length=3)(cap:l.cap<=9)(qX:∀j,j<3->uy l j=true):∀x∈l.bh,0<=x/\x<=9:=λx hx=>by
 obtain⟨j,a,rfl⟩:=q9 hx;have:=qX j (by omega);simp only[uy,bo,bH,L8 a] at this;omega
theorem Wj{l:ax}(s3:l.bh.length=3)(cap:l.cap<=9)(qX:∀j,j<3->uy l j=true)(h6:l.holds.length<=6)(C:∀h∈l.holds,-9<=h.aG/\h.aG<=9)(c:Nat):used l c=um l c+dR (ny c) l.holds/\pL l.holds c 0=dR (nV c) l.holds:=by
 have u:∀y∈l.bh.drop c,(-9:Int)<=id y/\id y<=9:=λy e=>by have:=adB s3 cap qX y (Ox e);simp only[id];omega
 have J:(l.bh.drop c).length<=3:=by simp[s3]
 have D:BD l c 0=um l c:=by
  unfold BD um
  rw[eC,QF (f:=id) (λx y _ _ _ _=>by rw[J9]<;>simp only[id] at*<;>omega) _ 0 u (by omega) (by omega)]
  omega
 have b1:=W7 (a:=-9) λx hx=>(u x hx).1;have b2:=aeW (a:=9) λx hx=>(u x hx).2;constructor
 ·unfold used;rw[D];unfold zm;refine QF (f:=ny c) (λx y E F H I=>?_) _ _ (λy e=>?_) (by unfold um;omega) (by unfold um;omega)
  ·unfold ny at*;split
   ·rename_i A;rw[aD A] at*;rw[J9]<;>omega
   ·omega
  ·have:=C y e;unfold ny;split<;>omega
 ·unfold pL;rw[QF (f:=nV c) (λx y E F H I=>?_) _ 0 (λy e=>?_) (by omega) (by omega)]
  ·omega
  ·unfold nV at*;split
   ·rename_i A;rw[aD A] at*;rw[abL]<;>omega
   ·omega
  ·have:=C y e;unfold nV;split<;>omega
theorem AQ{a:Int}(e:-1000000<=a)(j:a<=1000000):fO .i64 a=-a:=by
 unfold fO;rw[IntKind.wrap_i64];omega
theorem adC{l:ax}:lF l=true↔gR l:=by
 simp only[lF,pI,bo,bH,mL,lP,oq];constructor
 ·rintro⟨⟨n1,n2,n3,ne,dJ,arr,cap,l3,s3,l0,b,h6,qX,su⟩,C,E⟩;rw[J9 (by omega) (by omega) (by omega) (by omega)] at arr;have hold:∀h∈l.holds,(1<=h.txn/\h.txn<=99)/\(0<=h.cls/\h.cls<=2)/\h.aG≠0/\-l.cap<=h.aG/\h.aG<=l.cap:=λh e=>by
   obtain⟨j,a,rfl⟩:=q9 e
   have:=C j a
   simp only[BE,bo,bH,BF a,AQ (show-1000000<=l.cap by omega) (by omega)] at this
   exact⟨this.1.1.1.1,this.1.1.2,this.1.2,this.2⟩
  refine⟨n1,n2,n3,ne,dJ,arr,cap,by omega,by omega,l0,by omega,by omega,qX,su,hold,aeX.2 λj a h0=>?_,λj a=>?_⟩
  ·have:=C j a;simp only[BE,bo,bH] at this;exact this.1.1.1.2 h0
  ·have:=E j a;obtain⟨y,A⟩:=Wj (l:=l) (by omega) cap.2 qX (by omega) (λh e=>by have:=hold h e;omega) j;simp only[qx,bo,bH,y,A] at this;exact this
 ·intro h;have F:=h.cap;refine⟨⟨h.n1,h.n2,h.n3,h.ne,h.dJ,?_,h.cap,by have:=h.l3;omega,by have:=h.s3;omega,h.l0,by have:=h.b;omega,by have:=h.h6;omega,h.qX,h.su⟩,λj a=>?_,λj a=>?_⟩
  ·rw[J9]<;>first|exact h.arr|(have:=h.dJ;omega)
  ·have u:=h.hold _ (bI a);have D:=aeX.1 h.qd j a;rw[BF a] at D;simp only[BE,bo,bH,BF a,AQ (show-1000000<=l.cap by omega) (by omega)];exact⟨⟨⟨⟨u.1,D⟩,u.2.1⟩,u.2.2.1⟩,u.2.2.2⟩
  ·obtain⟨y,A⟩:=Wj h.s3 F.2 h.qX h.h6 (λx e=>by have:=h.hold x e;omega) j;simp only[qx,bo,bH,y,A];exact h.iU j a
section
def Ok{R:Type}(o:Option R)(Q:R->Prop):Prop:=∃r,o=some r/\Q r
section
variable{R α β:Type}{Q:R->Prop}
theorem az{r:R}(h:Q r):Ok (some r) Q:=⟨r,rfl,h⟩
theorem MQ{o:Option R}{r:R}(e:o=some r)(h:Q r):Ok o Q:=⟨r,e,h⟩
theorem au9{o:Option R}{P:R->Prop}(h:Ok o P)(a:∀r,P r->Q r):Ok o Q:=let⟨r,e,j⟩:=h;⟨r,e,a r j⟩
theorem aW{o:Option α}{f:α->Option R}{P:α->Prop}(h:Ok o P)(a:∀x,P x->Ok (f x) Q):Ok (ae o f) Q:=by
 obtain⟨x,e,j⟩:=h;rw[e];exact a x j
theorem Sj{o:Option α}{f:α->Option R}{x:α}(e:o=some x)(a:Ok (f x) Q):Ok (ae o f) Q:=by
 rw[e];exact a
theorem cc{b:Bool}{x y:Option R}(a:b=true->Ok x Q)(e:b=false->Ok y Q):Ok (cond b x y) Q:=by
 cases b
 ·exact e rfl
 ·exact a rfl
theorem cw{a b:Int}{x y:Option R}(e:a<b->Ok x Q)(j:b<=a->Ok y Q):Ok (cond (av a b) x y) Q:=cc (λh=>e (by simpa[av] using h)) λh=>j (by simpa[av] using h)
theorem pM{a b:Int}{x y:Option R}(e:a<=b->Ok x Q)(j:b<a->Ok y Q):Ok (cond (bE a b) x y) Q:=cc (λh=>e (by simpa[bE] using h)) λh=>j (by simpa[bE] using h)
theorem ok_eq{a b:Int}{x y:Option R}(e:a=b->Ok x Q)(j:a≠b->Ok y Q):Ok (cond (ai a b) x y) Q:=cc (λh=>e (by simpa[ai] using h)) λh=>j (by simpa[ai] using h)
theorem qz{a b:aj}{x y:Option R}(e:a=b->Ok x Q)(j:a≠b->Ok y Q):Ok (cond (bf a b) x y) Q:=cc (λh=>e (by simpa[bf] using h)) λh=>j (by simpa[bf] using h)
theorem cd{b:Bool}{x y:Option R}(h:Ok (cond b y x) Q):Ok (cond (ay b) x y) Q:=by cases b<;>exact h
theorem iV{l:List α}{i:Int}{f:α->Option R}(h0:0<=i)(j:i<l.length)(a:∀x,x∈l->l[i.toNat]?=some x->Ok (f x) Q):Ok (ae (af l i) f) Q:=by
 have h:i.toNat<l.length:=by omega
 have e:af l i=some l[i.toNat]:=by simp[af,h0,h]
 rw[e];exact a _ (bI h) (by simp[h])
theorem Yn{l:aj}{a b:Int}{f:aj->Option R}(h0:0<=a)(e:a<=b)(j:b<=l.length)(u:Ok (f ((l.drop a.toNat).take (b.toNat-a.toNat))) Q):Ok (ae (dZ l a b) f) Q:=by
 rw[show dZ l a b=some _ by unfold dZ;rw[aD ⟨h0,e,j⟩]];exact u
theorem BG{l:List α}{a b:Int}{f:List α->Option R}(h0:0<=a)(e:a<=b)(j:b<=l.length)(u:Ok (f ((l.drop a.toNat).take (b.toNat-a.toNat))) Q):Ok (ae (dF l a b) f) Q:=by
 rw[show dF l a b=some _ by unfold dF;rw[aD ⟨h0,e,j⟩]];exact u
theorem eL{k:Nat}{a b:List α}(h:a.length+b.length<=2^32)(e:k<=1000):aN k a b=some (a++b):=by
 unfold aN;rw[aD];have:2*(a.length+b.length)*k<=2*(2^32)*1000:=Ux (by omega) e;omega
theorem dI{k:Nat}{a b:List α}{f:List α->Option R}(h:a.length+b.length<=2^32)(e:k<=1000)(j:Ok (f (a++b)) Q):Ok (ae (aN k a b) f) Q:=by
 rw[eL h e];exact j
theorem fj{a b:aj}(h:a.length+b.length<=2^40):aO a b=some (a++b):=by
 unfold aO;rw[aE];have:IntKind.i64.max=9223372036854775807:=rfl;omega
theorem atm{a b:aj}{f:aj->Option R}(h:a.length+b.length<=2^40)(e:Ok (f (a++b)) Q):Ok (ae (aO a b) f) Q:=by
 rw[fj h];exact e
theorem xp{a b:Int}{f:Int->Option R}(h:0<b)(h0:0<=a)(j:a<2^62)(e:Ok (f (a/b)) Q):Ok (ae (j5 .i64 a b) f) Q:=by
 have:a/b<=a:=Oy b h0;have u:0<=a/b:=Jh h0 (by omega);rw[show j5 .i64 a b=some (a/b) by unfold j5;rw[aE (by omega),IntKind.wrap_i64,akS h0];congr 1;omega];exact e
theorem xq{a b:Int}{f:Int->Option R}(h:0<b)(h0:0<=a)(e:Ok (f (a % b)) Q):Ok (ae (kG a b) f) Q:=by
 rw[show kG a b=some (a % b) by unfold kG;rw[aE (by omega),aaL h0]];exact e
end
theorem js{a b:Int}(e:-4611686018427387904<=a)(j:a<=4611686018427387903)(u:-4611686018427387904<=b)(x:b<=4611686018427387903):aq .i64 a b=a+b:=by rw[y6];omega
theorem nq{a b:Int}(e:-4611686018427387904<=a)(j:a<=4611686018427387903)(u:-4611686018427387904<=b)(x:b<=4611686018427387903):aL .i64 a b=a-b:=by rw[iA];omega
theorem oW{a b:Int}(h:-9223372036854775808<=a*b/\a*b<=9223372036854775807):cR .i64 a b=a*b:=by unfold cR;rw[IntKind.wrap_i64];omega
theorem atn{a b:Int}(h0:0<=a)(C:a<2^62)(j:0<=b)(D:b<2^62):0<=dA .i64 a b/\dA .i64 a b<2^62:=by
 obtain⟨x,rfl⟩:=gD h0;obtain⟨y,rfl⟩:=gD j;have hx:x<2^62:=by omega
 have u:y<2^62:=by omega
 have hz:=Nat.xor_lt_two_pow hx u;have e:dA .i64 x y=((x^^^y:Nat):Int):=by
  unfold dA
  have A:IntKind.i64.bits=64:=rfl
  simp only[A,BitVec.ofInt_natCast,BitVec.toNat_xor,BitVec.toNat_ofNat,Fo (show x<2^64 by omega),Fo (show y<2^64 by omega)]
  rw[IntKind.wrap_i64]
  omega
 rw[e];omega
structure bU(N:Int)(r:Rd):Prop where
 b:∀x∈r.b,0<=x/\x<256
 l:r.b.length<=2000
 lo:0<=r.p
 hi:r.p<=N
theorem bU.mono{N M:Int}{r:Rd}(h:bU N r)(a:N<=M):bU M r:=⟨h.b,h.l,h.lo,by have:=h.hi;omega⟩
theorem WB{n:Nat}{N k:Int}{r:Rd}(h:bU N r)(Z:N<=1000000000000):Ok (aI n r k) λx=>(0<k->0<=x.1/\x.1<k)/\(k<=0->x.1=0)/\bU (N+1) x.2:=by
 have j:=h.lo;have h2:=h.hi;have h3:=h.l;have A:∀r',r'=Rd.mk r.b (aq .i64 r.p 1)->bU (N+1) r':=λr' e=>by
  subst e
  exact⟨h.b,h.l,by show 0<=aq .i64 r.p 1;rw[js]<;>omega,by show aq .i64 r.p 1<=_;rw[js]<;>omega⟩
 have ep:aL .i64 (aq .i64 r.p 1) 1=r.p:=by rw[y6,iA];omega
 unfold aI;rw[ep];refine cw (λH=>az ⟨λ_=>by omega,λ_=>rfl,A _ rfl⟩) λH=>ok_eq (λ_=>az ⟨λ_=>by show(0:Int)<=0/\(0:Int)<k;omega,λ_=>rfl,A _ rfl⟩) λI=>cw (λE=>?_) λE=>?_
 ·refine iV j (by simpa[go_sem] using E) λx hx _=>?_;have F:=h.b x hx;have:dm .i64 x=x:=by unfold dm;rw[IntKind.wrap_i64];omega
  rw[this];refine xq (by omega) F.1 (az ⟨λ_=>⟨Ji _ (by omega),Jj _ (by omega)⟩,λ_=>by omega,A _ rfl⟩)
 ·have u:0<au r.b:=by simp only[go_sem] at I⊢;omega
  have tE:au r.b<=2000:=by simp only[go_sem];omega
  refine xq u j (iV (Ji _ (by omega)) (Jj _ u) λx hx _=>?_);have F:=h.b x hx;have J:cR .i64 r.p 7=r.p*7:=oW (by omega);rw[J,js (by omega) (by omega) (by omega) (by omega)];refine xq u (by omega) (iV (Ji _ (by omega)) (Jj _ u) λy M _=>?_);have hc:=h.b y M;refine xp u j (by omega) ?_;have C:0<=r.p/au r.b:=Jh j (by omega);have D:r.p/au r.b<=r.p:=Oy _ j;generalize hz:r.p/au r.b=z at C D⊢;have P:dm .i64 x=x:=by unfold dm;rw[IntKind.wrap_i64];omega
  have S:dm .i64 y=y:=by unfold dm;rw[IntKind.wrap_i64];omega
  have U:aq .i64 (aq .i64 (aq .i64 (cR .i64 (dm .i64 x) 131) (cR .i64 (dm .i64 y) 1117)) (cR .i64 r.p 29)) (cR .i64 z 53)=x*131+y*1117+r.p*29+z*53:=by
   rw[P,S,oW (by omega),oW (by omega),oW (by omega),oW (by omega),y6,y6,y6];omega
  rw[U];refine xp (by omega) (by omega) (by omega) ?_;have Y:=atn (a:=x*131+y*1117+r.p*29+z*53) (b:=(x*131+y*1117+r.p*29+z*53)/64) (by omega) (by omega) (by omega) (by omega);exact xq (by omega) Y.1 (az ⟨λ_=>⟨Ji _ (by omega),Jj _ (by omega)⟩,λ_=>by omega,A _ rfl⟩)
theorem cJ{R:Type}{Q:R->Prop}{n:Nat}{N k:Int}{r:Rd}{f:Int×Rd->Option R}(h:bU N r)(j:N<=1000000000000)(a:0<k)(K:∀x e,0<=x->x<k->bU (N+1) e->Ok (f (x,e)) Q):Ok (ae (aI n r k) f) Q:=aW (WB h j) λx hx=>K x.1 x.2 (hx.1 a).1 (hx.1 a).2 hx.2.2
theorem Ir{R:Type}{Q:R->Prop}{n:Nat}{N:Int}{r:Rd}{list:List aj}{f:aj×Rd->Option R}(h:bU N r)(e:N<=1000000000000)(C:0<list.length)(K:∀x a,x∈list->bU (N+1) a->Ok (f (x,a)) Q):Ok (ae (oR n r list) f) Q:=by
 refine aW (P:=λx=>x.1∈list/\bU (N+1) x.2) ?_ λx hx=>K x.1 x.2 hx.1 hx.2;unfold oR;exact cJ h e (by simp only[go_sem];omega) λx a h0 j u=>iV h0 (by simpa[go_sem] using j) λy A _=>az ⟨A,u⟩
end
section
section
variable{n:Nat}{l:ax}{txn:Int}
def eA(txn:Int):List bc->Nat
 |[]=>0
 |h::a=>if h.txn<txn then eA txn a+1 else 0
def j3(txn:Int)(a:List bc):Bool:=(a[eA txn a]?).any λh=>decide (h.txn=txn)
theorem K8:∀{hs:List bc},eA txn hs<=hs.length
 |[]=>iI _
 |h::hs=>by
  have:=K8 (hs:=hs);simp only[eA,fD];split<;>omega
theorem Pt{h:bc}{a:List bc}:eA txn (h::a)=if h.txn<txn then eA txn a+1 else 0:=rfl
theorem ar1{k:Int->Int->ax->Option (Int×Bool)}(a:l.holds.length<2^30)(j:2^41<=n):Dj n n txn 0 l k=k txn (eA txn l.holds:Nat) l:=by
 have:=Si a (L:=λm i=>Dj n m txn i l k) (G:=λi=>k txn ((i+eA txn (l.holds.drop i):Nat):Int) l)
  (λm=>by simp[go_sem,Dj,eA]) (λm i hi e=>by
    simp only[go_sem,Dj,bn hi,hi,e]
    rw[lx hi,Pt]
    by_cases h:l.holds[i].txn<txn
    ·rw[aD h,aD h];congr 2;omega
    ·rw[aE h,aE h];rfl) (m:=n) (by omega);simpa using this
theorem W8(a:l.holds.length<2^30)(e:2^41<=n):Hj n l txn=some (((eA txn l.holds:Nat):Int),j3 txn l.holds):=by
 unfold Hj j3;rw[ar1 a e]
 by_cases h:eA txn l.holds<l.holds.length
 ·simp[go_sem,bn h,h]
 ·simp[go_sem,h,pz (show l.holds.length<=eA txn l.holds by omega)]
def n9(l:ax)(c:Nat):Int:=um l c+dR (ny c) l.holds
def qY(l:ax)(c:Nat):Int:=dR (nV c) l.holds
theorem RR(h:gR l)(c:Nat):used l c=n9 l c/\pL l.holds c 0=qY l c:=
 Wj h.s3 h.cap.2 h.qX h.h6 (λx hx=>by have:=h.hold x hx;have:=h.cap;omega) c
theorem Lj{e:Type}{f:e->Int}{xs:List e}(h:∀x∈xs,0<=f x):0<=dR f xs:=by
 have:=W7 (a:=0) h;omega
theorem W9(c:Int)(h:bc):0<=ny c h:=by unfold ny;split<;>omega
theorem Xa(c:Int)(h:bc):0<=nV c h:=by unfold nV;split<;>omega
theorem aos(h:gR l)(c:Nat):0<=um l c:=Lj λx hx=>(adB h.s3 h.cap.2 h.qX x (Ox hx)).1
theorem ar2(h:gR l)(c:Nat):0<=n9 l c:=by
 have a:=aos h c;have e:=Lj (f:=ny c) (xs:=l.holds) λx _=>W9 c x;unfold n9;omega
theorem ar3(c:Nat):0<=qY l c:=Lj λx _=>Xa c x
theorem xj(h:gR l){c:Nat}(a:c<3):0<=gI l.bA c/\gI l.bA c<=l.cap/\0<=gI l.bh c/\gI l.bh c<=l.cap:=by
 have:=h.qX c a;simp only[uy,bo,bH] at this;omega
def iU(l:ax)(c:Nat):Int:=(List.range (c+1)).foldl (λx i=>min x (gI l.bA i-n9 l i)) l.cap
theorem Xb{f:Nat->Int}{z:Int}:∀(a:List Nat)(x:Int),z<=a.foldl (λx i=>min x (f i)) x↔z<=x/\∀j∈a,z<=f j
 |[],x=>by simp
 |y::u,x=>by
  rw[Aq,Xb u];simp only[cO,forall_eq_or_imp];constructor
  ·rintro⟨A,e⟩;exact⟨by omega,by omega,e⟩
  ·rintro⟨A,e,C⟩;exact⟨by omega,C⟩
theorem Ro{c:Nat}{z:Int}:z<=iU l c↔z<=l.cap/\∀j,j<=c->z<=gI l.bA j-n9 l j:=by
 unfold iU;rw[Xb];simp only[CH];constructor
 ·exactλh=>⟨h.1,λj a=>h.2 j (by omega)⟩
 ·exactλh=>⟨h.1,λj a=>h.2 j (by omega)⟩
theorem alX{c:Nat}{r:Int}(h:∀z,z<=r↔z<=l.cap/\∀j,j<=c->z<=gI l.bA j-n9 l j):r=iU l c:=by
 have a:=(h r).1 (akw _);have e:=Ro.2 a;have u:=(h _).2 (Ro.1 (akw (iU l c)));omega
theorem aeY(h:gR l){c:Nat}(a:c<=2):0<=iU l c:=by
 refine Ro.2 ⟨by have:=h.cap;omega,λj e=>?_⟩;have:=(h.iU j (by omega)).1;unfold n9;omega
theorem Xc(h:gR l){c:Nat}(a:c<3):0<=n9 l c/\n9 l c<=gI l.bA c/\n9 l c<=9:=by
 have e:=ar2 h c;have j:=(h.iU c a).1;have u:=xj h a;have:=h.cap;unfold n9 at*;omega
theorem aeZ(h:gR l){c:Nat}(a:c<3):0<=qY l c/\qY l c<=gI l.bh c/\qY l c<=9:=by
 have e:=ar3 (l:=l) c;have j:=(h.iU c a).2;have u:=xj h a;have:=h.cap;unfold qY at*;omega
theorem Yo{k:Int->Option Int}(h:gR l)(u:2^41<=n){c:Nat}(y:c<=2):∀m j x,j<=c+1->c+1<m+j->Dk n m c x j l k=k ((List.range' j (c+1-j)).foldl (λx i=>min x (gI l.bA i-n9 l i)) x)
 |0,j,x,A,C=>by omega
 |m+1,j,x,A,C=>by
  by_cases E:j<=c
  ·have b1:=Xc h (show j<3 by omega);have b2:=xj h (show j<3 by omega);have b3:=h.cap;have e:aL .i64 (gI l.bA j) (n9 l j)=gI l.bA j-n9 l j:=nq (by omega) (by omega) (by omega) (by omega);have a:(j:Int)<=c:=by omega
   have D:j<l.bA.length:=by have:=h.l3;omega
   simp only[Dk,gx,go_sem,a,db D 0,aeU h.s3 (show l.holds.length<2^30 by have:=h.h6;omega) u (show j<=3 by omega),(RR h j).1];change (if aL .i64 (gI l.bA j) (n9 l j)<x then _ else _)=_;rw[e,bD (by omega),Yo h u y m (j+1) _ (by omega) (by omega),Yo h u y m (j+1) _ (by omega) (by omega),show c+1-j=(c+1-(j+1))+1 by omega,aaA,Aq];split
   ·rw[aaM (by omega)]
   ·rw[aaN (by omega)]
  ·have:j=c+1:=by omega
   subst this;have a:¬ (((c+1:Nat):Int)<=c):=by omega
   simp only[Dk,gx,go_sem,a,Ao,List.range'_zero,Ol]
theorem ae0(h:gR l)(a:2^41<=n){c:Nat}(e:c<=2):Hk n l c=some (iU l c):=by
 unfold Hk iU;have:=Yo (k:=some) h a e n 0 l.cap (by omega) (by omega);rw[akJ];exact this
def su(l:ax):Int:=gI l.cV (min (iU l 0) (l.cV.length-1)).toNat
theorem ar4(h:gR l)(a:2^41<=n):Re n l=some (su l):=by
 have e:=aeY h (show 0<=2 by omega);have u:=h.b;unfold Re su;rw[show(0:Int)=((0:Nat):Int) from rfl,ae0 h a (by omega)];simp only[go_sem];split
 ·rw[aaM (by omega),abL (by omega) (by omega) (by omega) (by omega)];rw[show((l.cV.length:Int)-1)=((l.cV.length-1:Nat):Int) by omega,db (by omega) 0];simp[ak]
 ·rw[aaN (by omega)];obtain⟨r,j⟩:=gD e;rw[j,db (by omega) 0];simp[ak]
def vI(l:ax)(h:bc)(share:Int):Bool:=!j3 h.txn l.holds&&(!decide ((6:Int)<=l.holds.length)&&(decide (1<=h.txn/\h.txn<=99)&&(decide (0<=h.cls/\h.cls<=2)&&(!decide (h.aG=0)&&(decide (-l.cap<=h.aG/\h.aG<=l.cap)&&
 (if 0<h.aG then decide (h.aG<=iU l h.cls.toNat)&&decide (su l<=share) else decide (-h.aG<=gI l.bh h.cls.toNat-qY l h.cls.toNat)))))))
def pQ(h:bc)(a:List bc):List bc:=a.take (eA h.txn a)++[h]++a.drop (eA h.txn a)
def BH(l:ax)(h:bc):ax:={l with holds:=pQ h l.holds}
theorem afZ{R:Type}{h:bc}{hs:List bc}(x:hs.length<=6)(f:List bc->Option R):(ae (dF hs 0 (eA h.txn hs:Nat)) λa=>ae (aN 24 [] a) λe=>ae (aN 24 e [h]) λj=>ae (dF hs (eA h.txn hs:Nat) (au hs)) λu=>ae (aN 24 j u) f)=f (pQ h hs):=by
 have:=K8 (txn:=h.txn) (hs:=hs);rw[show dF hs 0 (eA h.txn hs:Nat)=some (hs.take (eA h.txn hs)) by unfold dF;rw[aD (by omega)];simp,
  show dF hs (eA h.txn hs:Nat) (au hs)=some (hs.drop (eA h.txn hs)) by unfold dF au;rw[aD (by omega)];simp[Fs]];simp only[ak];rw[eL (by simp;omega) (by omega)];simp only[ak,iw];rw[eL (by simp;omega) (by omega)];simp only[ak];rw[eL (by simp;omega) (by omega)];rfl
theorem aqn{h:bc}{share:Int}(a:gR l)(E:2^41<=n):QA n l h share=some (if vI l h share=true then(BH l h,true) else(l,false)):=by
 have Y:=a.cap;have h6:=a.h6;unfold QA vI BH;rw[W8 (by omega) E];simp only[ak]
 by_cases e:j3 h.txn l.holds=true
 ·simp[e]
 rw[sC] at e
 by_cases x:(6:Int)<=l.holds.length
 ·simp[e,x,go_sem]
 by_cases A:1<=h.txn/\h.txn<=99
 rotate_left
 ·simp[e,x,A,go_sem]
 by_cases C:0<=h.cls/\h.cls<=2
 rotate_left
 ·simp[e,x,A,C,go_sem]
 by_cases H:h.aG=0
 ·simp[e,x,A,C,H,go_sem]
 by_cases M:-l.cap<=h.aG/\h.aG<=l.cap
 rotate_left
 ·simp[e,x,A,C,H,M,go_sem,AQ (show-1000000<=l.cap by omega) (by omega)]
 obtain⟨c,u⟩:=gD C.1;have P:c<=2:=by omega
 have b1:=xj a (show c<3 by omega);have b2:=aeZ a (show c<3 by omega);have Q:Hk n l h.cls=some (iU l c):=by rw[u];exact ae0 a E P
 have R:af l.bh h.cls=some (gI l.bh c):=by rw[u];exact db (by have:=a.s3;omega) 0
 have S:DK n l h.cls=some (qY l c):=by rw[aeV (by omega) E,u,(RR a c).2]
 have e4:h.cls.toNat=c:=by omega
 have e5:aL .i64 (gI l.bh c) (qY l c)=gI l.bh c-qY l c:=nq (by omega) (by omega) (by omega) (by omega);have U:fO .i64 h.aG=-h.aG:=AQ (by omega) (by omega);simp only[Q,R,S,e4,e5,U,ar4 a E,ak,e,aH,go_sem,x,A,C,H,AQ (show-1000000<=l.cap by omega) (show l.cap<=1000000 by omega),M,iy,fM,gE,dy,fc,ga,pA,jI]
 by_cases D:0<h.aG
 ·have F:¬ h.aG<0:=by omega
  by_cases y:h.aG<=iU l c
  ·have j:¬ iU l c<h.aG:=by omega
   by_cases N:su l<=share
   ·have I:¬ share<su l:=by omega
    simp[D,F,y,j,N,I];exact afZ h6 (λJ=>some ({l with holds:=J},true))
   ·have I:share<su l:=by omega
    simp[D,y,j,N,I]
  ·have j:iU l c<h.aG:=by omega
   simp[D,y,j]
 ·have F:h.aG<0:=by omega
  generalize gI l.bh c-qY l c=z
  by_cases y:-h.aG<=z
  ·have j:¬ z< -h.aG:=by omega
   simp[D,F,y,j];exact afZ h6 (λJ=>some ({l with holds:=J},true))
  ·have j:z< -h.aG:=by omega
   simp[D,F,y,j]
end
end
section
section
variable{n:Nat}{l:ax}{txn:Int}
abbrev wJ(e:List bc):Prop:=e.Pairwise (λa b=>a.txn<b.txn)
theorem VB:∀{j:List bc},wJ j->∃a b,j=a++b/\eA txn j=a.length/\(∀x∈a,x.txn<txn)/\(∀x∈b,txn<=x.txn)
 |[],_=>⟨[],[],rfl,rfl,by simp,by simp⟩
 |h::j,u=>by
  obtain⟨y,A⟩:=Fp.1 u
  by_cases c:h.txn<txn
  ·obtain⟨a,b,e,C,D,E⟩:=VB A;refine⟨h::a,b,by rw[e];rfl,by rw[Pt,aD c,C];rfl,λx hx=>?_,E⟩;rcases cO.1 hx with rfl|hx
   ·exact c
   ·exact D x hx
  ·refine⟨[],h::j,rfl,by rw[Pt,aE c];rfl,by simp,λx hx=>?_⟩;rcases cO.1 hx with rfl|hx
   ·omega
   ·have:=y x hx;omega
theorem Ka{j:List bc}(u:wJ j)(h:j3 txn j=true):∃a x b,j=a++x::b/\eA txn j=a.length/\x.txn=txn/\(∀y∈a,y.txn<txn)/\(∀y∈b,txn<y.txn):=by
 obtain⟨a,b,e,A,C,E⟩:=VB (txn:=txn) u;unfold j3 at h;rw[A] at h;cases b with
 |nil=>subst e;simp at h
 |cons x b=>
  subst e;simp at h;refine⟨a,x,b,rfl,A,h,C,λy D=>?_⟩;have:=(Fp.1 (Fq.1 u).2.1).1 y D;omega
theorem abM{j:List bc}(A:wJ j)(h:j3 txn j=false):∃a b,j=a++b/\eA txn j=a.length/\(∀y∈a,y.txn<txn)/\(∀y∈b,txn<y.txn):=by
 obtain⟨a,b,e,C,D,E⟩:=VB (txn:=txn) A;refine⟨a,b,e,C,D,λy u=>?_⟩;unfold j3 at h;rw[C] at h;cases b with
 |nil=>simp at u
 |cons x b=>
  subst e;simp at h;have hx:=E x (by simp);rcases cO.1 u with rfl|u
  ·omega
  ·have:=(Fp.1 (Fq.1 A).2.1).1 y u;omega
theorem adD{j:List bc}(y:wJ j):j3 txn j=true↔∃x∈j,x.txn=txn:=by
 constructor
 ·intro h;obtain⟨a,x,b,e,_,u,_⟩:=Ka y h;exact⟨x,by rw[e];simp,u⟩
 ·rintro⟨x,hx,C⟩;cases h:j3 txn j with
  |true=>rfl
  |false=>
   obtain⟨a,b,e,_,u,A⟩:=abM y h;rw[e] at hx;rcases cU.1 hx with hx|hx
   ·have:=u x hx;omega
   ·have:=A x hx;omega
theorem Xd(c:Int)(h:bc):ny c h=if c<=h.cls/\0<h.aG then h.aG else 0:=rfl
theorem Xe(c:Int)(h:bc):nV c h=if h.cls=c/\h.aG<0 then-h.aG else 0:=rfl
theorem alY{h:bc}{a b:List bc}(e:eA h.txn (a++b)=a.length):pQ h (a++b)=a++h::b:=by
 unfold pQ;rw[e];simp
theorem adE{f:bc->Int}{h:bc}{a:List bc}:dR f (pQ h a)=dR f a+f h:=by
 unfold pQ;have:dR f a=dR f (a.take (eA h.txn a))+dR f (a.drop (eA h.txn a)):=by rw[<-K7,akT]
 rw[K7,K7,this];simp only[dR];omega
theorem adF{h:bc}{hs:List bc}:(pQ h hs).length=hs.length+1:=by
 have:=K8 (txn:=h.txn) (hs:=hs);simp only[pQ,dG,lv,oN,yx];omega
theorem aot{h x:bc}{a:List bc}:x∈pQ h a↔x∈a\/x=h:=by
 unfold pQ;rw[cU,cU,fe];have:x∈a↔x∈a.take (eA h.txn a)\/x∈a.drop (eA h.txn a):=by rw[<-cU,akT]
 rw[this];constructor
 ·rintro((h|h)|h)
  ·exact .inl (.inl h)
  ·exact .inr h
  ·exact .inl (.inr h)
 ·rintro((h|h)|h)
  ·exact .inl (.inl h)
  ·exact .inr h
  ·exact .inl (.inr h)
theorem aou{h:bc}{j:List bc}(A:wJ j)(C:j3 h.txn j=false):wJ (pQ h j):=by
 obtain⟨a,b,e,D,E,F⟩:=abM A C;subst e;rw[alY D];obtain⟨H,I,J⟩:=Fq.1 A;refine Fq.2 ⟨H,Fp.2 ⟨F,I⟩,λx hx y u=>?_⟩;rcases cO.1 u with rfl|u
 ·exact E x hx
 ·exact J x hx y u
theorem Xf{h:bc}{share:Int}(e:gR l)(y:vI l h share=true):gR (BH l h):=by
 simp only[vI,bo,bH,mL,lP] at y;obtain⟨D,P,E,F,H,I,a⟩:=y;refine{e with h6:=?_,hold:=?_,qd:=aou e.qd D,iU:=?_}
 ·show(pQ h l.holds).length<=6;rw[adF];omega
 ·intro x hx;rcases aot.1 hx with hx|rfl
  ·exact e.hold x hx
  ·exact⟨E,F,H,I⟩
 ·intro j J;have A:=e.iU j J;show um l j+dR (ny j) (pQ h l.holds)<=gI l.bA j/\dR (nV j) (pQ h l.holds)<=gI l.bh j;rw[adE,adE]
  by_cases C:0<h.aG
  ·rw[aD C] at a;simp only[bo,bH] at a;have M:=Ro.1 a.1;have n0:nV j h=0:=by rw[Xe];rw[aE (by omega)]
   refine⟨?_,by rw[n0];omega⟩;rw[Xd];split
   ·rename_i u;have:=M.2 j (by omega);unfold n9 at this;omega
   ·have:=A.1;omega
  ·rw[aE C] at a;simp only[bH] at a;have N:ny j h=0:=by rw[Xd];rw[aE (by omega)]
   refine⟨by rw[N];omega,?_⟩;rw[Xe];split
   ·rename_i u;have:h.cls.toNat=j:=by omega
    rw[this] at a;unfold qY at a;omega
   ·have:=A.2;omega
def kL(txn:Int)(a:List bc):List bc:=if j3 txn a=true then a.take (eA txn a)++a.drop (eA txn a+1) else a
def qA(l:ax)(txn:Int):ax:={l with holds:=kL txn l.holds}
abbrev qe(a:List bc)(txn:Int):bc:=gH a (eA txn a)
def rS(a:List Int)(i x:Int):List Int:=aX a i (aq .i64 (gI a i.toNat) x)
def uo(l:ax)(txn:Int):ax:=if j3 txn l.holds=true then{qA l txn with bh:=rS l.bh (qe l.holds txn).cls (qe l.holds txn).aG} else l
theorem Vg{a b:List bc}{x:bc}(e:eA txn (a++x::b)=a.length)(hx:x.txn=txn):kL txn (a++x::b)=a++b:=by
 unfold kL;have:j3 txn (a++x::b)=true:=by
  unfold j3
  rw[e]
  simp[hx]
 rw[aD this,e];simp
theorem aov{x:bc}{hs:List bc}(u:wJ hs):x∈kL txn hs↔x∈hs/\x.txn≠txn:=by
 cases j:j3 txn hs with
 |true=>
  obtain⟨a,y,b,e,C,A,D,E⟩:=Ka u j;subst e;rw[Vg C A];simp only[cU,cO];constructor
  ·rintro(h|h)
   ·exact⟨.inl h,by have:=D x h;omega⟩
   ·exact⟨.inr (.inr h),by have:=E x h;omega⟩
  ·rintro⟨h|h|h,F⟩
   ·exact .inl h
   ·subst h;exact absurd A F
   ·exact .inr h
 |false=>
  have:kL txn hs=hs:=by unfold kL;rw[aE (by simp[j])]
  rw[this];refine⟨λh=>⟨h,λe=>?_⟩,λh=>h.1⟩;have:=(adD u).2 ⟨x,h,e⟩;rw[j] at this;cases this
theorem aow{hs:List bc}(j:wJ hs):wJ (kL txn hs):=by
 cases u:j3 txn hs with
 |true=>
  obtain⟨a,y,b,e,A,C,I,J⟩:=Ka j u;subst e;rw[Vg A C];obtain⟨D,E,F⟩:=Fq.1 j;exact Fq.2 ⟨D,(Fp.1 E).2,λx hx y H=>F x hx y (by simp[H])⟩
 |false=>
  have:kL txn hs=hs:=by unfold kL;rw[aE (by simp[u])]
  rw[this];exact j
theorem DN{f:bc->Int}{j:List bc}(A:wJ j)(C:j3 txn j=true):dR f (kL txn j)=dR f j-f (qe j txn)/\qe j txn∈j/\(qe j txn).txn=txn:=by
 obtain⟨a,y,b,e,u,x,D,E⟩:=Ka A C;subst e;have:qe (a++y::b) txn=y:=by
  unfold qe
  rw[u,BF (by simp)]
  simp
 rw[Vg u x,this];refine⟨by simp only[K7,dR];omega,by simp,x⟩
theorem adG{hs:List bc}:(kL txn hs).length<=hs.length:=by
 unfold kL;split
 ·simp only[dG,lv,oN];omega
 ·omega
theorem Xg(a:gR l):gR (qA l txn):=by
 cases e:j3 txn l.holds with
 |false=>
  have:qA l txn=l:=by unfold qA kL;rw[aE (by simp[e])]
  rw[this];exact a
 |true=>
  refine{a with h6:=?_,hold:=?_,qd:=aow a.qd,iU:=?_}
  ·have:=adG (txn:=txn) (hs:=l.holds);have:=a.h6;show(kL txn l.holds).length<=6;omega
  ·exactλx hx=>a.hold x ((aov a.qd).1 hx).1
  ·intro j u;have y:=a.iU j u;show um l j+dR (ny j) (kL txn l.holds)<=gI l.bA j/\dR (nV j) (kL txn l.holds)<=gI l.bh j;rw[(DN a.qd e).1,(DN a.qd e).1];have:=W9 j (qe l.holds txn);have:=Xa j (qe l.holds txn);omega
theorem three{e:List Int}(h:e.length=3):e=[gI e 0,gI e 1,gI e 2]:=by
 match e,h with
 |[a,b,c],_=>rfl
theorem aqo{a:List Int}{i x:Int}(h:a.length=3)(h0:0<=i)(H:i<=2)(y:∀j,j<3->0<=gI a j/\gI a j<=9)(hx:-9<=x/\x<=9):(rS a i x).length=3/\(∀j:Nat,j<3->gI (rS a i x) j=gI a j+if(j:Int)=i then x else 0)/\∀j:Nat,j<3->dR id ((rS a i x).drop j)=dR id (a.drop j)+if(j:Int)<=i then x else 0:=by
 obtain⟨c,rfl⟩:=gD h0;have I:=y 0 (by omega);have b1:=y 1 (by omega);have b2:=y 2 (by omega);have e:=three h;generalize J:gI a 0=A at*;generalize M:gI a 1=C at*;generalize N:gI a 2=D at*;subst e;have u:c=0\/c=1\/c=2:=by omega
 have E:rS [A,C,D] (c:Nat) x=[A,C,D].set c (gI [A,C,D] c+x):=by
  unfold rS aX
  rw[eC,J9 _ _ (by omega) (by omega)]
  ·rcases u with rfl|rfl|rfl<;>simp[gI]<;>omega
  ·rcases u with rfl|rfl|rfl<;>simp[gI]<;>omega
 rw[E];refine⟨by simp,λj F=>?_,λj F=>?_⟩
 ·have:j=0\/j=1\/j=2:=by omega
  rcases u with rfl|rfl|rfl<;>rcases this with rfl|rfl|rfl<;>simp[gI]
 ·have:j=0\/j=1\/j=2:=by omega
  rcases u with rfl|rfl|rfl<;>rcases this with rfl|rfl|rfl<;>simp[gI,dR]<;>omega
theorem ae1(u:gR l):gR (uo l txn):=by
 unfold uo;split
 rotate_left
 ·exact u
 rename_i D;have R:=Xg (txn:=txn) u;obtain⟨_,S,ht⟩:=DN (f:=λ_=>0) u.qd D;generalize hx:qe l.holds txn=x at*;have I:=u.hold x S;have J:=u.cap;have U:∀j,j<3->0<=gI l.bh j/\gI l.bh j<=9:=λj a=>by have:=xj u a;omega
 obtain⟨M,Y,Z⟩:=aqo (x:=x.aG) u.s3 I.2.1.1 I.2.1.2 U (by omega);have E:∀j:Nat,j<3->um l j+dR (ny j) l.holds<=gI l.bA j/\dR (nV j) l.holds<=gI l.bh j:=λj a=>u.iU j a;have sp:∀j:Nat,dR (ny j) (kL txn l.holds)=dR (ny j) l.holds-ny j x:=λj=>by rw[(DN u.qd D).1,hx]
 have sn:∀j:Nat,dR (nV j) (kL txn l.holds)=dR (nV j) l.holds-nV j x:=λj=>by rw[(DN u.qd D).1,hx]
 have F:∀j:Nat,j<3->dR id ((rS l.bh x.cls x.aG).drop j)+dR (ny j) (kL txn l.holds)<=gI l.bA j/\dR (nV j) (kL txn l.holds)<=gI (rS l.bh x.cls x.aG) j:=λj a=>by
  rw[Z j a,Y j a,sp,sn]
  have:=E j a
  have e:dR id (l.bh.drop j)=um l j:=rfl
  rw[e]
  rw[Xd,Xe]
  constructor
  ·split<;>split<;>omega
  ·split<;>split<;>omega
 have N:∀j:Nat,j<3->0<=dR (ny j) (kL txn l.holds)/\0<=dR (nV j) (kL txn l.holds):=λj _=>⟨Lj λy _=>W9 j y,Lj λy _=>Xa j y⟩;have A:∀j:Nat,j<3->0<=gI (rS l.bh x.cls x.aG) j:=λj a=>by
  have:=(F j a).2
  have:=(N j a).2
  omega
 have H:∀j:Nat,j<3->gI (rS l.bh x.cls x.aG) j<=l.cap:=λj a=>by
  have C:=(F j a).1
  have P:=(N j a).1
  have Q:=(xj u a).2.1
  have h4:=three M
  have g0:=A 0 (by omega)
  have g1:=A 1 (by omega)
  have g2:=A 2 (by omega)
  generalize gI (rS l.bh x.cls x.aG) 0=a0 at*
  generalize gI (rS l.bh x.cls x.aG) 1=a1 at*
  generalize gI (rS l.bh x.cls x.aG) 2=a2 at*
  rw[h4] at C⊢
  have:j=0\/j=1\/j=2:=by omega
  rcases this with rfl|rfl|rfl<;>simp[gI,dR] at*<;>omega
 refine{R with s3:=M,qX:=?_,iU:=?_}
 ·intro j a;have C:=u.qX j a;have P:=A j a;have Q:=H j a;simp only[uy,bo,bH] at C⊢;exact⟨C.1,P,Q⟩
 ·exact F
theorem ae2(e:gR l)(j:2^41<=n):K4 n l txn=some (qA l txn):=by
 have h6:=e.h6;unfold K4 qA kL;rw[W8 (by omega) j];simp only[ak]
 by_cases a:j3 txn l.holds=true
 ·have u:eA txn l.holds<l.holds.length:=by
    unfold j3 at a
    by_cases c:eA txn l.holds<l.holds.length
    ·exact c
    ·rw[pz (by omega)] at a;simp at a
  rw[a,aF,aD rfl,bD (by omega)];rw[show dF l.holds 0 (eA txn l.holds:Nat)=some (l.holds.take (eA txn l.holds)) by unfold dF;rw[aD (by omega)];simp,
   show dF l.holds ((eA txn l.holds+1:Nat):Int) (au l.holds)=some (l.holds.drop (eA txn l.holds+1)) by unfold dF au;rw[aD (by omega)];simp[Fs]];simp only[ak];rw[eL (by simp;omega) (by omega)];simp only[ak,iw];rw[eL (by simp;omega) (by omega)];rfl
 ·rw[sC] at a;rw[a,aH,aE (by simp)]
theorem aqp(e:gR l)(u:2^41<=n):QB n l txn=some (uo l txn):=by
 have h6:=e.h6;unfold QB uo;rw[W8 (by omega) u];simp only[ak]
 by_cases a:j3 txn l.holds=true
 ·have j:eA txn l.holds<l.holds.length:=by
    unfold j3 at a
    by_cases c:eA txn l.holds<l.holds.length
    ·exact c
    ·rw[pz (by omega)] at a;simp at a
  obtain⟨_,x,D⟩:=DN (f:=λ_=>0) e.qd a;have y:=e.hold _ x;have A:af l.holds (eA txn l.holds:Nat)=some (qe l.holds txn):=db j _;obtain⟨c,C⟩:=gD y.2.1.1;have E:=e.s3;have hi:af l.bh (qe l.holds txn).cls=some (gI l.bh (qe l.holds txn).cls.toNat):=by
   rw[C,eC]
   exact db (by omega) 0
  rw[a,aD rfl,A,ae2 e u];simp only[ak,cn,dy,aH];rw[show(qA l txn).bh=l.bh from rfl,eL (by simp;omega) (by omega)];simp only[ak,iw,hi];rfl
 ·rw[sC] at a;rw[a,aE (by simp)];rfl
end
end
end Go.Ev
namespace Go.Ev
open Go Go.Lib
section
theorem rj{u:Nat}(h:u<10):decDigits u=[UInt8.ofNat (48+u)]:=by rw[decDigits,Ut h]
theorem vg{u:Nat}(h:¬ u<10):decDigits u=decDigits (u/10)++[UInt8.ofNat (48+u % 10)]:=by rw[decDigits,dif_neg h]
theorem D4{d:Nat}(h:d<10):(UInt8.ofNat (48+d)).toNat=48+d:=by
 rw[akU];omega
theorem AR:∀(u:Nat),∀c∈decDigits u,48<=c.toNat/\c.toNat<=57:=by
 intro u;induction u using Nat.strongRecOn with
 |_ u e=>
  by_cases h:u<10
  ·rw[rj h];intro c a;rw[fe] at a;subst a;rw[D4 h];omega
  ·rw[vg h];intro c a;rcases cU.1 a with a|a
   ·exact e _ (by omega) c a
   ·rw[fe] at a;subst a;rw[D4 (by omega)];omega
theorem y7(u:Nat):decDigits u≠[]:=by
 by_cases h:u<10
 ·rw[rj h];simp
 ·rw[vg h];simp
theorem GV:∀(k u:Nat),u<10^k->1<=k->(decDigits u).length<=k:=by
 intro k;induction k with
 |zero=>intro u _ h;omega
 |succ k a=>
  intro u h _
  by_cases c:u<10
  ·rw[rj c];simp
  ·rw[vg c,dG,yx];have:u/10<10^k:=by rw[yy] at h;omega
   by_cases k0:k=0
   ·subst k0;omega
   ·have:=a (u/10) this (by omega);omega
def val(s:aj):Nat:=s.foldl (λa c=>a*10+(c.toNat-48)) 0
theorem adH(s:aj)(c:UInt8):val (s++[c])=val s*10+(c.toNat-48):=by simp[val]
theorem ae3:∀u:Nat,val (decDigits u)=u:=by
 intro u;induction u using Nat.strongRecOn with
 |_ u a=>
  by_cases h:u<10
  ·rw[rj h];simp only[val,Aq,Ol,D4 h];omega
  ·rw[vg h,adH,a _ (by omega),D4 (by omega)];omega
theorem Xh{u v:Nat}(h:decDigits u=decDigits v):u=v:=by rw[<-ae3 u,h,ae3]
def oX(c:UInt8):Bool:=decide (48<=c.toNat/\c.toNat<=57)
theorem ar5:∀(k:Nat)(s:aj),s.length=k->s≠[]->s.all oX=true->(1<s.length->s.head?≠some 48)->s=decDigits (val s):=by
 intro k;induction k with
 |zero=>intro s h u;exact absurd (qg.1 h) u
 |succ k D=>
  intro s E u A F;obtain⟨a,c,rfl⟩:∃a c,s=a++[c]:=⟨s.dropLast,s.getLast u,(List.dropLast_concat_getLast u).symm⟩;rw[List.all_append,bo] at A;have M:48<=c.toNat/\c.toNat<=57:=by simpa[oX] using A.2
  have j:UInt8.ofNat (48+(c.toNat-48))=c:=by
   have:48+(c.toNat-48)=c.toNat:=by omega
   rw[this];exact UInt8.ofNat_toNat
  rw[adH]
  by_cases y:a=[]
  ·subst y;have:val []=0:=rfl;rw[this,rj (by omega),Oh,iu,j];rfl
  ·have N:0<a.length:=aaO.2 y;have H:(a++[c]).head?=a.head?:=by cases a with|nil=>exact absurd rfl y|cons x a=>rfl
   have C:a.head?≠some 48:=by rw[<-H];exact F (by simp;omega)
   have e:=D a (by simpa using E) y A.1 λ_=>C;have P:val a≠0:=by
    intro h0
    rw[h0,rj (by omega)] at e
    rw[e] at C
    exact C rfl
   rw[vg (by omega)];have I:(val a*10+(c.toNat-48))/10=val a:=by omega
   have J:(val a*10+(c.toNat-48)) % 10=c.toNat-48:=by omega
   rw[I,J,<-e,j]
theorem aox:∀u:Nat,1<(decDigits u).length->(decDigits u).head?≠some 48:=by
 intro u;induction u using Nat.strongRecOn with
 |_ u y=>
  intro h
  by_cases c:u<10
  ·rw[rj c] at h;simp at h
  ·rw[vg c];have A:=y7 (u/10);have C:(decDigits (u/10)++[UInt8.ofNat (48+u % 10)]).head?=(decDigits (u/10)).head?:=by
    cases D:decDigits (u/10) with
    |nil=>exact absurd D A
    |cons x a=>rfl
   rw[C]
   by_cases j:u/10<10
   ·rw[rj j];simp only[Uy,Uz,aQ];intro e;have:=congrArg UInt8.toNat e;rw[D4 j] at this;have:(48:UInt8).toNat=48:=rfl;omega
   ·exact y _ (by omega) (by
     rw[vg j]
     have:=aaO.2 (y7 (u/10/10))
     simp;omega)
def cA(s:aj):Int:=if decide (1<=s.length/\s.length<=12)&&(!decide (1<s.length)||!decide (s.head?=some 48))&&s.all oX then(val s:Int) else-1
theorem af0:∀(s:aj),s.all oX=true->∀a:Nat,s.foldl (λa c=>a*10+(c.toNat-48)) a<(a+1)*10^s.length
 |[],_,a=>by simp
 |c::s,h,a=>by
  rw[Oi,bo] at h;have e:48<=c.toNat/\c.toNat<=57:=by simpa[oX] using h.1
  have:=af0 s h.2 (a*10+(c.toNat-48));rw[Aq];refine Uq this ?_;rw[fD,yy,Ar (10^s.length) 10,<-Nat.mul_assoc];exact od _ (by omega)
theorem Kb(s:aj):(∃v:Nat,s=decDigits v/\s.length<=12/\cA s=v/\v<1000000000000)\/(cA s=-1/\∀v:Nat,s=decDigits v->12<s.length):=by
 unfold cA
 by_cases h:(decide (1<=s.length/\s.length<=12)&&(!decide (1<s.length)||!decide (s.head?=some 48))&&s.all oX)=true
 ·rw[aD h];simp only[bo,CN,mL,bH,lP] at h;refine .inl ⟨val s,ar5 _ s rfl (by rintro rfl;simp at h) h.2 (λC=>?_),h.1.1.2,rfl,?_⟩
  ·rcases h.1.2 with a|a
   ·omega
   ·exact a
  ·have:=af0 s h.2 0;have D:10^s.length<=10^12:=As (by omega) h.1.1.2;unfold val;omega
 ·rw[aE h];refine .inr ⟨rfl,λv e=>?_⟩
  by_cases c:12<s.length
  ·exact c
  ·exfalso;apply h;have j:=aaO.2 (y7 v);have u:=AR v;have x:=aox v;rw[<-e] at j u x;simp only[bo,CN,mL,bH,lP,jJ];refine⟨⟨⟨j,by omega⟩,?_⟩,λc A=>by simpa[oX] using u c A⟩
   by_cases y:1<s.length
   ·exact .inr (x y)
   ·exact .inl y
theorem Hm{v:Nat}(h:v<1000000000000):cA (decDigits v)=v:=by
 rcases Kb (decDigits v) with⟨u,e,_,a,_⟩|⟨_,a⟩
 ·rw[a,Xh e]
 ·have:=a v rfl;have:=GV 12 v (by omega) (by omega);omega
theorem Rp(s:aj):-1<=cA s/\cA s<1000000000000:=by
 rcases Kb s with⟨v,_,_,e,h⟩|⟨e,_⟩<;>omega
section
variable{n:Nat}
theorem Xi:∀(k m u:Nat),u<10^k->k<=m->u<9223372036854775808->dz (m+1) u=some (decDigits u)
 |k,0,u,x,y,A=>by
  have:k=0:=by omega
  subst this;have:u=0:=by omega
  subst this;rw[rj (by omega)];rfl
 |k,m+1,u,x,y,A=>by
  rw[dz];have e:¬ (u:Int)< -9223372036854775807:=by omega
  have j:¬ (u:Int)<0:=by omega
  by_cases c:u<10
  ·have a:(u:Int)<10:=by omega
   simp only[bp,e,j,a,fc,ga,aF,aH];rw[rj c,js (by omega) (by omega) (by omega) (by omega)];simp only[je,dm,mM,wP,IntKind.wrap_u8];rw[show((48+(u:Int)) % 256).toNat=48+u by omega]
  ·have a:¬ (u:Int)<10:=by omega
   have C:j5 .i64 (u:Int) 10=some ((u/10:Nat):Int):=by
    unfold j5
    rw[aE (by omega),IntKind.wrap_i64,akS (by omega)]
    exact congrArg some (by omega)
   have D:kG (u:Int) 10=some ((u % 10:Nat):Int):=by
    unfold kG
    rw[aE (by omega),aaL (by omega)]
    exact congrArg some (by omega)
   have F:1<=k:=by
    rcases Nat.eq_zero_or_pos k with h|h
    ·subst h;omega
    ·exact h
   have E:=Xi (k-1) m (u/10) (by
    have:10^k=10^(k-1)*10:=by rw[<-yy];congr 1;omega
    omega) (by omega) (by omega);have H:=GV 19 (u/10) (by omega) (by omega);simp only[bp,e,j,a,ga,aH,C,D,E,ak];rw[js (by omega) (by omega) (by omega) (by omega)];simp only[je,dm,mM,wP,IntKind.wrap_u8];rw[fj (by simp;omega),vg c];simp only[ak];rw[show((48+((u % 10:Nat):Int)) % 256).toNat=48+u % 10 by omega]
theorem pF(u:Nat):itoa u=decDigits u:=by unfold itoa;rw[aE (by omega)];rfl
theorem itoa_neg{u:Nat}(h:0<u):itoa (-(u:Int))=45::decDigits u:=by
 unfold itoa;rw[aD (by omega)];congr 2;omega
theorem XN{x:Int}(A:2^40<=n)(h0:-9223372036854775808<x)(C:x<9223372036854775808):dz n x=some (itoa x):=by
 obtain⟨m,rfl⟩:∃m,n=m+2:=⟨n-2,by omega⟩
 by_cases c:0<=x
 ·obtain⟨u,rfl⟩:=gD c;rw[pF];exact Xi 19 (m+1) u (by omega) (by omega) (by omega)
 ·obtain⟨u,a⟩:∃u:Nat,x=-(u:Int):=⟨x.natAbs,by omega⟩;subst a;have D:=GV 19 u (by omega) (by omega);rw[itoa_neg (by omega),dz];have e:¬ -(u:Int)< -9223372036854775807:=by omega
  have j:-(u:Int)<0:=by omega
  have y:fO .i64 (-(u:Int))=u:=by unfold fO;rw[IntKind.wrap_i64];omega
  simp only[bp,e,j,y,fc,ga,aF,aH,Xi 19 m u (by omega) (by omega) (by omega),ak];rw[fj (by simp;omega)];rfl
theorem ly{x:Int}(h0:-9223372036854775808<=x)(a:x<9223372036854775808):(itoa x).length<=21:=itoa_length_le x h0 (by omega)
theorem ah3{s:aj}(I:s.length<=12)(J:2^41<=n):AL n n s 0 0 some=some (if s.all oX=true then(val s:Int) else-1):=by
 have j:∀m i a:Nat,i<=s.length->s.length<m+i->a<10^i->AL n m s a i some=some (if(s.drop i).all oX=true then(((s.drop i).foldl (λa c=>a*10+(c.toNat-48)) a:Nat):Int) else-1):=by
  intro m
  induction m with
  |zero=>intro i a y A;omega
  |succ m C=>
   intro i a y A M
   have D:10^i<=10^12:=As (by omega) (by omega)
   by_cases hi:i<s.length
   ·have e:(i:Int)<s.length:=by omega
    simp only[AL,bp,fN,e,fc,aF,zl hi,ak];rw[lx hi,Oi,Aq];have N:=s[i].toNat_lt
    by_cases u:(s[i].toNat:Int)<48
    ·have:oX s[i]=false:=by simp[oX];omega
     simp[u,this]
    ·by_cases x:57<(s[i].toNat:Int)
     ·have:oX s[i]=false:=by simp[oX];omega
      simp[u,x,this]
     ·have E:oX s[i]=true:=by simp[oX];omega
      have F:dm .i64 (aL .u8 (s[i].toNat:Int) 48)=((s[i].toNat-48:Nat):Int):=by
       unfold dm aL;rw[IntKind.wrap_u8,IntKind.wrap_i64];omega
      have H:aq .i64 (cR .i64 (a:Int) 10) ((s[i].toNat-48:Nat):Int)=((a*10+(s[i].toNat-48):Nat):Int):=by
       rw[oW (by omega),js (by omega) (by omega) (by omega) (by omega)];omega
      simp only[u,x,ga,aH,F,H,bD (show i<2^31 by omega),E,pA];exact C (i+1) _ (by omega) (by omega) (by rw[yy];omega)
   ·have:i=s.length:=by omega
    subst this;have e:¬ ((s.length:Int)<s.length):=by omega
    simp only[AL,bp,fN,e,ga,aH,sD,List.all_nil,fM,Ol]
 have:=j n 0 0 (by omega) (by omega) (by omega);simpa[val] using this
theorem y8{s:aj}(x:2^41<=n):ow n s=some (cA s):=by
 unfold ow cA;rw[vf];simp only[ak,fN]
 by_cases y:(1:Int)<=s.length/\(s.length:Int)<=12
 ·have a:1<=s.length/\s.length<=12:=by omega
  simp only[y,a,yz,fc,cn,dy,aH,pA,bp]
  by_cases A:1<s.length
  ·have u:(1:Int)<s.length:=by omega
   have e:iC s 0=some (s[0].toNat:Int):=zl (i:=0) (by omega);simp only[A,u,fc,aF,e,ak,cN,dy,akK];have C:s.head?=some s[0]:=by rw[ayL,cT (by omega)]
   by_cases j:s[0]=48
   ·have:(s[0].toNat:Int)=48:=by rw[j];rfl
    rw[C];simp[j,this]
   ·have:¬ (s[0].toNat:Int)=48:=λe=>j (akV.1 (by have:(48:UInt8).toNat=48:=rfl;omega));rw[C];simp only[this,ga,aH,aQ,j,gE,pA];exact ah3 a.2 x
  ·have u:¬ (1:Int)<s.length:=by omega
   simp only[A,u,ga,aH,gE,akN,pA];exact ah3 a.2 x
 ·have a:¬ (1<=s.length/\s.length<=12):=by omega
  simp[y,a,cn]
def uz(s:aj):Int×Bool:=if s.head?=some 45 then(fO .i64 (cA (s.drop 1)),decide (0<cA (s.drop 1))) else(cA s,decide (0<=cA s))
theorem RS{s:aj}(j:2^41<=n):HA n s=some (uz s):=by
 unfold HA uz;simp only[fN]
 by_cases h:0<s.length
 ·have u:(0:Int)<s.length:=by omega
  have e:iC s 0=some (s[0].toNat:Int):=zl (i:=0) (by omega);have x:s.head?=some s[0]:=by rw[ayL,cT h]
  simp only[bp,gx,u,fc,aF,e,ak,cN]
  by_cases a:s[0]=45
  ·have:(s[0].toNat:Int)=45:=by rw[a];rfl
   have y:dZ s 1 s.length=some (s.drop 1):=by
    unfold dZ;rw[aD (by omega)];congr 1
    rw[Fs (by simp)];rfl
   rw[x];simp only[this,fc,aF,y,ak,y8 j];rw[a,aD rfl]
  ·have:¬ (s[0].toNat:Int)=45:=λe=>a (akV.1 (by have:(45:UInt8).toNat=45:=rfl;omega));rw[x,aE (by simpa using a)];simp only[this,ga,aH,ak,y8 j]
 ·have u:¬ (0:Int)<s.length:=by omega
  have:s=[]:=qg.1 (by omega);subst this;simp only[bp,gx,u,ga,aH,y8 j,ak];rfl
end
end
end Go.Ev
namespace Go.Ev
open Go
section
theorem L9(a:Int):IntKind.u32.wrap a=a % 4294967296:=IntKind.wrap_u32 a
theorem ar6(k:IntKind)(a b:Int):na k a b=na k b a:=by unfold na;rw[BitVec.or_comm]
theorem QG{i:Nat}{x y:Int}(a:0<=x)(hx:x % 2^i=0)(j:x<2^32)(u:0<=y)(A:y<2^i)(hi:i<=32):na .u32 x y=x+y:=by
 have e:y<2^32:=by
  have:(2:Int)^i<=2^32:=by exact_mod_cast As (by omega:0<2) hi
  omega
 exact bits_join .u32 32 (by decide) (λn h0 C=>by rw[L9];omega) i x y a hx j u A e
def rr(x:Int)(k:Nat):Int:=na .u32 (x.fdiv (2^k)) (IntKind.u32.wrap (x*2^(32-k)))
def sh(x:Int)(k:Nat):Int:=x.fdiv (2^k)
section
variable{n:Nat}
theorem vk{kd:IntKind}{x:Int}{k:Nat}(h:k<=kd.bits):lB kd x k=some (sh x k):=by
 unfold lB sh;rw[aE (by omega),eC,Nat.min_eq_left h]
theorem HO{x:Int}{k:Nat}(h:k<=32):rJ .u32 x k=some (IntKind.u32.wrap (x*2^k)):=by
 unfold rJ;rw[aE (by omega),eC,Nat.min_eq_left (show k<=IntKind.u32.bits from h)]
theorem xk{x:Int}{k:Nat}(h:k<=32):lR n x k=some (rr x k):=by
 unfold lR rr;have e:aL .i64 32 (k:Int)=((32-k:Nat):Int):=by rw[iA];omega
 rw[vk (kd:=.u32) h,e,HO (by omega)];rfl
theorem xa{x:Int}{k:Nat}(h:k∈[7,18,17,19,6,11,25,2,13,22]):lS n x k=some (rr x k):=by
 have e:ig .u64 (dm .u64 (fO .i64 k)) 31=((32-k:Nat):Int)/\aL .u64 32 ((32-k:Nat):Int)=k/\k<=32:=by
  simp only[cO,oP,oQ] at h
  rcases h with rfl|rfl|rfl|rfl|rfl|rfl|rfl|rfl|rfl|rfl<;>decide
 unfold lS UB rr;rw[e.1,e.2.1,HO (by omega),vk (kd:=.u32) e.2.2];simp only[ak];rw[ar6];rfl
def w4(a b c d:Int):Int:=a*16777216+b*65536+c*256+d
def Yq(w:List Int):Int:=
 let i:=w.length
 let x:=gI w (i-15)
 let y:=gI w (i-2)
 aq .u32 (aq .u32 (aq .u32 (gI w (i-16)) (dA .u32 (dA .u32 (rr x 7) (rr x 18)) (sh x 3))) (gI w (i-7))) (dA .u32 (dA .u32 (rr y 17) (rr y 19)) (sh y 10))
def BI:Nat->List Int->List Int|0,w=>w|k+1,w=>BI k (w++[Yq w])
def kr(b:List Int)(k:Nat):List Int:=(List.range k).map λi=>w4 (gI b (4*i)) (gI b (4*i+1)) (gI b (4*i+2)) (gI b (4*i+3))
def words(b:List Int):List Int:=BI 48 (kr b 16)
def wK:List Int:=[1116352408,1899447441,3049323471,3921009573,961987163,1508970993,2453635748,2870763221,3624381080,310598401,607225278,1426881987,1925078388,2162078206,2614888103,3248222580,3835390401,4022224774,264347078,604807628,770255983,1249150122,1555081692,1996064986,2554220882,2821834349,2952996808,3210313671,3336571891,3584528711,113926993,338241895,666307205,773529912,1294757372,1396182291,1695183700,1986661051,2177026350,2456956037,2730485921,2820302411,3259730800,3345764771,3516065817,3600352804,4094571909,275423344,430227734,506948616,659060556,883997877,958139571,1322822218,1537002063,1747873779,1955562222,2024104815,2227730452,2361852424,2428436474,2756734187,3204031479,3329325298]
theorem amV:Vb n=some wK:=rfl
def Uj(j u:Int)(s:List Int):List Int:=
 let e:=gI s 4
 let a:=gI s 0
 let t:=aq .u32 (aq .u32 (aq .u32 (aq .u32 (gI s 7) (dA .u32 (dA .u32 (rr e 6) (rr e 11)) (rr e 25))) (dA .u32 (ig .u32 e (gI s 5)) (ig .u32 (xC .u32 e) (gI s 6)))) j) u
 [aq .u32 (aq .u32 t (dA .u32 (dA .u32 (rr a 2) (rr a 13)) (rr a 22))) (dA .u32 (dA .u32 (ig .u32 a (gI s 1)) (ig .u32 a (gI s 2))) (ig .u32 (gI s 1) (gI s 2))),a,gI s 1,gI s 2,aq .u32 (gI s 3) t,e,gI s 5,gI s 6]
def zH(w:List Int):Nat->Nat->List Int->List Int|0,_,s=>s|m+1,i,s=>zH w m (i+1) (Uj (gI wK i) (gI w i) s)
def blk(h b:List Int):List Int:=
 let s:=zH (words b) 64 0 h
 (List.range 8).map λi=>aq .u32 (gI h i) (gI s i)
theorem acr:∀(k:Nat)(w:List Int),(BI k w).length=w.length+k
 |0,w=>rfl
 |k+1,w=>by rw[BI,acr k];simp;omega
theorem acs(b:List Int):(words b).length=64:=by rw[words,acr];simp[kr]
theorem Wk(w:List Int):∀(m i:Nat)(s:List Int),s.length=8->(zH w m i s).length=8|0,_,_,h=>h|m+1,i,s,_=>Wk w m (i+1) _ rfl
theorem Ma{i:Nat}(h:i<2^31)(j:Nat)(a:j<2^31):aq .i64 (i:Int) j=((i+j:Nat):Int):=by rw[y6];omega
theorem BJ{i:Nat}(h:i<2^31)(j:Nat)(a:j<=i):aL .i64 (i:Int) j=((i-j:Nat):Int):=by rw[iA];omega
theorem jt{l:List Int}{i:Nat}(h:i<l.length):af l (i:Int)=some (gI l i):=db h 0
end
section spec
variable{n:Nat}
def uO(b:List Int):Prop:=∀x∈b,0<=x/\x<256
theorem Bn{b:List Int}(h:uO b)(i:Nat):0<=gI b i/\gI b i<256:=by
 by_cases c:i<b.length
 ·exact h _ (XM c)
 ·simp[gI,iR,pz (show b.length<=i by omega)]
theorem aqq{a b c d:Int}(e:0<=a/\a<256)(j:0<=b/\b<256)(u:0<=c/\c<256)(A:0<=d/\d<256):
  na .u32 (na .u32 (na .u32 (IntKind.u32.wrap (dm .u32 a*2^24)) (IntKind.u32.wrap (dm .u32 b*2^16))) (IntKind.u32.wrap (dm .u32 c*2^8))) (dm .u32 d)=w4 a b c d:=by
 simp only[dm,L9,w4];rw[show a % 4294967296*2^24 % 4294967296=a*16777216 by omega,show b % 4294967296*2^16 % 4294967296=b*65536 by omega,show c % 4294967296*2^8 % 4294967296=c*256 by omega,show d % 4294967296=d by omega];rw[QG (i:=24) (x:=a*16777216) (y:=b*65536) (by omega) (by omega) (by omega) (by omega) (by omega) (by omega),QG (i:=16) (x:=a*16777216+b*65536) (y:=c*256) (by omega) (by omega) (by omega) (by omega) (by omega) (by omega),QG (i:=8) (x:=a*16777216+b*65536+c*256) (y:=d) (by omega) (by omega) (by omega) (by omega) (by omega) (by omega)]
theorem ae4{b:List Int}(a:uO b)(e:b.length=64){k:List Int->Option (List Int)}:∀m i:Nat,i<=16->16<m+i->F6 n m b (kr b i) i k=k (kr b 16)
 |0,i,h,j=>by omega
 |m+1,i,h,j=>by
  by_cases hi:i<16
  ·have c:(i:Int)<16:=by omega
   have u:cR .i64 4 (i:Int)=((4*i:Nat):Int):=by rw[oW (by omega)];omega
   have y:aq .i64 ((4*i:Nat):Int) 1=((4*i+1:Nat):Int):=Ma (by omega) 1 (by omega);have A:aq .i64 ((4*i:Nat):Int) 2=((4*i+2:Nat):Int):=Ma (by omega) 2 (by omega);have C:aq .i64 ((4*i:Nat):Int) 3=((4*i+3:Nat):Int):=Ma (by omega) 3 (by omega);have D:∀x,rJ .u32 x 24=some (IntKind.u32.wrap (x*2^24)):=λx=>HO (k:=24) (by omega);have s2:∀x,rJ .u32 x 16=some (IntKind.u32.wrap (x*2^16)):=λx=>HO (k:=16) (by omega);have s3:∀x,rJ .u32 x 8=some (IntKind.u32.wrap (x*2^8)):=λx=>HO (k:=8) (by omega);simp only[F6,bp,c,fc,aF,u,y,A,C,jt (l:=b) (show 4*i<b.length by omega),jt (l:=b) (show 4*i+1<b.length by omega),jt (l:=b) (show 4*i+2<b.length by omega),jt (l:=b) (show 4*i+3<b.length by omega),ak,D,s2,s3];rw[eL (by simp[kr];omega) (by omega),ak,aqq (Bn a _) (Bn a _) (Bn a _) (Bn a _),bD (by omega)];have:kr b i++[w4 (gI b (4*i)) (gI b (4*i+1)) (gI b (4*i+2)) (gI b (4*i+3))]=kr b (i+1):=by
    simp[kr,aaP]
   rw[this];exact ae4 a e m (i+1) (by omega) (by omega)
  ·have:i=16:=by omega
   subst this;simp only[F6,bp];rfl
theorem ae5{k:List Int->Option (List Int)}:∀(m j:Nat)(w:List Int),w.length+j=64->16<=w.length->j<m->C9 n m w w.length k=k (BI j w)
 |0,j,w,h,h0,a=>by omega
 |m+1,j,w,h,h0,a=>by
  match j with
  |0=>
   have c:¬ ((w.length:Int)<64):=by omega
   simp only[C9,bp,c,ga,aH,BI]
  |j+1=>
   have c:(w.length:Int)<64:=by omega
   have e:aL .i64 (w.length:Int) 15=((w.length-15:Nat):Int):=BJ (by omega) 15 (by omega);have u:aL .i64 (w.length:Int) 2=((w.length-2:Nat):Int):=BJ (by omega) 2 (by omega);have y:aL .i64 (w.length:Int) 16=((w.length-16:Nat):Int):=BJ (by omega) 16 (by omega);have e4:aL .i64 (w.length:Int) 7=((w.length-7:Nat):Int):=BJ (by omega) 7 (by omega);have t1:∀x,lR n x 7=some (rr x 7):=λx=>xk (k:=7) (by omega);have t2:∀x,lR n x 18=some (rr x 18):=λx=>xk (k:=18) (by omega);have t3:∀x,lR n x 17=some (rr x 17):=λx=>xk (k:=17) (by omega);have t4:∀x,lR n x 19=some (rr x 19):=λx=>xk (k:=19) (by omega);have t5:∀x,lB .u32 x 3=some (sh x 3):=λx=>vk (kd:=.u32) (k:=3) (by decide);have t6:∀x,lB .u32 x 10=some (sh x 10):=λx=>vk (kd:=.u32) (k:=10) (by decide);simp only[C9,bp,c,fc,aF,e,u,y,e4,jt (l:=w) (show w.length-15<w.length by omega),jt (l:=w) (show w.length-2<w.length by omega),jt (l:=w) (show w.length-16<w.length by omega),jt (l:=w) (show w.length-7<w.length by omega),ak,t1,t2,t3,t4,t5,t6];rw[eL (by simp;omega) (by omega),ak,bD (by omega)];have:=ae5 (k:=k) m j (w++[Yq w]) (by simp;omega) (by simp;omega) (by omega);rw[dG,yx] at this;exact this
theorem aoy{b:List Int}(u:uO b)(x:b.length=64)(C:2^41<=n):PT n b=some (words b):=by
 unfold PT;have e:BZ 4 0 64 (0:Int)=some []:=by
  unfold BZ;rw[aD (by omega)];rfl
 rw[e,ak];have j:=ae4 (n:=n) (k:=λy=>C9 n n y 16 λA=>some A) u x n 0 (by omega) (by omega);have h0:kr b 0=[]:=rfl;rw[h0] at j;refine j.trans ?_;have a:(kr b 16).length=16:=by simp[kr]
 have:=ae5 (n:=n) (k:=some) n 48 (kr b 16) (by omega) (by omega) (by omega);rw[a] at this;exact this
theorem eight{s:List Int}(h:s.length=8):s=[gI s 0,gI s 1,gI s 2,gI s 3,gI s 4,gI s 5,gI s 6,gI s 7]:=by
 match s,h with
 |[a,b,c,d,e,f,g,h],_=>rfl
theorem ar7{h w k1:List Int}{i t a NS e j u x y A C D:Int}{k:List Int->List Int->List Int->List Int->Int->Int->Int->Int->Option (List Int)}(E:2^41<=n):OK n n h w k1 [e,j,u,x,y,A,C,D] i t a NS 7 k=k h w k1 [e,e,j,u,x,y,A,C] i t a NS:=by
 obtain⟨m,rfl⟩:∃m,n=m+8:=⟨n-8,by omega⟩;rfl
theorem aqr(a b c:Int):aq .u32 (aq .u32 a b) c=aq .u32 a (aq .u32 b c):=by
 unfold aq;simp only[L9];omega
theorem agK{h w:List Int}(e:w.length=64)(a:2^41<=n){k:List Int->List Int->Option (List Int)}:∀(m j i:Nat)(s:List Int),s.length=8->i+j=64->j<m->F7 n m h w wK s i k=k h (zH w j i s)
 |0,j,i,s,h0,u,A=>by omega
 |m+1,j,i,s,h0,u,A=>by
  match j with
  |0=>
   have c:¬ ((i:Int)<64):=by omega
   simp only[F7,bp,c,ga,aH,zH]
  |j+1=>
   have c:(i:Int)<64:=by omega
   have C:i<wK.length:=by show i<64;omega
   have t1:∀x,lR n x 6=some (rr x 6):=λx=>xk (k:=6) (by omega);have t2:∀x,lR n x 11=some (rr x 11):=λx=>xk (k:=11) (by omega);have t3:∀x,lR n x 25=some (rr x 25):=λx=>xk (k:=25) (by omega);have t4:∀x,lR n x 2=some (rr x 2):=λx=>xk (k:=2) (by omega);have t5:∀x,lR n x 13=some (rr x 13):=λx=>xk (k:=13) (by omega);have t6:∀x,lR n x 22=some (rr x 22):=λx=>xk (k:=22) (by omega);rw[zH];refine UA ?_ (agK (k:=k) (h:=h) e a m j (i+1) (Uj (gI wK i) (gI w i) s) rfl (by omega) (by omega));rw[eight h0];generalize gI s 0=x0;generalize gI s 1=x1;generalize gI s 2=x2;generalize gI s 3=x3;generalize gI s 4=x4;generalize gI s 5=x5;generalize gI s 6=x6;generalize gI s 7=x7;have l0:af [x0,x1,x2,x3,x4,x5,x6,x7] 0=some x0:=rfl;have D:af [x0,x1,x2,x3,x4,x5,x6,x7] 1=some x1:=rfl;have E:af [x0,x1,x2,x3,x4,x5,x6,x7] 2=some x2:=rfl;have F:af [x0,x1,x2,x3,x4,x5,x6,x7] 4=some x4:=rfl;have H:af [x0,x1,x2,x3,x4,x5,x6,x7] 5=some x5:=rfl;have I:af [x0,x1,x2,x3,x4,x5,x6,x7] 6=some x6:=rfl;have J:af [x0,x1,x2,x3,x4,x5,x6,x7] 7=some x7:=rfl;have M:af [x0,x0,x1,x2,x3,x4,x5,x6] 4=some x3:=rfl;have N:∀y,af (aX [x0,x0,x1,x2,x3,x4,x5,x6] 4 y) 0=some x0:=λy=>rfl;simp only[F7,bp,c,fc,aF,l0,D,E,F,H,I,J,ak,t1,t2,t3,t4,t5,t6,jt C,jt (l:=w) (show i<w.length by omega),ar7 a,M,N];rw[bD (by omega)];rfl
theorem avb{h s:List Int}(a:h.length=8)(e:s.length=8)(j:2^41<=n){k:List Int->Option (List Int)}:JH n n h s [] 0 k=k ((List.range 8).map λi=>aq .u32 (gI h i) (gI s i)):=by
 obtain⟨m,rfl⟩:∃m,n=m+9:=⟨n-9,by omega⟩;rw[eight a,eight e];rfl
theorem aoz{h b:List Int}(a:h.length=8)(j:uO b)(u:b.length=64)(e:2^41<=n):PU n h b=some (blk h b):=by
 unfold PU;rw[aoy j u e,amV,eL (by simp;omega) (by omega)];simp only[ak,iw];have:=agK (n:=n) (h:=h) (w:=words b) (k:=λx y=>JH n n x y [] 0 λA=>some A) (acs b) e n 64 0 h a (by omega) (by omega);refine this.trans ?_;exact avb a (Wk _ _ _ _ a) e
end spec
end
section
section
variable{n:Nat}
theorem yQ{a e:Type}{f:a->List e}{c:Nat}(h:∀x,(f x).length=c):∀l:List a,(l.map f).flatten.length=c*l.length
 |[]=>rfl
 |x::l=>by rw[mM,aaQ,dG,h,yQ h l,fD,Nat.mul_succ];omega
def tj(len:Nat):Nat:=(119-len % 64) % 64
def rT(x:Int):Nat->List Int|0=>[]|j+1=>dm .u8 (sh x (8*j))::rT x j
def o6(text:aj):List Int:=bB text++128::List.replicate (tj text.length) 0++rT (text.length*8) 8
def xN:Nat->List Int->List Int->List Int|0,h,_=>h|q+1,h,b=>xN q (blk h (b.take 64)) (b.drop 64)
def Od:List Int:=[1779033703,3144134277,1013904242,2773480762,1359893119,2600822924,528734635,1541459225]
def SZ(text:aj):List Int:=xN ((o6 text).length/64) Od (o6 text)
theorem S0(x:Int):dm .u8 x=x % 256:=by unfold dm;rw[IntKind.wrap_u8]
theorem Wl(x:Int):∀j,uO (rT x j)
 |0=>by simp[rT,uO]
 |j+1=>λy a=>by
  rcases cO.1 a with rfl|a
  ·rw[S0];omega
  ·exact Wl x j y a
theorem adI(x:Int):∀j,(rT x j).length=j
 |0=>rfl
 |j+1=>by simp[rT,adI x j]
theorem abN(s:aj):uO (bB s):=λx hx=>by
 simp only[bB,gQ] at hx;obtain⟨c,_,rfl⟩:=hx;have:=c.toNat_lt;omega
theorem aoA(text:aj):uO (o6 text):=λx hx=>by
 simp only[o6,cU,cO,List.mem_replicate] at hx;rcases hx with(hx|rfl|hx)|hx
 ·exact abN _ x hx
 ·omega
 ·omega
 ·exact Wl _ _ x hx
theorem adJ(text:aj):(o6 text).length % 64=0/\64<=(o6 text).length/\(o6 text).length<=text.length+73:=by
 simp only[o6,dG,fD,akz,adI,bB,qf,tj];omega
theorem XO{a:Nat}:kG (a:Int) 64=some ((a % 64:Nat):Int):=by
 unfold kG;rw[aE (by omega),aaL (by omega)];exact congrArg some (by omega)
theorem agL{text:aj}{k:aj->List Int->Option (List Int)}:∀(m j:Nat)(b:List Int),(b.length+j) % 64=56->j<64->j<m->b.length+j<2^31->Ju n m text b k=k text (b++List.replicate j 0)
 |0,j,b,h,a,u,x=>by omega
 |m+1,j,b,h,a,u,x=>by
  rw[Ju,aJ,XO,ak]
  match j with
  |0=>
   have e:((b.length % 64:Nat):Int)=56:=by omega
   rw[e];simp[cn,cN]
  |j+1=>
   have e:¬ ((b.length % 64:Nat):Int)=56:=by omega
   simp only[cn,cN,e,ga,gE,aF];rw[eL (by simp;omega) (by omega),ak,agL m j _ (by simp;omega) (by omega) (by omega) (by simp;omega)];simp[Jc]
theorem agM{x:Int}{k:List Int->Option (List Int)}:∀(m j:Nat)(b:List Int),j<=8->j<m->b.length+j<2^31->CY n m b x ((j:Int)-1) k=k (b++rT x j)
 |0,j,b,h,a,u=>by omega
 |m+1,0,b,h,a,u=>by
  simp only[CY,gx];simp[rT]
 |m+1,j+1,b,h,a,u=>by
  have e:((j+1:Nat):Int)-1=j:=by omega
  have y:cR .i64 8 (j:Int)=((8*j:Nat):Int):=by rw[oW (by omega)];omega
  have A:lB .i64 x ((8*j:Nat):Int)=some (sh x (8*j)):=vk (kd:=.i64) (by show 8*j<=64;omega);have C:aL .i64 (j:Int) 1=(j:Int)-1:=by rw[iA];omega
  rw[e];have c:(0:Int)<=j:=by omega
  simp only[CY,gx,c,fc,aF,y,A,C,ak];rw[eL (by simp;omega) (by omega),ak,agM m j _ (by omega) (by omega) (by simp;omega)];simp[rT]
theorem amW{text:aj}(D:text.length<2^30)(E:2^41<=n):Pd n text=some (o6 text):=by
 have a:(bB text).length=text.length:=by simp[bB]
 have c:((text.length:Nat):Int)<=1152921504606846976:=by omega
 unfold Pd;simp only[fN,gx,c,fc,zk,fM,ak];rw[eL (by simp;omega) (by omega),ak];have e:cR .i64 (text.length:Int) 8=text.length*8:=oW (by omega);have j:tj text.length<64:=by unfold tj;omega
 have h0:=agL (n:=n) (text:=text) (k:=λu y=>CY n n y (cR .i64 (de u) 8) 7 λA=>some A) n (tj text.length) (bB text++[128]) (by rw[dG,a];unfold tj;simp;omega) j (by omega) (by rw[dG,a];simp;omega);refine h0.trans ?_;rw[fN,e];have C:=agM (n:=n) (x:=text.length*8) (k:=some) n 8 (bB text++[128]++List.replicate (tj text.length) 0) (by omega) (by omega) (by simp[a];omega);refine UA C ?_;simp[o6]
theorem Rq(h b:List Int):(blk h b).length=8:=by simp[blk]
theorem agN{k:List Int->Option aj}{b:List Int}(a:uO b)(y:b.length<2^31)(j:2^41<=n):∀(m q i:Nat)(h:List Int),h.length=8->i+64*q=b.length->q<m->GL n m h b i k=k (xN q h (b.drop i))
 |0,q,i,h,u,A,C=>by omega
 |m+1,q,i,h,u,A,C=>by
  match q with
  |0=>
   have c:¬ ((i:Int)<b.length):=by omega
   simp only[GL,bp,aJ,c,ga,aH,xN]
  |q+1=>
   have c:((i:Int)<b.length):=by omega
   have e:aq .i64 (i:Int) 64=((i+64:Nat):Int):=Ma (by omega) 64 (by omega);have D:mB (i:Int) ((i+64:Nat):Int) b.length=true:=by unfold mB;simp;omega
   have E:dF b (i:Int) ((i+64:Nat):Int)=some ((b.drop i).take 64):=by
    unfold dF
    rw[aD (by omega),eC,eC,show i+64-i=64 by omega]
   have F:uO ((b.drop i).take 64):=λx hx=>a x (Ox (yA hx));simp only[GL,bp,aJ,c,fc,aF,e,D,zk,fM,ak,E,aoz u F (by simp;omega) j];rw[agN a y j m q (i+64) _ (Rq _ _) (by omega) (by omega),xN,uR]
def w8(x:Int):List Int:=[dm .u8 (sh x 24),dm .u8 (sh x 16),dm .u8 (sh x 8),dm .u8 x]
def zI(x:Int):UInt8:=([48,49,50,51,52,53,54,55,56,57,97,98,99,100,101,102]:aj).getD x.toNat 0
def mD(b:Int):aj:=[zI (b/16),zI (b % 16)]
def mX(text:aj):aj:=(((List.range 8).map λi=>w8 (gI (SZ text) i)).flatten.map mD).flatten
theorem Wm:∀(q:Nat)(h b:List Int),h.length=8->(xN q h b).length=8|0,_,_,h=>h|q+1,h,b,_=>Wm q _ _ (Rq _ _)
theorem aoB(text:aj):(SZ text).length=8:=Wm _ _ _ rfl
theorem ato{h:List Int}(C:h.length=8)(D:2^41<=n):AM n n h [] 0 (λa=>some (je a))=some (je ((List.range 8).map λi=>w8 (gI h i)).flatten):=by
 have e:∀m i:Nat,i<=8->8<m+i->AM n m h (((List.range i).map λi=>w8 (gI h i)).flatten) i (λa=>some (je a))=some (je ((List.range 8).map λi=>w8 (gI h i)).flatten):=by
  intro m
  induction m with
  |zero=>intro i j u;omega
  |succ m y=>
   intro i j u
   by_cases hi:i<8
   ·have c:(i:Int)<8:=by omega
    have t1:∀x,lB .u32 x 24=some (sh x 24):=λx=>vk (kd:=.u32) (k:=24) (by decide);have t2:∀x,lB .u32 x 16=some (sh x 16):=λx=>vk (kd:=.u32) (k:=16) (by decide);have t3:∀x,lB .u32 x 8=some (sh x 8):=λx=>vk (kd:=.u32) (k:=8) (by decide);have A:(((List.range i).map λi=>w8 (gI h i)).flatten).length=4*i:=by
     rw[yQ (c:=4) (λ_=>rfl),aaR]
    simp only[AM,bp,c,fc,aF,jt (l:=h) (show i<h.length by omega),ak,t1,t2,t3];rw[eL (by rw[A];simp;omega) (by omega),ak,bD (by omega)];have:((List.range i).map λi=>w8 (gI h i)).flatten++[dm .u8 (sh (gI h i) 24),dm .u8 (sh (gI h i) 16),dm .u8 (sh (gI h i) 8),dm .u8 (gI h i)]=((List.range (i+1)).map λi=>w8 (gI h i)).flatten:=by
     rw[aaP,oO,aaS];simp[w8]
    rw[this];exact y (i+1) (by omega) (by omega)
   ·have:i=8:=by omega
    subst this;simp only[AM,bp];rfl
 exact e n 0 (by omega) (by omega)
theorem ar8{text:aj}(e:text.length<2^30)(a:2^41<=n):Q9 n text=some (je ((List.range 8).map λi=>w8 (gI (SZ text) i)).flatten):=by
 unfold Q9;rw[amW e a,ak];have x:=adJ text;have:=agN (n:=n) (k:=λj=>AM n n j [] 0 λu=>some (je u)) (aoA text) (by omega) a n ((o6 text).length/64) 0 Od rfl (by omega) (by omega);refine UA this ?_;exact ato (aoB text) a
theorem ah4{x:Nat}(h:x<16):iC [48,49,50,51,52,53,54,55,56,57,97,98,99,100,101,102] (x:Int)=some ((zI x).toNat:Int):=by
 have:∀x:Fin 16,iC [48,49,50,51,52,53,54,55,56,57,97,98,99,100,101,102] ((x.val:Nat):Int)=some ((zI x.val).toNat:Int):=by decide
 exact this ⟨x,h⟩
theorem ar9{s:aj}(D:s.length<2^28)(E:2^41<=n):Ra n s=some ((s.map λc=>mD (c.toNat:Int)).flatten):=by
 have e:∀m i:Nat,i<=s.length->s.length<m+i->GM n m s (((s.take i).map λc=>(mD (c.toNat:Int)).map λ(c:UInt8)=>(c.toNat:Int)).flatten) i (λj=>some (je j))=some ((s.map λc=>mD (c.toNat:Int)).flatten):=by
  intro m
  induction m with
  |zero=>intro i u x;omega
  |succ m y=>
   intro i u x
   have a:(((s.take i).map λc=>(mD (c.toNat:Int)).map λ(c:UInt8)=>(c.toNat:Int)).flatten).length=2*i:=by
    rw[yQ (c:=2) (λ_=>rfl),lv];omega
   by_cases hi:i<s.length
   ·have c:(i:Int)<s.length:=by omega
    have F:=s[i].toNat_lt;have A:j5 .u8 (s[i].toNat:Int) 16=some ((s[i].toNat/16:Nat):Int):=by
     unfold j5
     rw[aE (by omega),IntKind.wrap_u8,akS (by omega)]
     exact congrArg some (by omega)
    have C:kG (s[i].toNat:Int) 16=some ((s[i].toNat % 16:Nat):Int):=by
     unfold kG
     rw[aE (by omega),aaL (by omega)]
     exact congrArg some (by omega)
    simp only[GM,bp,fN,c,fc,aF,zl hi,ak,A,C,ah4 (show s[i].toNat/16<16 by omega),ah4 (show s[i].toNat % 16<16 by omega)];rw[eL (by rw[a];simp;omega) (by omega),ak,bD (by omega)];have:((s.take i).map λc=>(mD (c.toNat:Int)).map λ(c:UInt8)=>(c.toNat:Int)).flatten++[((zI ((s[i].toNat/16:Nat):Int)).toNat:Int),((zI ((s[i].toNat % 16:Nat):Int)).toNat:Int)]=((s.take (i+1)).map λc=>(mD (c.toNat:Int)).map λ(c:UInt8)=>(c.toNat:Int)).flatten:=by
     rw[oe hi,oO,aaS]
     simp[mD]
    rw[this];exact y (i+1) (by omega) (by omega)
   ·have:i=s.length:=by omega
    subst this;have c:¬ ((s.length:Int)<s.length):=by omega
    simp only[GM,bp,fN,c,ga,aH,wQ]
    congr 1
    unfold je;rw[List.map_flatten,Jg]
    congr 1
    refine CM λc _=>?_;simp[mD]
 have:=e n 0 (by omega) (by omega);unfold Ra;simpa using this
theorem alZ{text:aj}(j:text.length<2^30)(e:2^41<=n):PV n text=some (mX text):=by
 unfold PV;rw[ar8 j e,ak,ar9 (by unfold je;rw[qf,yQ (c:=4) (λ_=>rfl),aaR];omega) e,ak];unfold mX
 congr 2
 unfold je;rw[Jg];refine CM λb a=>?_;have:0<=b/\b<256:=by
  simp only[List.mem_flatten,gQ] at a
  obtain⟨l,⟨i,_,rfl⟩,a⟩:=a
  simp only[w8,cO,oP,oQ] at a
  rcases a with rfl|rfl|rfl|rfl<;>rw[S0]<;>omega
 simp only[aaC];rw[akU]
 congr 1
 omega
theorem Qh(text:aj):(mX text).length=64:=by
 unfold mX;rw[yQ (c:=2) (λ_=>rfl),yQ (c:=4) (λ_=>rfl),aaR]
end
end
end Go.Ev
namespace Go.Ev
open Go Go.Lib
section
section
variable{n:Nat}
theorem mP{a:Type}(l:List a)(i:Int)(x:a):(aX l i x).length=l.length:=by simp[aX]
theorem aoC{l:List Int}{i:Nat}(h:i<l.length)(x:Int):af (aX l i x) (i:Int)=some x:=by
 simp[af,aX,h]
theorem aoD{l:List Int}(i:Nat)(x y:Int):aX (aX l i x) (i:Int) y=aX l i y:=by simp[aX]
theorem adK{a r:List Int}{x y:Int}:aX (a++x::r) (a.length:Int) y=a++y::r:=by simp[aX]
theorem qF{R:Type}{b:Bool}(h:b=true)(f:Unit->Option R):ae (bR b) f=f ():=by subst h;rfl
theorem S1{x b:Int}(h0:0<=x)(a:x<16777216)(e:0<=b/\b<256):na .u32 (IntKind.u32.wrap (x*2^8)) (dm .u32 b)=x*256+b:=by
 simp only[dm,L9];rw[show x*2^8 % 4294967296=x*256 by omega,show b % 4294967296=b by omega,QG (i:=8) (by omega) (by omega) (by omega) (by omega) (by omega) (by omega)]
theorem asa{text:aj}{i:Nat}{h a w:List Int}{k:aj->Int->List Int->List Int->List Int->Option (List Int)}{b0 b1 b2 b3:Int}(hi:i<64)(Z:w.length=64)(h0:af w (i:Int)=some 0)(e:0<=b0/\b0<256)(j:0<=b1/\b1<256)(u:0<=b2/\b2<256)(y:0<=b3/\b3<256)(hn:2^41<=n):
  J6 n n text i i [b0,b1,b2,b3] 4 0 h a w k=k text i h a (aX w i (w4 b0 b1 b2 b3)):=by
 obtain⟨m,rfl⟩:∃m,n=m+5:=⟨n-5,by omega⟩;have c:av (i:Int) 64=true:=by rw[bp];simp;omega
 have A:∀x,rJ .u32 x 8=some (IntKind.u32.wrap (x*2^8)):=λx=>HO (k:=8) (by omega);have g:∀x,af (aX w i x) (i:Int)=some x:=λx=>aoC (by omega) x;have C:na .u32 (IntKind.u32.wrap (0*2^8)) (dm .u32 b0)=b0:=by rw[S1 (by omega) (by omega) e];omega
 have D:na .u32 (IntKind.u32.wrap (b0*2^8)) (dm .u32 b1)=b0*256+b1:=S1 (by omega) (by omega) j;have E:na .u32 (IntKind.u32.wrap ((b0*256+b1)*2^8)) (dm .u32 b2)=b0*65536+b1*256+b2:=by rw[S1 (by omega) (by omega) u];omega
 have F:na .u32 (IntKind.u32.wrap ((b0*65536+b1*256+b2)*2^8)) (dm .u32 b3)=w4 b0 b1 b2 b3:=by rw[S1 (by omega) (by omega) y];unfold w4;omega
 have H:aq .i64 0 1=1:=rfl;have I:aq .i64 1 1=2:=rfl;have J:aq .i64 2 1=3:=rfl;have M:aq .i64 3 1=4:=rfl;have N:av 0 4=true:=rfl;have P:av 1 4=true:=rfl;have Q:av 2 4=true:=rfl;have R:av 3 4=true:=rfl;have S:av 4 4=false:=rfl;have l0:af [b0,b1,b2,b3] 0=some b0:=rfl;have U:af [b0,b1,b2,b3] 1=some b1:=rfl;have Y:af [b0,b1,b2,b3] 2=some b2:=rfl;have l3:af [b0,b1,b2,b3] 3=some b3:=rfl;simp only[J6,c,qF,h0,A,g,C,D,E,F,H,I,J,M,N,P,Q,R,S,l0,U,Y,l3,ak,aF,aH,aoD]
theorem ah5{text:aj}{h v4:List Int}{k:List Int->List Int->List Int->Option (List Int)}(J:64<=text.length)(M:text.length<2^31)(I:2^41<=n):∀m i:Nat,i<=16->16<m+i->
  GO n m text i h v4 (kr ((bB text).take 64) i++List.replicate (64-i) 0) k=k h v4 (kr ((bB text).take 64) 16++List.replicate 48 0)
 |0,i,N,P=>by omega
 |m+1,i,N,P=>by
  by_cases hi:i<16
  ·have c:av (i:Int) 16=true:=by rw[bp];simp;omega
   have Q:cR .i64 4 (i:Int)=((4*i:Nat):Int):=by rw[oW (by omega)];omega
   have R:aq .i64 ((4*i:Nat):Int) 4=((4*i+4:Nat):Int):=Ma (by omega) 4 (by omega);have S:dZ text ((4*i:Nat):Int) ((4*i+4:Nat):Int)=some ((text.drop (4*i)).take 4):=by
    unfold dZ
    rw[aD (by omega),eC,eC,show 4*i+4-4*i=4 by omega]
   have e:((text.drop (4*i)).take 4).length=4:=by simp;omega
   have U:bE (de ((text.drop (4*i)).take 4)) 1152921504606846976=true:=by rw[gx,fN,e];rfl
   have Y:bB ((text.drop (4*i)).take 4)=[gI ((bB text).take 64) (4*i),gI ((bB text).take 64) (4*i+1),gI ((bB text).take 64) (4*i+2),gI ((bB text).take 64) (4*i+3)]:=by
    have A:∀j,j<4->gI ((bB text).take 64) (4*i+j)=gI (bB ((text.drop (4*i)).take 4)) j:=λj Z=>by
     have E:4*i+j<64:=by omega
     simp[gI,iR,bB,q8,E,Z,An]
    have F:(bB ((text.drop (4*i)).take 4)).length=4:=by unfold bB;rw[qf];exact e
    have h4:∀u:List Int,u.length=4->u=[gI u 0,gI u 1,gI u 2,gI u 3]:=λu hx=>by
     match u,hx with
     |[a,b,c,d],_=>rfl
    rw[h4 _ F,A 1 (by omega),A 2 (by omega),A 3 (by omega),<-A 0 (by omega)]
    rw[<-A 1 (by omega),<-A 2 (by omega),<-A 3 (by omega)]
    rfl
   have hw:(kr ((bB text).take 64) i++List.replicate (64-i) 0).length=64:=by simp[kr];omega
   have D:uO ((bB text).take 64):=λx hx=>abN _ x (yA hx);have H:(kr ((bB text).take 64) i).length=i:=by simp[kr]
   have C:List.replicate (64-i) (0:Int)=0::List.replicate (63-i) 0:=by rw[show 64-i=(63-i)+1 by omega];rfl
   have h0:af (kr ((bB text).take 64) i++List.replicate (64-i) 0) (i:Int)=some 0:=by
    rw[C,jt (by simp[H])]
    simp[gI,iR,H]
   have ll:au [gI ((bB text).take 64) (4*i),gI ((bB text).take 64) (4*i+1),gI ((bB text).take 64) (4*i+2),gI ((bB text).take 64) (4*i+3)]=4:=rfl;simp only[GO,c,aF,Q,R,S,ak,qF U,Y,ll];rw[asa (by omega) hw h0 (Bn D _) (Bn D _) (Bn D _) (Bn D _) I,bD (by omega)];have:aX (kr ((bB text).take 64) i++List.replicate (64-i) 0) i (w4 (gI ((bB text).take 64) (4*i)) (gI ((bB text).take 64) (4*i+1)) (gI ((bB text).take 64) (4*i+2)) (gI ((bB text).take 64) (4*i+3)))=kr ((bB text).take 64) (i+1)++List.replicate (64-(i+1)) 0:=by
    rw[C]
    have:=adK (a:=kr ((bB text).take 64) i) (r:=List.replicate (63-i) 0) (x:=0) (y:=w4 (gI ((bB text).take 64) (4*i)) (gI ((bB text).take 64) (4*i+1)) (gI ((bB text).take 64) (4*i+2)) (gI ((bB text).take 64) (4*i+3)))
    rw[H] at this
    rw[this,show 64-(i+1)=63-i by omega]
    simp[kr,aaP]
   rw[this];exact ah5 J M I m (i+1) (by omega) (by omega)
  ·have:i=16:=by omega
   subst this;simp only[GO];rfl
theorem aqs{w r:List Int}{i:Nat}(h:i<w.length):gI (w++r) i=gI w i:=by
 simp[gI,iR,rb h]
theorem agO{h v:List Int}{k:List Int->List Int->List Int->Option (List Int)}:∀(m j:Nat)(w:List Int),w.length+j=64->16<=w.length->j<m->GP n m w.length h v (w++List.replicate j 0) k=k h v (BI j w)
 |0,j,w,u,h0,A=>by omega
 |m+1,0,w,u,h0,A=>by
  have c:av (w.length:Int) 64=false:=by rw[bp];simp;omega
  simp only[GP,c,aH,BI,List.replicate_zero,Ow]
 |m+1,j+1,w,u,h0,A=>by
  have c:av (w.length:Int) 64=true:=by rw[bp];simp;omega
  have C:aL .i64 (w.length:Int) 15=((w.length-15:Nat):Int):=BJ (by omega) 15 (by omega);have D:aL .i64 (w.length:Int) 2=((w.length-2:Nat):Int):=BJ (by omega) 2 (by omega);have E:aL .i64 (w.length:Int) 16=((w.length-16:Nat):Int):=BJ (by omega) 16 (by omega);have e4:aL .i64 (w.length:Int) 7=((w.length-7:Nat):Int):=BJ (by omega) 7 (by omega);have F:av ((w.length-15:Nat):Int) 64=true:=by rw[bp];simp;omega
  have g2:av ((w.length-2:Nat):Int) 64=true:=by rw[bp];simp;omega
  have H:av ((w.length-16:Nat):Int) 64=true:=by rw[bp];simp;omega
  have g4:av ((w.length-7:Nat):Int) 64=true:=by rw[bp];simp;omega
  have a:∀i,i<w.length->af (w++List.replicate (j+1) 0) ((i:Nat):Int)=some (gI w i):=λi hi=>by rw[jt (by simp;omega),aqs hi]
  have I:af (w++List.replicate (j+1) 0) (w.length:Int)=some 0:=by
   rw[jt (by simp)]
   simp[gI,iR,Jc]
  have t1:∀x,lS n x 7=some (rr x 7):=λx=>xa (k:=7) (by decide);have t2:∀x,lS n x 18=some (rr x 18):=λx=>xa (k:=18) (by decide);have t3:∀x,lS n x 17=some (rr x 17):=λx=>xa (k:=17) (by decide);have t4:∀x,lS n x 19=some (rr x 19):=λx=>xa (k:=19) (by decide);have t5:∀x,lB .u32 x 3=some (sh x 3):=λx=>vk (kd:=.u32) (k:=3) (by decide);have t6:∀x,lB .u32 x 10=some (sh x 10):=λx=>vk (kd:=.u32) (k:=10) (by decide);simp only[GP,c,aF,C,D,E,e4,qF F,qF g2,qF H,qF g4,qF c,a _ (show w.length-15<w.length by omega),a _ (show w.length-2<w.length by omega),a _ (show w.length-16<w.length by omega),a _ (show w.length-7<w.length by omega),I,ak,t1,t2,t3,t4,t5,t6];rw[bD (by omega)];have e:∀y,aX (w++List.replicate (j+1) 0) (w.length:Int) y=(w++[y])++List.replicate j 0:=λy=>by
   rw[Jc,adK];simp
  rw[e];have:=agO (h:=h) (v:=v) (k:=k) m j (w++[Yq w]) (by simp;omega) (by simp;omega) (by omega);rw[dG,yx] at this;exact this
theorem agP{h v4 w:List Int}(A:w.length=64){k:List Int->List Int->List Int->Option (List Int)}:∀(m j i:Nat)(s:List Int),s.length=8->i+j=64->j<m->GQ n m i h v4 w s k=k h v4 (zH w j i s)
 |0,j,i,s,h0,u,y=>by omega
 |m+1,0,i,s,h0,u,y=>by
  have c:av (i:Int) 64=false:=by rw[bp];simp;omega
  simp only[GQ,c,aH,zH]
 |m+1,j+1,i,s,h0,u,y=>by
  have c:av (i:Int) 64=true:=by rw[bp];simp;omega
  have C:i<wK.length:=by show i<64;omega
  have t1:∀x,lS n x 6=some (rr x 6):=λx=>xa (k:=6) (by decide);have t2:∀x,lS n x 11=some (rr x 11):=λx=>xa (k:=11) (by decide);have t3:∀x,lS n x 25=some (rr x 25):=λx=>xa (k:=25) (by decide);have t4:∀x,lS n x 2=some (rr x 2):=λx=>xa (k:=2) (by decide);have t5:∀x,lS n x 13=some (rr x 13):=λx=>xa (k:=13) (by decide);have t6:∀x,lS n x 22=some (rr x 22):=λx=>xa (k:=22) (by decide);rw[zH];refine UA ?_ (agP (k:=k) (h:=h) (v4:=v4) A m j (i+1) (Uj (gI wK i) (gI w i) s) rfl (by omega) (by omega));rw[eight h0];generalize gI s 0=x0;generalize gI s 1=x1;generalize gI s 2=x2;generalize gI s 3=x3;generalize gI s 4=x4;generalize gI s 5=x5;generalize gI s 6=x6;generalize gI s 7=x7;have l0:af [x0,x1,x2,x3,x4,x5,x6,x7] 0=some x0:=rfl;have D:af [x0,x1,x2,x3,x4,x5,x6,x7] 1=some x1:=rfl;have E:af [x0,x1,x2,x3,x4,x5,x6,x7] 2=some x2:=rfl;have l3:af [x0,x1,x2,x3,x4,x5,x6,x7] 3=some x3:=rfl;have F:af [x0,x1,x2,x3,x4,x5,x6,x7] 4=some x4:=rfl;have H:af [x0,x1,x2,x3,x4,x5,x6,x7] 5=some x5:=rfl;have I:af [x0,x1,x2,x3,x4,x5,x6,x7] 6=some x6:=rfl;have J:af [x0,x1,x2,x3,x4,x5,x6,x7] 7=some x7:=rfl;have M:af [1116352408,1899447441,3049323471,3921009573,961987163,1508970993,2453635748,2870763221,3624381080,310598401,607225278,1426881987,1925078388,2162078206,2614888103,3248222580,3835390401,4022224774,264347078,604807628,770255983,1249150122,1555081692,1996064986,2554220882,2821834349,2952996808,3210313671,3336571891,3584528711,113926993,338241895,666307205,773529912,1294757372,1396182291,1695183700,1986661051,2177026350,2456956037,2730485921,2820302411,3259730800,3345764771,3516065817,3600352804,4094571909,275423344,430227734,506948616,659060556,883997877,958139571,1322822218,1537002063,1747873779,1955562222,2024104815,2227730452,2361852424,2428436474,2756734187,3204031479,3329325298] (i:Int)=some (gI wK i):=jt C;have N:av 0 8=true:=rfl;have i1:av 1 8=true:=rfl;have i2:av 2 8=true:=rfl;have P:av 3 8=true:=rfl;have i4:av 4 8=true:=rfl;have i5:av 5 8=true:=rfl;have i6:av 6 8=true:=rfl;have Q:av 7 8=true:=rfl;have R:∀a b c d e f g h:Int,ai (au [a,b,c,d,e,f,g,h]) 8=true:=λ_ _ _ _ _ _ _ _=>rfl;have S:fw true true=true:=rfl;have U:bR true=some ():=rfl;simp only[GQ,c,aF,N,i1,i2,P,i4,i5,i6,Q,R,S,U,l0,D,E,l3,F,H,I,J,M,ak,t1,t2,t3,t4,t5,t6,jt (l:=w) (show i<w.length by omega)];rw[bD (by omega)];have er:Uj (gI wK i) (gI w i) [x0,x1,x2,x3,x4,x5,x6,x7]=[aq .u32 (aq .u32 (aq .u32 (aq .u32 (aq .u32 (aq .u32 x7 (dA .u32 (dA .u32 (rr x4 6) (rr x4 11)) (rr x4 25))) (dA .u32 (ig .u32 x4 x5) (ig .u32 (xC .u32 x4) x6))) (gI wK i)) (gI w i)) (dA .u32 (dA .u32 (rr x0 2) (rr x0 13)) (rr x0 22))) (dA .u32 (dA .u32 (ig .u32 x0 x1) (ig .u32 x0 x2)) (ig .u32 x1 x2)),x0,x1,x2,aq .u32 x3 (aq .u32 (aq .u32 (aq .u32 (aq .u32 x7 (dA .u32 (dA .u32 (rr x4 6) (rr x4 11)) (rr x4 25))) (dA .u32 (ig .u32 x4 x5) (ig .u32 (xC .u32 x4) x6))) (gI wK i)) (gI w i)),x4,x5,x6]:=rfl;rw[er];simp only[aqr]
theorem avc{h v4 s:List Int}(a:h.length=8)(e:s.length=8)(j:2^41<=n){k:List Int->List Int->Option (List Int)}:Ph n n 0 h v4 s k=k ((List.range 8).map λi=>aq .u32 (gI h i) (gI s i)) v4:=by
 obtain⟨m,rfl⟩:∃m,n=m+9:=⟨n-9,by omega⟩;rw[eight a,eight e];rfl
theorem amX{h:List Int}{text:aj}(a:h.length=8)(x:64<=text.length)(y:text.length<2^31)(e:2^41<=n):Ri n h text=some (blk h ((bB text).take 64)):=by
 unfold Ri;have A:xD 64 (0:Int)=kr ((bB text).take 64) 0++List.replicate (64-0) 0:=rfl;rw[A];have C:=λk=>ah5 (n:=n) (h:=h) (v4:=xD 8 0) (k:=k) x y e n 0 (by omega) (by omega);refine(C _).trans ?_;have D:(kr ((bB text).take 64) 16).length=16:=by simp[kr]
 have j:=λk=>agO (n:=n) (h:=h) (v:=xD 8 0) (k:=k) n 48 (kr ((bB text).take 64) 16) (by omega) (by omega) (by omega);rw[D] at j;refine(j _).trans ?_;have u:ai (au h) 8=true:=by rw[cN,aJ,a];rfl
 refine(qF u _).trans ?_;refine(qF (by rw[u];rfl) _).trans ?_;have E:=λk=>agP (n:=n) (h:=h) (v4:=xD 8 0) (k:=k) (acs ((bB text).take 64)) n 64 0 h a (by omega) (by omega);refine(E _).trans ?_;refine(avc a (Wk _ _ _ _ a) e).trans ?_;rfl
end
end
section
section
variable{n:Nat}
def Is(text:aj):aj:=text++128::List.replicate (tj text.length) 0++je (rT (text.length*8) 8)
theorem aqt{l:List Int}(h:uO l):bB (je l)=l:=by
 unfold bB je;rw[Jg];refine(CM λx hx=>?_).trans (aaD l);have:=h x hx;simp only[aaC,akU,id];omega
theorem af1(a b:aj):bB (a++b)=bB a++bB b:=by simp[bB]
theorem ae6(text:aj):bB (Is text)=o6 text:=by
 unfold Is o6;rw[af1,af1,aqt (Wl _ _)];simp[bB]
theorem ah7(x:UInt8):∀c,repeatL [x] c=List.replicate c x
 |0=>rfl
 |c+1=>by rw[repeatL,ah7 x c];rfl
theorem abO{x:UInt8}{c:Nat}(h:c<=1000):A7 n [x] (c:Int)=some (List.replicate c x):=by
 unfold A7;rw[aD (by simp;omega),eC,ah7]
theorem ah8{sz:Nat}(x:sz<2^40){k:aj->Option aj}:∀(m j:Nat)(b:aj),j<=8->j<m->b.length+j<2^31->Gd n m b (sz:Int) (8*(j:Int)-8) k=k (b++je (rT sz j))
 |0,j,b,h,a,u=>by omega
 |m+1,0,b,h,a,u=>by
  simp only[Gd,gx];simp[rT,je]
 |m+1,j+1,b,h,a,u=>by
  have e:8*(((j+1:Nat):Int))-8=((8*j:Nat):Int):=by omega
  have y:lB .u64 (sz:Int) ((8*j:Nat):Int)=some (sh sz (8*j)):=vk (kd:=.u64) (by show 8*j<=64;omega);have A:aL .i64 ((8*j:Nat):Int) 8=8*(j:Int)-8:=by rw[iA];omega
  rw[e];have c:(0:Int)<=((8*j:Nat):Int):=by omega
  simp only[Gd,gx,c,fc,aF,y,A,ak];rw[fj (by simp[je];omega),ak,ah8 x m j _ (by omega) (by omega) (by simp[je];omega)];simp[rT,je]
theorem agQ{k:List Int->Option aj}(y:2^41<=n):∀(m q:Nat)(h:List Int)(b:aj),h.length=8->64*q=b.length->b.length<2^31->q<m->Ge n m b h k=k (xN q h (bB b))
 |0,q,h,b,a,j,u,A=>by omega
 |m+1,0,h,b,a,j,u,A=>by
  have:b=[]:=qg.1 (by omega);subst this;simp only[Ge];rfl
 |m+1,q+1,h,b,a,j,u,A=>by
  have D:ay (bf b [])=true:=by
   have:b≠[]:=by rintro rfl;simp at j
   simp[cn,mU,this]
  have C:ai (au h) 8=true:=by rw[cN,aJ,a];rfl
  have g2:∀x,fw (ai (au (blk h x)) 8) (ai (au h) 8)=true:=λx=>by rw[C,cN,aJ,Rq];rfl
  have e:dZ b 64 (de b)=some (b.drop 64):=by
   unfold dZ
   rw[fN,aD (by omega)]
   congr 1
   rw[Fs (by simp)]
   rfl
  simp only[Ge,D,aF,qF C,amX a (show 64<=b.length by omega) u y,ak,qF (g2 _),e];rw[agQ y m q _ _ (Rq _ _) (by simp;omega) (by simp;omega) (by omega),xN];simp[bB,List.map_drop]
abbrev dg(x:Nat):UInt8:=([48,49,50,51,52,53,54,55,56,57,97,98,99,100,101,102]:aj).getD x 0
def hx:Nat->Nat->aj|0,_=>[]|k+1,x=>hx k (x/16)++[dg (x % 16)]
theorem ae7:∀k,hx k 0=List.replicate k 48
 |0=>rfl
 |k+1=>by
  rw[hx,Nat.zero_div,ae7 k,ayN];rfl
theorem aoE:∀(k f x:Nat),x<16^(k+1)->k+1<=f->List.replicate (k+1-(hexDs f x).length) 48++hexDs f x=hx (k+1) x/\(hexDs f x).length<=k+1:=by
 intro k;induction k with
 |zero=>
  intro f x e j;obtain⟨g,rfl⟩:∃g,f=g+1:=⟨f-1,by omega⟩;have a:x<16:=by simpa using e
  rw[hexDs,aD a];constructor
  ·simp[hx,Fo a]
  ·simp
 |succ k u=>
  intro f x e j;obtain⟨g,rfl⟩:∃g,f=g+1:=⟨f-1,by omega⟩
  by_cases a:x<16
  ·rw[hexDs,aD a];constructor
   ·rw[hx,aax a,ae7,Fo a];rfl
   ·simp
  ·have y:x/16<16^(k+1):=by rw[yy] at e;omega
   obtain⟨A,C⟩:=u g (x/16) y (by omega);rw[hexDs,aE a];constructor
   ·rw[hx,<-A,dG,yx,show k+1+1-((hexDs g (x/16)).length+1)=k+1-(hexDs g (x/16)).length by omega,kD]
   ·simp;omega
theorem atp(x k:Nat):(x:Int).fdiv (2^k)=((x/2^k:Nat):Int):=by
 rw[Int.fdiv_eq_ediv_of_nonneg _ (by exact_mod_cast CF _)]
 exact_mod_cast rfl
theorem adL(x:Nat):zI (x:Int)=dg x:=rfl
theorem aoF{x:Nat}(h:x<4294967296):((w8 (x:Int)).map mD).flatten=hx 8 x:=by
 have e:∀k,dm .u8 (sh (x:Int) k)=((x/2^k % 256:Nat):Int):=λk=>by rw[S0,sh,atp];omega
 have j:dm .u8 (x:Int)=((x % 256:Nat):Int):=by rw[S0];omega
 simp only[w8,e,j,mM,wP,aaQ,List.flatten_nil,mD,hx];have d:∀a:Nat,zI ((a:Int)/16)=dg (a/16):=λa=>by rw[<-adL];congr 1
 have m:∀a:Nat,zI ((a:Int) % 16)=dg (a % 16):=λa=>by rw[<-adL];congr 1
 simp only[d,m];simp only[iw,sE,Ow]
 congr 1
 ·congr 1;omega
 congr 1
 ·congr 1;omega
 congr 1
 ·congr 1;omega
 congr 1
 ·congr 1;omega
 congr 1
 ·congr 1;omega
 congr 1
 ·congr 1;omega
 congr 1
 ·congr 1;omega
 congr 1
 ·congr 1;omega
theorem atq{x:Int}(h0:0<=x)(C:x<4294967296){R:Type}(f:aj->Option R):(ae (C4 n (dm .u64 x) 16) λj=>ae (A7 n [48] (aL .i64 8 (de j))) λu=>ae (aO u j) f)=f ((w8 x).map mD).flatten:=by
 obtain⟨a,rfl⟩:=gD h0;have y:a<4294967296:=by omega
 have e:dm .u64 (a:Int)=a:=by
  unfold dm;rw[show IntKind.u64.wrap (a:Int)=(a:Int) % 18446744073709551616 by simp[IntKind.wrap,IntKind.bits,IntKind.signed]];omega
 obtain⟨A,D⟩:=aoE 7 16 a (by omega) (by omega);rw[show C4 n (dm .u64 (a:Int)) 16=some (hexDs 16 a) by
  rw[e];unfold C4;rw[aD ⟨rfl,by omega,by omega⟩];rfl];simp only[ak,fN];rw[show aL .i64 8 ((hexDs 16 a).length:Int)=((8-(hexDs 16 a).length:Nat):Int) by rw[iA];omega,abO (by omega),ak,fj (by simp;omega),ak,aoF y,<-A]
theorem atr{h:List Int}(F:h.length=8)(u:∀x∈h,0<=x/\x<4294967296)(H:2^41<=n){k:aj->Option aj}:Df n n h 0 [] k=k ((List.range 8).map λi=>((w8 (gI h i)).map mD).flatten).flatten:=by
 have a:∀j,(((List.range j).map λi=>((w8 (gI h i)).map mD).flatten).flatten).length=8*j:=λj=>by
  rw[yQ (c:=8) (λx=>by rw[yQ (c:=2) (λ_=>rfl)];rfl),aaR]
 have e:∀m i:Nat,i<=8->8<m+i->Df n m h i (((List.range i).map λi=>((w8 (gI h i)).map mD).flatten).flatten) k=k (((List.range 8).map λi=>((w8 (gI h i)).map mD).flatten).flatten):=by
  intro m
  induction m with
  |zero=>intro i y A;omega
  |succ m C=>
   intro i y A
   by_cases hi:i<8
   ·have c:av (i:Int) 8=true:=by rw[bp];simp;omega
    have hx:=u _ (XM (l:=h) (i:=i) (by omega));have D:(((w8 (gI h i)).map mD).flatten).length=8:=by rw[yQ (c:=2) (λ_=>rfl)];rfl
    have E:=a i;simp only[Df,c,aF,qF c,jt (l:=h) (show i<h.length by omega),ak];rw[atq hx.1 hx.2];unfold KT;rw[aD (by rw[E,D];omega),ak,bD (by omega)];have:((List.range i).map λi=>((w8 (gI h i)).map mD).flatten).flatten++((w8 (gI h i)).map mD).flatten=((List.range (i+1)).map λi=>((w8 (gI h i)).map mD).flatten).flatten:=by
     rw[aaP,oO,aaS];simp
    rw[this];exact C (i+1) (by omega) (by omega)
   ·have:i=8:=by omega
    subst this;simp only[Df];rfl
 exact e n 0 (by omega) (by omega)
theorem aqu{h b:List Int}:∀x∈blk h b,0<=x/\x<4294967296:=λx hx=>by
 simp only[blk,gQ] at hx;obtain⟨i,_,rfl⟩:=hx;unfold aq;rw[L9];omega
theorem adM:∀(q:Nat)(h b:List Int),(∀x∈h,0<=x/\x<4294967296)->∀x∈xN q h b,0<=x/\x<4294967296|0,_,_,h=>h|q+1,h,b,_=>adM q _ _ aqu
theorem amY(l:List (List Int)):(l.map λw=>(w.map mD).flatten).flatten=(l.flatten.map mD).flatten:=by
 induction l with
 |nil=>rfl
 |cons x l a=>rw[mM,aaQ,a,aaQ,oO,aaS]
theorem aoG{text:aj}(F:text.length<2^30)(j:2^41<=n):P7 n text=some (mX text):=by
 unfold P7;have y:aL .i64 119 ((text.length % 64:Nat):Int)=((119-text.length % 64:Nat):Int):=by rw[iA];omega
 have H:tj text.length<64:=by unfold tj;omega
 rw[fN,XO,ak,y,XO,ak];rw[show((119-text.length % 64) % 64)=tj text.length from rfl,abO (by omega),ak,fj (by simp;omega),ak,fj (by simp;omega),ak];have A:cR .u64 (dm .u64 (text.length:Int)) 8=((text.length*8:Nat):Int):=by
  have w:∀x,IntKind.u64.wrap x=x % 18446744073709551616:=λx=>by simp[IntKind.wrap,IntKind.bits,IntKind.signed]
  unfold cR dm
  rw[w,w];omega
 rw[A];have C:=λk=>ah8 (n:=n) (sz:=text.length*8) (by omega) (k:=k) n 8 (text++([128]++List.replicate (tj text.length) 0)) (by omega) (by omega) (by simp;omega);refine(C _).trans ?_;have a:text++([128]++List.replicate (tj text.length) 0)++je (rT ((text.length*8:Nat):Int) 8)=Is text:=by simp[Is]
 rw[a];have D:(Is text).length=(o6 text).length:=by rw[<-ae6];simp[bB]
 have I:=adJ text;refine(qF rfl _).trans ?_;refine(qF rfl _).trans ?_;have E:=λk=>agQ (n:=n) (k:=k) j n ((o6 text).length/64) Od (Is text) rfl (by omega) (by omega) (by omega);refine(E _).trans ?_;rw[ae6];have u:(xN ((o6 text).length/64) Od (o6 text)).length=8:=Wm _ _ _ rfl;refine(qF (by rw[cN,aJ,u];rfl) _).trans ?_;have e:∀x∈Od,0<=x/\x<4294967296:=by decide
 refine(atr u (adM _ _ _ e) j).trans ?_;show some _=_;unfold mX SZ;rw[<-amY,Jg];rfl
end
end
section
def Ai(x:UInt8):List aj->List aj|[]=>[[x]]|h::t=>(x::h)::t
def bm(c:UInt8):aj->List aj
 |[]=>[[]]
 |x::a=>if x=c then[]::bm c a else Ai x (bm c a)
theorem Lk(c:UInt8):∀s,bm c s≠[]
 |[]=>by simp[bm]
 |x::a=>by
  unfold bm;split
  ·simp
  ·cases bm c a<;>simp[Ai]
theorem QH(c:UInt8):∀s,(bm c s).length<=s.length+1
 |[]=>by simp[bm]
 |x::a=>by
  have:=QH c a;unfold bm;split
  ·simp;omega
  ·cases h:bm c a with
   |nil=>simp[Ai]
   |cons y e=>rw[h] at this;simp[Ai] at this⊢;omega
def ED(a:aj):List aj->List aj|[]=>[a]|h::t=>(a++h)::t
theorem aoH(a:aj)(x:UInt8)(l:List aj):ED a (Ai x l)=ED (a++[x]) l:=by
 cases l<;>simp[ED,Ai]
theorem adN{l:List aj}(h:l≠[]):ED [] l=l:=by
 cases l with
 |nil=>exact absurd rfl h
 |cons x l=>rfl
theorem VC{c:UInt8}:∀{s:aj},c∉s->bm c s=[s]
 |[],_=>rfl
 |x::a,h=>by
  simp only[cO,Je] at h;rw[bm,aE (q7 h.1),VC h.2];rfl
theorem Xj{c:UInt8}{b:aj}:∀{a:aj},c∉a->bm c (a++c::b)=a::bm c b
 |[],_=>by rw[iw,bm,aD rfl]
 |x::e,h=>by
  simp only[cO,Je] at h;rw[sE,bm,aE (q7 h.1),Xj h.2];rfl
theorem UQ{c:UInt8}:∀{s:aj},c∈s->∃a b,s=a++c::b/\c∉a
 |[],h=>by simp at h
 |x::j,h=>by
  by_cases hx:x=c
  ·exact⟨[],j,by rw[hx];rfl,by simp⟩
  ·rcases cO.1 h with e|h
   ·exact absurd e.symm hx
   ·obtain⟨a,b,e,u⟩:=UQ h;exact⟨x::a,b,by rw[e];rfl,by simp[q7 hx,u]⟩
theorem acu(c:UInt8)(s:aj):(c∉s/\bm c s=[s])\/∃a b,s=a++c::b/\c∉a/\bm c s=a::bm c b:=by
 by_cases h:c∈s
 ·obtain⟨a,b,e,j⟩:=UQ h;exact .inr ⟨a,b,e,j,by rw[e];exact Xj j⟩
 ·exact .inl ⟨h,VC h⟩
theorem yL{c:UInt8}:∀{s w:aj},w∈bm c s->w.length<=s.length:=by
 intro s;induction h:s.length using Nat.strongRecOn generalizing s with
 |_ k u=>
  intro w j;rcases acu c s with⟨x,e⟩|⟨a,b,e,x,y⟩
  ·rw[e,fe] at j;subst j;omega
  ·rw[y] at j;have A:s.length=a.length+b.length+1:=by rw[e];simp;omega
   rcases cO.1 j with rfl|j
   ·omega
   ·have:=u b.length (by omega) rfl j;omega
def dE(c:UInt8):List aj->aj|[]=>[]|[a]=>a|a::b::l=>a++c::dE c (b::l)
theorem Hn{c:UInt8}:∀{l:List aj},l≠[]->(∀w∈l,c∉w)->bm c (dE c l)=l
 |[],h,_=>absurd rfl h
 |[a],_,h=>VC (h a (by simp))
 |a::b::l,_,h=>by
  rw[dE,Xj (h a (by simp)),Hn (by simp) λw e=>h w (by simp[cO.1 e])]
theorem aoI(c:UInt8):∀s:aj,dE c (bm c s)=s:=by
 intro s;induction h:s.length using Nat.strongRecOn generalizing s with
 |_ k u=>
  rcases acu c s with⟨y,e⟩|⟨a,b,e,y,A⟩
  ·rw[e];rfl
  ·rw[A];have:=u b.length (by rw[<-h,e];simp;omega) b rfl;cases j:bm c b with
   |nil=>exact absurd j (Lk c b)
   |cons x l=>rw[dE,<-j,this,e]
theorem amZ{c b:UInt8}(h:b≠c)(l:aj):∀k,splitK [c] 0 k (b::l)=Ai b (splitK [c] 0 k l)
 |0=>rfl
 |k+1=>by
  have u:([c]:List UInt8).isPrefixOf (b::l)=false:=by simp[List.isPrefixOf,q7 h]
  have a:index (b::l) [c]=if index l [c]==-1 then-1 else index l [c]+1:=by rw[index,u];simp
  have A:=index_ge l [c];unfold splitK
  by_cases j:index l [c]=-1
  ·have:(index l [c]==-1)=true:=sy.2 j;rw[a,this];simp[Ai]
  ·have x:(index l [c]==-1)=false:=by rw[akW];exact j
   have y:(index l [c]+1==-1)=false:=by rw[akW];omega
   rw[a,x];simp only[iJ,iy,y,Ai,uQ];have e:(index l [c]+1).toNat=(index l [c]).toNat+1:=by omega
   rw[e,akX];simp
theorem Wn(c:UInt8):∀s:aj,Lib.split s [c]=bm c s
 |[]=>by rw[Lib.split,count_one];rfl
 |x::a=>by
  by_cases h:x=c
  ·subst h;rw[Lib.split,count_cons_eq,Ap,splitK];have:index (x::a) [x]=0:=by rw[index];simp[List.isPrefixOf]
   rw[this];simp only[bm,fM];have:=Wn x a;rw[Lib.split] at this;simp[this]
  ·rw[Lib.split,count_cons_ne x c a h,amZ h,bm,aE h];have:=Wn c a;rw[Lib.split] at this;rw[this]
section
variable{n:Nat}
theorem QI{c:UInt8}{s:aj}(a:s.length<2^31):ud n s [c]=some (bm c s):=by
 unfold ud;rw[aD (by simp;omega),Wn]
theorem XQ{a b:UInt8}:((a.toNat:Int)=b.toNat)↔a=b:=by
 constructor
 ·intro h;exact akV.1 (by omega)
 ·rintro rfl;rfl
def k3m:aj->List aj->Int->Option (List aj):=λa e j=>ae (dZ a j (de a)) λu=>ae (aN 16 e [u]) λx=>some x
theorem Zb{s:aj}{c:UInt8}(j:s.length<2^30):∀(m i f:Nat)(out:List aj),i<=s.length->f<=i->s.length<m+i->out.length<=i->Dt n m s (c.toNat:Int) out f i k3m=some (out++ED ((s.drop f).take (i-f)) (bm c (s.drop i)))
 |0,i,f,out,x,y,A,C=>by omega
 |m+1,i,f,out,x,y,A,C=>by
  by_cases hi:i<s.length
  ·have a:(i:Int)<s.length:=by omega
   simp only[Dt,bp,fN,a,fc,aF,zl hi,ak,cN,XQ,bD (show i<2^31 by omega)];have D:∀k,k=i-f->(s.drop f).take k++[s[i]]=(s.drop f).take (k+1):=λk E=>by
    subst E
    have F:i-f<(s.drop f).length:=by rw[oN];omega
    rw[oe F,akO]
    congr 3;omega
   rw[lx hi,bm]
   by_cases u:s[i]=c
   ·have e:dZ s (f:Int) (i:Int)=some ((s.drop f).take (i-f)):=by
      unfold dZ
      rw[aD (by omega),eC,eC]
    simp only[u,fc,aF,e,ak,fM];rw[eL (by simp;omega) (by omega),ak,Zb j m (i+1) (i+1) _ (by omega) (by omega) (by omega) (by simp;omega)];rw[Ao,Fk,adN (Lk c _)];simp[ED]
   ·simp only[u,ga,aH,iy];rw[Zb j m (i+1) f out (by omega) (by omega) (by omega) (by omega),aoH,D _ rfl,show i+1-f=i-f+1 by omega]
  ·have:i=s.length:=by omega
   subst this;have a:¬ ((s.length:Int)<s.length):=by omega
   have e:dZ s (f:Int) (s.length:Int)=some ((s.drop f).take (s.length-f)):=by
    unfold dZ
    rw[aD (by omega),eC,eC]
   simp only[Dt,bp,fN,a,ga,aH,k3m,e,ak];rw[eL (by simp;omega) (by omega),ak,sD];simp[bm,ED]
theorem HD{s:aj}{c:UInt8}(a:s.length<2^30)(e:2^41<=n):qm n s (c.toNat:Int)=some (bm c s):=by
 unfold qm;have:=Zb (n:=n) (c:=c) a n 0 0 [] (by omega) (by omega) (by omega) (by simp);refine this.trans ?_;rw[Ao,Fk,adN (Lk c _)];rfl
def dr(c:UInt8):aj->aj×aj×Bool
 |[]=>([],[],false)
 |x::a=>if x=c then([],a,true) else(x::(dr c a).1,(dr c a).2)
theorem ae8{c:UInt8}:∀{s:aj},c∉s->dr c s=(s,[],false)
 |[],_=>rfl
 |x::a,h=>by
  simp only[cO,Je] at h;rw[dr,aE (q7 h.1),ae8 h.2]
theorem Ho{c:UInt8}{b:aj}:∀{a:aj},c∉a->dr c (a++c::b)=(a,b,true)
 |[],_=>by rw[iw,dr,aD rfl]
 |x::e,h=>by
  simp only[cO,Je] at h;rw[sE,dr,aE (q7 h.1),Ho h.2]
theorem Pu(c:UInt8)(s:aj):(c∉s/\dr c s=(s,[],false))\/∃a b,s=a++c::b/\c∉a/\dr c s=(a,b,true):=by
 by_cases h:c∈s
 ·obtain⟨a,b,e,j⟩:=UQ h;exact .inr ⟨a,b,e,j,by rw[e];exact Ho j⟩
 ·exact .inl ⟨h,ae8 h⟩
theorem ae9(c:UInt8):∀s:aj,Lib.cut s [c]=dr c s
 |[]=>by unfold Lib.cut;rw[index];rfl
 |x::a=>by
  have u:=ae9 c a;have D:=index_ge a [c]
  by_cases h:x=c
  ·subst h;have:index (x::a) [x]=0:=by rw[index];simp[List.isPrefixOf]
   unfold Lib.cut;rw[this];simp[dr]
  ·have y:([c]:List UInt8).isPrefixOf (x::a)=false:=by simp[List.isPrefixOf,q7 h]
   have A:index (x::a) [c]=if index a [c]==-1 then-1 else index a [c]+1:=by rw[index,y];simp
   rw[dr,aE h,<-u];unfold Lib.cut;rw[A]
   by_cases j:index a [c]=-1
   ·have:(index a [c]==-1)=true:=sy.2 j;rw[this,j];simp
   ·have C:(index a [c]==-1)=false:=by rw[akW];exact j
    rw[C];simp only[iJ,iy];rw[aD (by omega),aD (by omega)];have e:(index a [c]+1).toNat=(index a [c]).toNat+1:=by omega
    rw[e,akX];simp
theorem afa{s:aj}{c:UInt8}(a:s.length<2^31):Eh n s [c]=some (dr c s):=by
 unfold Eh;rw[aD (by omega),ae9]
end
end
section
theorem abP(c:UInt8):∀(l:aj)(a:Nat),parseUint10 a (l++[c])=match parseUint10 a l with|.ok v=>parseUint10 v [c]|e=>e
 |[],a=>by simp[parseUint10]
 |x::l,a=>by
  rw[sE,parseUint10,parseUint10];split
  ·split
   ·rfl
   ·split
    ·rfl
    ·exact abP c l _
  ·rfl
theorem acv:∀u:Nat,u<1000000000000000000->parseUint10 0 (decDigits u)=.ok u:=by
 intro u;induction u using Nat.strongRecOn with
 |_ u a=>
  intro e
  by_cases h:u<10
  ·rw[rj h];simp only[parseUint10,D4 h];rw[aD (by omega),aE (by omega),aE (by omega)]
   congr 1;omega
  ·rw[vg h,abP,a _ (by omega) (by omega)];simp only[parseUint10,D4 (show u % 10<10 by omega)];rw[aD (by omega),aE (by omega),aE (by omega)]
   congr 1;omega
theorem aoJ{u:Nat}(h:u<1000000000000000000):atoiAll (decDigits u)=.ok u:=by
 have e:parseMag (decDigits u)=.ok u:=by unfold parseMag;rw[aE (y7 u),acv u h]
 cases a:decDigits u with
 |nil=>exact absurd a (y7 u)
 |cons c r=>
  have:=AR u c (by rw[a];simp);rw[atoiAll_plain c r (by omega) (by omega),<-a,e];unfold signless;simp only;rw[aE (by omega)]
theorem VD{x:Int}(h0:-1000000000000000000<x)(e:x<1000000000000000000):atoiAll (itoa x)=.ok x:=by
 by_cases c:0<=x
 ·obtain⟨u,rfl⟩:=gD c;rw[pF,aoJ (by omega)]
 ·obtain⟨u,rfl⟩:∃u:Nat,x=-(u:Int):=⟨x.natAbs,by omega⟩;rw[itoa_neg (by omega),atoiAll_minus];have a:parseMag (decDigits u)=.ok u:=by unfold parseMag;rw[aE (y7 u),acv u (by omega)]
  rw[a];unfold signed;simp only;rw[aE (by omega)]
section
variable{n:Nat}
theorem JN{s:aj}(x:s.length<2^40):∃v b,Bb n s=some (v,b)/\(b=true->s=itoa v/\-9223372036854775808<=v/\v<=9223372036854775807)/\∀u:Int,-1000000000000000000<u->u<1000000000000000000->s=itoa u->b=true/\v=u:=by
 unfold Bb LG;rw[aD (by omega),ak];cases h:atoiAll s with
 |ok v=>
  have j:=atoiAll_bounds h;refine⟨v,bf (itoa v) s,?_,λe=>?_,λu h0 a e=>?_⟩
  ·simp only[cn,gE,aF];unfold rz;rw[aD (by omega),ak]
  ·simp only[mU,bH] at e;exact⟨e.symm,j⟩
  ·rw[e,VD h0 a] at h;cases h;exact⟨by simp[mU,e],rfl⟩
 |range=>exact⟨atoiSat s,false,rfl,λe=>(by cases e),λu h0 a e=>by rw[e,VD h0 a] at h;cases h⟩
 |_=>exact⟨0,false,rfl,λe=>(by cases e),λu h0 a e=>by rw[e,VD h0 a] at h;cases h⟩
def kj(i:Nat)(r:aj):aj:=decDigits i++[58]++decDigits r.length++[58]++r
def dn(i:Nat)(r:aj):aj:=kj i r++(mX (kj i r)).take 12++[59]
theorem acw(i:Nat)(r x:aj):kj i r++x=decDigits i++58::(decDigits r.length++58::(r++x)):=by simp[kj]
theorem w5(i:Nat)(r:aj):(dn i r).length=(decDigits i).length+(decDigits r.length).length+r.length+15:=by
 simp[dn,kj,Qh];omega
theorem Sk(u:Nat):(58:UInt8)∉decDigits u:=λh=>by
 have:=AR u _ h;have:(58:UInt8).toNat=58:=rfl;omega
theorem AZ{u:Nat}(h:u<1000000000000):(decDigits u).length<=12:=GV 12 u (by omega) (by omega)
theorem adO{i:Nat}{r:aj}(hi:i<1000000000000)(j:r.length<2^29)(a:2^41<=n):JX n i r=some (dn i r):=by
 have x:=AZ hi;have y:=AZ (u:=r.length) (by omega);have A:=Qh (kj i r);have e:(kj i r).length<2^30:=by simp[kj];omega
 unfold JX;rw[XN (by omega) (by omega) (by omega),pF,ak,fj (by simp;omega),ak,fN,XN (by omega) (by omega) (by omega),pF,ak,fj (by simp;omega),ak,fj (by simp;omega),ak,fj (by simp;omega),ak];rw[show decDigits i++[58]++decDigits r.length++[58]++r=kj i r from rfl,alZ e a,ak];rw[show dZ (mX (kj i r)) 0 12=some ((mX (kj i r)).take 12) by unfold dZ;rw[aD (by omega)];rfl,ak,fj (by simp;omega),ak,fj (by simp;omega),ak];rfl
theorem aoK{i:Nat}{r:aj}(hi:i<1000000000000)(x:r.length<2^29)(a:2^41<=n):Rj n i r=some (dn i r):=by
 have y:=AZ hi;have A:=AZ (u:=r.length) (by omega);have C:=Qh (kj i r);have j:(kj i r).length<2^30:=by simp[kj];omega
 have e:∀u:Nat,u<1000000000000->rz n (u:Int)=some (decDigits u):=λu D=>by unfold rz;rw[aD (by omega),pF]
 unfold Rj;rw[e i hi,ak,fj (by simp;omega),ak,fN,e _ (by omega),ak,fj (by simp;omega),ak,fj (by simp;omega),ak,fj (by simp;omega),ak];rw[show decDigits i++[58]++decDigits r.length++[58]++r=kj i r from rfl,aoG j a,ak];rw[show dZ (mX (kj i r)) 0 12=some ((mX (kj i r)).take 12) by unfold dZ;rw[aD (by omega)];rfl,ak,fj (by simp;omega),ak,fj (by simp;omega),ak];rfl
def jc(i:Nat)(s:aj):Option aj:=
 let a:=dr 58 s
 let b:=dr 58 a.2.1
 if a.2.2=true/\b.2.2=true/\0<=cA b.1/\cA b.1<=b.2.1.length/\dn i (b.2.1.take (cA b.1).toNat)<+:s then some (b.2.1.take (cA b.1).toNat) else none
theorem DO{i:Nat}{s r:aj}(a:s.length<1000000000000):jc i s=some r↔dn i r<+:s:=by
 constructor
 ·intro h;unfold jc at h;simp only at h;split at h
  ·rename_i j;cases h;exact j.2.2.2.2
  ·cases h
 ·rintro⟨y,rfl⟩;have u:r.length<1000000000000:=by
   have:=w5 i r
   simp at a;omega
  have e:dn i r++y=decDigits i++58::(decDigits r.length++58::(r++((mX (kj i r)).take 12++[59]++y))):=by
   rw[dn,kD,kD,acw];simp
  have x:dr 58 (dn i r++y)=(decDigits i,decDigits r.length++58::(r++((mX (kj i r)).take 12++[59]++y)),true):=by rw[e];exact Ho (Sk i)
  have A:dr 58 (decDigits r.length++58::(r++((mX (kj i r)).take 12++[59]++y)))=(decDigits r.length,r++((mX (kj i r)).take 12++[59]++y),true):=Ho (Sk _);have C:cA (decDigits r.length)=r.length:=Hm u;have D:(r++((mX (kj i r)).take 12++[59]++y)).take r.length=r:=by simp
  unfold jc;simp only[x,A,C,eC,D];rw[aD ⟨trivial,trivial,by omega,by simp;omega,⟨y,rfl⟩⟩]
theorem DP{i:Nat}{s r:aj}(a:s.length<1000000000000)(h:jc i s=some r):(dn i r).length<=s.length/\r.length+15<=s.length:=by
 have:=((DO a).1 h).length_le;have:=w5 i r;omega
def eT:Nat->Nat->aj->List aj×Nat
 |0,_,_=>([],0)
 |k+1,i,s=>match jc i s with
  |none=>([],0)
  |some r=>(r::(eT k (i+1) (s.drop (dn i r).length)).1,(dn i r).length+(eT k (i+1) (s.drop (dn i r).length)).2)
def cS(s:aj):List aj×Nat:=eT (s.length+1) 0 s
theorem Pv:∀(k a i:Nat)(s:aj),s.length<1000000000000->s.length<k->s.length<a->eT k i s=eT a i s
 |0,_,_,_,_,h,_=>by omega
 |_,0,_,_,_,_,h=>by omega
 |k+1,a+1,i,s,e,j,u=>by
  unfold eT;cases h:jc i s with
  |none=>rfl
  |some r=>
   have:=DP e h;have:=w5 i r;simp only;rw[Pv k a (i+1) _ (by simp;omega) (by simp;omega) (by simp;omega)]
theorem acx:∀(k i:Nat)(s:aj),s.length<1000000000000->(eT k i s).2<=s.length/\15*(eT k i s).1.length<=(eT k i s).2
 |0,_,_,_=>by simp[eT]
 |k+1,i,s,a=>by
  unfold eT;cases h:jc i s with
  |none=>simp
  |some r=>
   have e:=DP a h;have j:=w5 i r;have:=acx k (i+1) (s.drop (dn i r).length) (by simp;omega);simp only[oN,fD] at this⊢;omega
theorem DQ{s:aj}(a:s.length<1000000000000):(cS s).2<=s.length/\15*(cS s).1.length<=(cS s).2:=acx _ _ _ a
theorem acy:∀(k i:Nat)(s x:aj),(s++x).length<1000000000000->(eT k i s).1<+:(eT k i (s++x)).1
 |0,_,_,_,_=>by simp[eT]
 |k+1,i,s,x,a=>by
  have j:s.length<1000000000000:=by simp at a;omega
  unfold eT;cases h:jc i s with
  |none=>simp
  |some r=>
   have e:=(DO j).1 h;have u:jc i (s++x)=some r:=(DO a).2 (e.trans (wN s x));rw[u];simp only;have y:=e.length_le;rw[ayO y];exact List.cons_prefix_cons.2 ⟨rfl,acy k (i+1) _ x (by simp at a⊢;omega)⟩
theorem aoL(s x:aj)(a:(s++x).length<1000000000000):(cS s).1<+:(cS (s++x)).1:=by
 unfold cS;have e:s.length<1000000000000:=by simp at a;omega
 rw[Pv (s.length+1) ((s++x).length+1) 0 s e (by omega) (by simp;omega)];exact acy _ _ _ _ a
theorem acz:∀(k i:Nat)(s r:aj),(s++dn (i+(eT k i s).1.length) r).length<1000000000000->s.length<k->(eT k i s).2=s.length->eT (k+(dn (i+(eT k i s).1.length) r).length) i (s++dn (i+(eT k i s).1.length) r)=((eT k i s).1++[r],s.length+(dn (i+(eT k i s).1.length) r).length)
 |0,_,_,_,_,h,_=>by omega
 |k+1,i,s,r,a,I,u=>by
  have A:s.length<1000000000000:=by simp at a;omega
  cases h:jc i s with
  |none=>
   have e:eT (k+1) i s=([],0):=by unfold eT;rw[h]
   rw[e] at u a⊢;have:s=[]:=qg.1 u.symm;subst this;simp only[jZ,uQ,iw,iu] at a⊢;have D:=w5 i r;have x:jc i (dn i r)=some r:=(DO a).2 (wS _);rw[show k+1+(dn i r).length=(k+(dn i r).length)+1 by omega,eT,x];simp only[sD];have E:∀m j,eT m j []=([],0):=λm j=>by
    cases m with
    |zero=>rfl
    |succ m=>
     unfold eT
     have:jc j []=none:=rfl
     rw[this]
   rw[E];rfl
  |some q=>
   have F:=DP A h;have D:=w5 i q;have e:eT (k+1) i s=(q::(eT k (i+1) (s.drop (dn i q).length)).1,(dn i q).length+(eT k (i+1) (s.drop (dn i q).length)).2):=by
    conv=>lhs;unfold eT
    rw[h]
   generalize y:eT k (i+1) (s.drop (dn i q).length)=R at e;rw[e] at u a⊢;simp only[fD] at u a⊢;have H:i+(R.1.length+1)=i+1+R.1.length:=by omega
   rw[H] at a⊢;have C:=acz k (i+1) (s.drop (dn i q).length) r (by rw[y];simp at a⊢;omega) (by simp;omega) (by rw[y];simp;omega);rw[y] at C;have x:jc i (s++dn (i+1+R.1.length) r)=some q:=(DO a).2 (((DO A).1 h).trans (wN _ _));rw[show k+1+(dn (i+1+R.1.length) r).length=(k+(dn (i+1+R.1.length) r).length)+1 by omega]
   conv=>lhs;unfold eT
   rw[x];simp only;rw[ayO F.1,C];simp only[sE,cZ,Am,oN];omega
theorem aoM{s r:aj}(a:(s++dn (cS s).1.length r).length<1000000000000)(e:(cS s).2=s.length):cS (s++dn (cS s).1.length r)=((cS s).1++[r],s.length+(dn (cS s).1.length r).length):=by
 unfold cS at*;have:=acz (s.length+1) 0 s r (by simpa using a) (by omega) e;simp only[iu] at this;rw[<-this,dG]
 congr 1
 omega
end
end
section
section
variable{n:Nat}
theorem Sl{i j:Nat}(h:i+j<4611686018427387904):aq .i64 (i:Int) j=((i+j:Nat):Int):=by rw[y6];omega
def LO(s:aj)(at':Nat):Int×Int:=if(dr 58 (s.drop at')).2.2=true then(cA (dr 58 (s.drop at')).1,((at'+(dr 58 (s.drop at')).1.length+1:Nat):Int)) else(-1,(s.length:Int))
theorem af2{s:aj}(A:s.length<2^30)(x:2^41<=n):∀(m f i:Nat),f<=i->i<=s.length->s.length<m+i->FQ n m s i f (λs2 e C=>cond (ai e (de s2)) (some (-1,e)) (ae (dZ s2 C e) λD=>ae (ow n D) λE=>some (E,aq .i64 e 1)))=some (if(dr 58 (s.drop i)).2.2=true then(cA ((s.drop f).take (i-f)++(dr 58 (s.drop i)).1),((i+(dr 58 (s.drop i)).1.length+1:Nat):Int)) else(-1,(s.length:Int)))
 |0,f,i,h0,F,H=>by omega
 |m+1,f,i,h0,F,H=>by
  by_cases hi:i<s.length
  ·have a:av (i:Int) (de s)=true:=by rw[bp,fN];simp;omega
   have I:(s.drop f).take (i-f)++[s[i]]=(s.drop f).take (i+1-f):=by
    have J:i-f<(s.drop f).length:=by rw[oN];omega
    rw[show i+1-f=i-f+1 by omega,oe J,akO]
    congr 3;omega
   rw[FQ,a,aF,zl hi,ak,lx hi,dr];have M:ai (s[i].toNat:Int) 58=decide (s[i]=58):=by
    rw[cN]
    have:=@XQ s[i] 58
    have j:((58:UInt8).toNat:Int)=58:=rfl
    rw[j] at this
    simp[this]
   rw[M]
   by_cases y:s[i]=58
   ·have N:ai (i:Int) (de s)=false:=by rw[cN,fN];simp;omega
    have P:dZ s (f:Int) (i:Int)=some ((s.drop f).take (i-f)):=by
     unfold dZ
     rw[aD (by omega),eC,eC]
    simp only[y,fc,cn,dy,aH,N,P,ak,y8 x,fM,bD (show i<2^31 by omega)];simp
   ·simp only[y,ga,cn,gE,aF,iy];rw[bD (by omega),af2 A x m f (i+1) (by omega) (by omega) (by omega),<-I];simp only[fD,kD,CJ];split
    ·congr 3;omega
    ·rfl
  ·have:i=s.length:=by omega
   subst this;have a:av (s.length:Int) (de s)=false:=by rw[bp,fN];simp
   have u:ai (s.length:Int) (de s)=true:=by rw[cN,fN];simp
   rw[FQ,a,aH,u,aF,sD];rfl
theorem Wo{s:aj}{i:Nat}(a:s.length<2^30)(hi:i<=s.length)(e:2^41<=n):JW n s i=some (LO s i):=by
 unfold JW LO;have:=af2 (n:=n) a e n i i (by omega) hi (by omega);rw[Ao,Fk,iw] at this;exact this
theorem aqv{s:aj}{at' i:Nat}(hl:s.length<2^28)(ha:at'<=s.length)(hi:i<1000000000000)(F:2^41<=n):PW n s at' i=some (match jc i (s.drop at') with|some r=>(r,((at'+(dn i r).length:Nat):Int),true)|none=>([],(at':Int),false)):=by
 unfold PW;rw[Wo (by omega) ha F,ak];unfold LO;have TA:(s.drop at').length=s.length-at':=by simp
 rcases Pu 58 (s.drop at') with⟨J,M⟩|⟨a,b,J,M,D⟩
 ·have A:jc i (s.drop at')=none:=by unfold jc;simp[M]
  rw[M,A];simp only[iJ,iy];have hU:=Wo (n:=n) (s:=s) (i:=s.length) (by omega) (by omega) F;rw[hU,ak];unfold LO;rw[sD];rfl
 ·rw[D];simp only[fM];have Y:a.length+b.length+1=s.length-at':=by rw[<-TA,J];simp;omega
  have Z:s.drop (at'+a.length+1)=b:=by
   rw[show at'+a.length+1=at'+(a.length+1) by omega,<-uR,J]
   simp
  rw[Wo (by omega) (by omega) F,ak];unfold LO;rw[Z];rcases Pu 58 b with⟨N,g2⟩|⟨d,body,N,g2,H⟩
  ·have A:jc i (s.drop at')=none:=by unfold jc;simp[D,g2]
   rw[g2,A];rfl
  ·rw[H];simp only[fM];have aa:d.length+body.length+1=b.length:=by rw[N];simp;omega
   have mH:=Rp d
   by_cases c1:cA d<0
   ·have A:jc i (s.drop at')=none:=by
      unfold jc
      simp only[D,H]
      rw[aE (by omega)]
    rw[A,bp,show decide (cA d<0)=true by simpa using c1];rfl
   obtain⟨v,P⟩:=gD (show 0<=cA d by omega);have ID:s.drop at'=decDigits v++58::body\/True:=.inr trivial;have cf:av (cA d) 0=false:=by rw[bp];simp;omega
   rw[cf,aH];have Q:aq .i64 (aq .i64 (((at'+a.length+1)+d.length+1:Nat):Int) (cA d)) 13=(((at'+a.length+1)+d.length+1+v+13:Nat):Int):=by
    rw[P,Sl (j:=v) (by omega)];exact Sl (j:=13) (by omega)
   rw[Q]
   by_cases c2:s.length<(at'+a.length+1)+d.length+1+v+13
   ·have A:jc i (s.drop at')=none:=by
      cases h:jc i (s.drop at') with
      |none=>rfl
      |some r=>
       exfalso
       have x:=(DO (by omega)).1 h
       obtain⟨y,hy⟩:=x
       have e:dn i r++y=decDigits i++58::(decDigits r.length++58::(r++((mX (kj i r)).take 12++[59]++y))):=by
        rw[dn,kD,kD,acw];simp
       have I:dr 58 (s.drop at')=(decDigits i,decDigits r.length++58::(r++((mX (kj i r)).take 12++[59]++y)),true):=by rw[<-hy,e];exact Ho (Sk i)
       rw[D] at I
       have hb:b=decDigits r.length++58::(r++((mX (kj i r)).take 12++[59]++y)):=by injection I with _ I;injection I
       have E:dr 58 b=(decDigits r.length,r++((mX (kj i r)).take 12++[59]++y),true):=by rw[hb];exact Ho (Sk _)
       rw[H] at E
       have hd:d=decDigits r.length:=by injection E
       have No:body=r++((mX (kj i r)).take 12++[59]++y):=by injection E with _ E;injection E
       have qM:=(DP (by omega) h).2
       rw[hd,Hm (by omega)] at P
       have:body.length=r.length+(12+1+y.length):=by rw[No];simp[Qh];omega
       omega
    have R:av (de s) (((at'+a.length+1)+d.length+1+v+13:Nat):Int)=true:=by rw[bp,fN];simp;omega
    rw[R,A];rfl
   have R:av (de s) (((at'+a.length+1)+d.length+1+v+13:Nat):Int)=false:=by rw[bp,fN];simp;omega
   rw[R,aH];have S:s.drop ((at'+a.length+1)+d.length+1)=body:=by
    rw[show(at'+a.length+1)+d.length+1=(at'+a.length+1)+(d.length+1) by omega,<-uR,Z,N]
    simp
   have j7:dZ s (((at'+a.length+1)+d.length+1:Nat):Int) (aq .i64 (((at'+a.length+1)+d.length+1:Nat):Int) (cA d))=some (body.take v):=by
    rw[P,js (by omega) (by omega) (by omega) (by omega)]
    unfold dZ
    rw[aD (by omega),eC,S]
    congr 2
    omega
   rw[j7,ak,adO hi (by simp;omega) F,ak];have gz:=w5 i (body.take v);have zP:=AZ hi;have Cg:=AZ (u:=(body.take v).length) (by simp;omega);have jU:(body.take v).length=v:=by simp;omega
   have ht:((cA d).toNat)=v:=by omega
   have Fe:jc i (s.drop at')=if dn i (body.take v)<+:s.drop at' then some (body.take v) else none:=by
    unfold jc
    simp only[D,H,ht]
    by_cases x:dn i (body.take v)<+:s.drop at'
    ·rw[aD ⟨trivial,trivial,by omega,by omega,x⟩,aD x]
    ·rw[aE (λh=>x h.2.2.2.2),aE x]
   rw[Fe];simp only[fN];have xL:aq .i64 (at':Int) ((dn i (body.take v)).length:Int)=((at'+(dn i (body.take v)).length:Nat):Int):=by
    rw[js (by omega) (by omega) (by omega) (by omega)];omega
   rw[xL]
   by_cases c3:s.length<at'+(dn i (body.take v)).length
   ·have IG:¬ dn i (body.take v)<+:s.drop at':=λh=>by have:=h.length_le;omega
    have C:av (s.length:Int) ((at'+(dn i (body.take v)).length:Nat):Int)=true:=by rw[bp];simp;omega
    rw[C,aE IG];rfl
   have C:av (s.length:Int) ((at'+(dn i (body.take v)).length:Nat):Int)=false:=by rw[bp];simp;omega
   have U:dZ s (at':Int) ((at'+(dn i (body.take v)).length:Nat):Int)=some ((s.drop at').take (dn i (body.take v)).length):=by
    unfold dZ
    rw[aD (by omega),eC,eC]
    congr 2;omega
   rw[C,aH,U,ak,mU]
   by_cases x:dn i (body.take v)<+:s.drop at'
   ·have:(s.drop at').take (dn i (body.take v)).length=dn i (body.take v):=(ayP.1 x).symm;rw[this,aD x];simp[cn]
   ·have:¬ (s.drop at').take (dn i (body.take v)).length=dn i (body.take v):=λh=>x (ayP.2 h.symm);rw[aE x];simp[cn,this]
theorem agR{s:aj}(a:s.length<2^28)(j:2^41<=n){k:Option (List aj×Int)}:∀(m at':Nat)(out:List aj),at'<=s.length->s.length<m+at'->15*out.length<=at'->JI n m s out at' k=some (out++(eT (s.length-at'+1) out.length (s.drop at')).1,((at'+(eT (s.length-at'+1) out.length (s.drop at')).2:Nat):Int))
 |0,at',out,u,y,A=>by omega
 |m+1,at',out,u,y,A=>by
  rw[JI,aJ,aqv a u (by omega) j,ak];unfold eT;cases h:jc out.length (s.drop at') with
  |none=>simp[cn]
  |some r=>
   have x:=DP (by simp;omega) h;have C:=w5 out.length r;simp only[cn,dy,aH];rw[eL (by simp;omega) (by omega),ak,agR a j m _ _ (by simp at x;omega) (by omega) (by simp;omega)];have e:eT (s.length-(at'+(dn out.length r).length)+1) (out++[r]).length (s.drop (at'+(dn out.length r).length))=eT (s.length-at') (out.length+1) ((s.drop at').drop (dn out.length r).length):=by
    rw[uR,dG,yx]
    exact Pv _ _ _ _ (by simp;omega) (by simp) (by simp at x⊢;omega)
   rw[e];simp only[kD,CJ,ra]
theorem Pw{s:aj}(a:s.length<2^28)(e:2^41<=n):DB n s=some ((cS s).1,((cS s).2:Int)):=by
 unfold DB cS;have:=agR (n:=n) (k:=none) a e n 0 [] (by omega) (by omega) (by simp);simpa using this
def xO(s r:aj):Option aj:=if(cS s).2=s.length/\s.length+(dn (cS s).1.length r).length<=9000 then some (s++dn (cS s).1.length r) else none
theorem VE{s r:aj}(C:s.length<2^28)(D:r.length<2^28)(j:2^41<=n):Ba n s r=some (match xO s r with|some x=>(x,true)|none=>(s,false)):=by
 have E:=DQ (s:=s) (by omega);have F:=w5 (cS s).1.length r;have H:=AZ (u:=(cS s).1.length) (by omega);have I:=AZ (u:=r.length) (by omega);unfold Ba xO;rw[Pw C j,ak];dsimp only;rw[aJ,adO (by omega) (by omega) j,ak,fj (by omega),ak];simp only[cN,fN,cn,bp,dG]
 by_cases y:(cS s).2=s.length
 ·have a:((cS s).2:Int)=s.length:=by omega
  by_cases A:s.length+(dn (cS s).1.length r).length<=9000
  ·have e:¬ (9000:Int)<((s.length+(dn (cS s).1.length r).length:Nat):Int):=by omega
   rw[aD ⟨y,A⟩];simp only[a,fc,dy,aH,e,ga]
  ·have e:(9000:Int)<((s.length+(dn (cS s).1.length r).length:Nat):Int):=by omega
   rw[aE (λh=>A h.2)];simp only[a,fc,dy,aH,e,aF]
 ·have a:¬ ((cS s).2:Int)=s.length:=by omega
  rw[aE (λh=>y h.1)];simp only[a,ga,gE,aF]
theorem af3{s:aj}(U:s.length<2^28)(R:2^41<=n){k:List aj->Int->Option (List aj×Int)}:∀(m at':Nat)(out:List aj),at'<=s.length->s.length<m+at'->15*out.length<=at'->JJ n m s out at' k=k (out++(eT (s.length-at'+1) out.length (s.drop at')).1) ((at'+(eT (s.length-at'+1) out.length (s.drop at')).2:Nat):Int)
 |0,at',out,y,E,F=>by omega
 |m+1,at',out,y,E,F=>by
  have Y:dZ s (at':Int) (de s)=some (s.drop at'):=by
   unfold dZ
   rw[fN,aD (by omega),eC,eC,Fs (by simp)]
  have TA:(s.drop at').length=s.length-at':=by simp
  have A:jc out.length (s.drop at')=none->k out (at':Int)=k (out++(eT (s.length-at'+1) out.length (s.drop at')).1) ((at'+(eT (s.length-at'+1) out.length (s.drop at')).2:Nat):Int):=λh=>by
   unfold eT
   rw[h]
   simp
  rw[JJ,Y,ak,afa (by omega),ak];have Z:(dr 58 (s.drop at')).2.1.length<=(s.drop at').length/\(dr 58 (dr 58 (s.drop at')).2.1).1.length<=(s.drop at').length/\(dr 58 (dr 58 (s.drop at')).2.1).2.1.length<=(s.drop at').length:=by
   rcases Pu 58 (s.drop at') with⟨_,E⟩|⟨a,b,y,_,F⟩
   ·rw[E];simp[dr]
   ·rw[F];simp only;have:(s.drop at').length=a.length+b.length+1:=by rw[y];simp;omega
    rcases Pu 58 b with⟨_,g2⟩|⟨d,j,g1,_,g3⟩
    ·rw[g2];simp;omega
    ·rw[g3];have:b.length=d.length+j.length+1:=by rw[g1];simp;omega
     simp only;omega
  rw[afa (by omega),ak];obtain⟨v,b,S2,H,I⟩:=JN (n:=n) (s:=(dr 58 (dr 58 (s.drop at')).2.1).1) (by omega);rw[S2,ak];simp only[cn];cases J:(dr 58 (s.drop at')).2.2 with
  |false=>
   simp only[gE,aF];exact A (by unfold jc;simp[J])
  |true=>
   cases cb:(dr 58 (dr 58 (s.drop at')).2.1).2.2 with
   |false=>
    simp only[gE,dy,aH,aF];exact A (by unfold jc;simp[J,cb])
   |true=>
    simp only[dy,aH];have mH:=Rp (dr 58 (dr 58 (s.drop at')).2.1).1;have M:(b=true/\0<=v/\v<=(dr 58 (dr 58 (s.drop at')).2.1).2.1.length->cA (dr 58 (dr 58 (s.drop at')).2.1).1=v)/\(0<=cA (dr 58 (dr 58 (s.drop at')).2.1).1->b=true/\v=cA (dr 58 (dr 58 (s.drop at')).2.1).1):=by
     constructor
     ·rintro⟨hb,h0,y⟩;obtain⟨u,rfl⟩:=gD h0;have e:=(H hb).1;rw[pF] at e;rw[e,Hm (by omega)]
     ·intro h0;rcases Kb (dr 58 (dr 58 (s.drop at')).2.1).1 with⟨u,e,_,e2,hu⟩|⟨e,_⟩
      ·have:=I u (by omega) (by omega) (by rw[pF];exact e);exact⟨this.1,by rw[this.2,e2]⟩
      ·omega
    have C:jc out.length (s.drop at')=if 0<=cA (dr 58 (dr 58 (s.drop at')).2.1).1/\cA (dr 58 (dr 58 (s.drop at')).2.1).1<=(dr 58 (dr 58 (s.drop at')).2.1).2.1.length/\dn out.length ((dr 58 (dr 58 (s.drop at')).2.1).2.1.take (cA (dr 58 (dr 58 (s.drop at')).2.1).1).toNat)<+:s.drop at' then some ((dr 58 (dr 58 (s.drop at')).2.1).2.1.take (cA (dr 58 (dr 58 (s.drop at')).2.1).1).toNat) else none:=by
     unfold jc
     simp only[J,cb,Am]
    generalize hd:(dr 58 (dr 58 (s.drop at')).2.1).1=d at*;generalize No:(dr 58 (dr 58 (s.drop at')).2.1).2.1=j at*;cases b with
    |false=>
     simp only[gE,aF];refine A ?_;rw[C,aE];rintro⟨h0,_⟩;have:=(M.2 h0).1;cases this
    |true=>
     simp only[dy,aH];have N:mZ n v 0 (de j)=some (decide (0<=v/\v<=j.length)):=by
      unfold mZ
      simp only[gx,fN]
      by_cases h:0<=v<;>simp[h]
     rw[N,ak]
     by_cases x:0<=v/\v<=j.length
     ·obtain⟨u,rfl⟩:=gD x.1;have P:=M.1 ⟨rfl,x.1,x.2⟩;rw[P,eC] at C;have j7:dZ j 0 (u:Int)=some (j.take u):=by
       unfold dZ
       rw[aD (by omega)]
       simp
      have jU:(j.take u).length=u:=by simp;omega
      simp only[x,yz,fc,dy,aH,j7,ak,aJ];rw[aoK (by omega) (by omega) R,ak];unfold UW;rw[ak]
      by_cases D:dn out.length (j.take u)<+:s.drop at'
      ·have Q:Lib.hasPrefix (s.drop at') (dn out.length (j.take u))=true:=by unfold Lib.hasPrefix;rw[ayQ];exact D
       have S:jc out.length (s.drop at')=some (j.take u):=by rw[C,aD ⟨x.1,x.2,D⟩]
       have Um:=DP (by omega) S;have gz:=w5 out.length (j.take u);simp only[Q,dy,aH];rw[eL (by simp;omega) (by omega),ak,fN];have xL:aq .i64 (at':Int) ((dn out.length (j.take u)).length:Int)=((at'+(dn out.length (j.take u)).length:Nat):Int):=by
        rw[js (by omega) (by omega) (by omega) (by omega)];omega
       rw[xL,af3 U R m _ _ (by omega) (by omega) (by simp;omega)]
       conv=>rhs;unfold eT
       rw[S];have e:eT (s.length-(at'+(dn out.length (j.take u)).length)+1) (out++[j.take u]).length (s.drop (at'+(dn out.length (j.take u)).length))=eT (s.length-at') (out.length+1) ((s.drop at').drop (dn out.length (j.take u)).length):=by
        rw[uR,dG,yx]
        exact Pv _ _ _ _ (by simp;omega) (by simp) (by simp;omega)
       rw[e];simp only[kD,CJ,ra]
      ·have Q:Lib.hasPrefix (s.drop at') (dn out.length (j.take u))=false:=by
         unfold Lib.hasPrefix
         rw[<-sC,ayQ];exact D
       simp only[Q,gE,aF];exact A (by rw[C,aE (λh=>D h.2.2)])
     ·simp only[x,ga,gE,aF];refine A ?_;rw[C,aE];rintro⟨h0,y,_⟩;have:=(M.2 h0).2;omega
theorem alA{s:aj}(a:s.length<2^28)(e:2^41<=n):P9 n s=some ((cS s).1,((cS s).2:Int)):=by
 unfold P9 cS;have:=λk=>af3 (n:=n) (k:=k) a e n 0 [] (by omega) (by omega) (by simp);refine(this _).trans ?_;simp only[iw,jZ,iu,aaJ,wR];have j:∀l:List aj,P8 n l=some l:=λl=>by
  unfold P8
  simp[mB,ur,fw,ai,au,zk,ak]
 rw[j,ak]
end
end
section
section
variable{n:Nat}
abbrev gO(l:List aY)(i:Nat):aY:=l.getD i ⟨[],0,0,0⟩
theorem Ei{l:List aY}{i:Nat}(h:i<l.length):gO l i=l[i]:=by
 rw[gO,iR,cT h];rfl
def py(o:aY):Bool:=gw o.ba&&(decide (0<=o.cls/\o.cls<=2)&&(decide (-4<=o.aG/\o.aG<=4)&&(!decide (o.aG=0)&&decide (0<=o.share/\o.share<=1000000000000))))
def I3(ops:List aY)(j:Nat):Bool:=py (gO ops j)&&eX j λk=>!decide ((gO ops k).ba=(gO ops j).ba)
def jg(ops:List aY):Bool:=eX ops.length (I3 ops)&&decide (1<=(ops.length:Int)/\(ops.length:Int)<=3)
def BW(ops:List aY):Prop:=ops.length<2^29/\∀o∈ops,o.ba.length<2^29
theorem atv{o:aY}(h:o.ba.length<2^30)(a:2^41<=n):Rb n o=some (py o):=by
 unfold Rb py;rw[u5 h a];simp only[vf,ak,cn,cN];generalize decide (0<=o.cls/\o.cls<=2)=b1;generalize decide (-4<=o.aG/\o.aG<=4)=b2;generalize decide (o.aG=0)=b3;generalize decide (0<=o.share/\o.share<=1000000000000)=e;cases gw o.ba<;>cases b1<;>cases b2<;>cases b3<;>rfl
theorem af4{ops:List aY}(h:BW ops)(e:2^41<=n):K3 n ops=some (jg ops):=by
 have x:=h.1;have a:∀i,i<ops.length->∀k,Di n n ops (i:Int) 0 k=if eX i (λj=>!decide ((gO ops j).ba=(gO ops i).ba))=true then k ops i else some false:=λi hi k=>
  lT (N:=i) (by omega) (L:=λm j=>Di n m ops i j k) (P:=λj=>!decide ((gO ops j).ba=(gO ops i).ba)) (λm=>by simp[go_sem,Di]) (λm j y=>by
   have c:(j:Int)<i:=by omega
   simp only[go_sem,Di,db (show j<ops.length by omega) ⟨[],0,0,0⟩,db hi ⟨[],0,0,0⟩,c]
   grind) (by omega)
 have:=λk=>lT (N:=ops.length) (by omega) (L:=λm i=>Gy n m ops i k) (P:=I3 ops) (k:=k ops) (r:=some false) (λm=>by simp[go_sem,Gy]) (λm i hi=>by
  have u:(gO ops i).ba.length<2^30:=by rw[Ei hi];have:=h.2 _ (bI hi);omega
  simp only[go_sem,Gy,db hi ⟨[],0,0,0⟩,hi,atv u e,I3,a i hi]
  cases py (gO ops i)<;>simp) (m:=n) (by omega);unfold K3 jg;rw[this];cases eX ops.length (I3 ops)<;>simp[go_sem]
theorem y9(a b c:Int):mZ n a b c=some (decide (b<=a/\a<=c)):=by
 simp only[mZ,gx]
 by_cases h:b<=a<;>simp[h]
theorem Px{t:aj}(a:t.length<2^30)(u:2^41<=n):DM n t=some (gw t):=by
 have:=λk=>Ym a (L:=λm i=>GA n m t i k) (G:=λe=>if e.all low=true then k t else some false) (λm=>by simp[go_sem,GA]) (λm i h j=>by
  simp only[go_sem,GA,zl h,j,low,h];grind) (m:=n) (by omega);simp only[go_sem,DM,gw,y9] at this⊢;rw[this]
 grind
theorem am0{l:List aj}{s:aj}(u:l.length<2^30)(D:2^41<=n):OD n l s=some (decide (s∈l)):=by
 have y:U1 n l s=some (nL (λx=>decide (s=x)) 0 l):=
  yV u (L:=λm i=>FP n m l s (au l) i (some (-1))) (f:=some) (λm=>by simp[go_sem,FP]) (λm i h=>by simp only[go_sem,FP,bn h,h]) (by omega);unfold OD;rw[y,ak,gx]
 congr 1
 rcases tX (p:=λx=>decide (s=x)) (xs:=l) (i:=0) with⟨e,a⟩|⟨j,A,e,a,_⟩
 ·rw[e];have:s∉l:=λC=>by simpa using a s C
  simp[this]
 ·rw[e];have:s∈l:=by
   have:=ef a
   rw[this];exact bI A
  simp[this]
abbrev gS(l:List aj)(i:Nat):aj:=l.getD i []
theorem Yr{l:List aj}{i:Nat}(h:i<l.length):gS l i=l[i]:=by
 rw[gS,iR,cT h];rfl
theorem aqw{l:List aj}(x:l.length<2^29)(h:∀s∈l,s.length<2^29)(a:2^41<=n):Jx n l=some (eX l.length λj=>gw (gS l j)&&!decide (gS l j∈l.take j)):=by
 have:=lT (N:=l.length) (by omega) (L:=λm i=>FI n m l l (au l) i (some true)) (P:=λj=>gw (gS l j)&&!decide (gS l j∈l.take j)) (k:=some true) (r:=some false) (λm=>by simp[go_sem,FI]) (λm i hi=>by
  have u:(gS l i).length<2^30:=by rw[Yr hi];have:=h _ (bI hi);omega
  have e:dF l 0 (i:Int)=some (l.take i):=by unfold dF;rw[aD (by omega)];simp
  simp only[go_sem,FI,db hi [],hi,Px u a,e,am0 (show(l.take i).length<2^30 by simp;omega) a]
  cases gw (gS l i)<;>simp) (m:=n) (by omega);unfold Jx;rw[this];cases eX l.length (λj=>gw (gS l j)&&!decide (gS l j∈l.take j))<;>simp
def bZ(o:aY):Bool:=decide (0<=o.cls/\o.cls<=2)&&(decide (-4<=o.aG/\o.aG<=4)&&(!decide (o.aG=0)&&decide (0<=o.share/\o.share<=1000000000000)))
theorem am1{ops:List aY}(h:BW ops)(Q:2^41<=n):Rk n ops=some (jg ops):=by
 have hl:=h.1;have F:∀k:List aY->List aj->Option Bool,∀m i:Nat,i<=ops.length->ops.length<m+i->GR n m ops ((ops.take i).map (·.ba)) ops (au ops) i k=if(ops.drop i).all bZ=true then k ops (ops.map (·.ba)) else some false:=by
  intro k m
  induction m with
  |zero=>intro i y C;omega
  |succ m R=>
   intro i y C
   by_cases hi:i<ops.length
   ·have x:av (i:Int) (au ops)=true:=by rw[bp,aJ];simp;omega
    rw[GR,x,aF,bn hi,ak,lx hi,Oi];unfold KB;simp only[y9,ak,cn,cN,bZ]
    by_cases D:0<=ops[i].cls/\ops[i].cls<=2
    ·by_cases E:-4<=ops[i].aG/\ops[i].aG<=4
     ·by_cases H:ops[i].aG=0
      ·simp[D,E,H]
      ·by_cases M:0<=ops[i].share/\ops[i].share<=1000000000000
       ·simp only[D,E,H,M,yz,fc,ga,dy,gE,aH,pA];rw[eL (by simp;omega) (by omega),ak,bD (by omega)];have:(ops.take i).map (·.ba)++[ops[i].ba]=(ops.take (i+1)).map (·.ba):=by
         rw[oe hi,oO];rfl
        rw[this];exact R (i+1) (by omega) (by omega)
       ·simp[D,E,H,M]
     ·simp[D,E]
    ·simp[D]
   ·have:i=ops.length:=by omega
    subst this;have x:av (ops.length:Int) (au ops)=false:=by rw[bp,aJ];simp
    rw[GR,x,aH];simp
 unfold Rk;have:=F (λS U=>ae (mZ n (au S) 1 3) λY=>cond Y (ae (Jx n U) λZ=>some Z) (some false)) n 0 (by omega) (by omega);refine this.trans ?_;rw[wR,y9,aJ];simp only[ak];rw[aqw (by simp;omega) (λs hs=>by
  obtain⟨o,I,rfl⟩:=gQ.1 hs
  exact h.2 o I) Q,ak];have J:(ops.all bZ&&decide (1<=(ops.length:Int)/\(ops.length:Int)<=3)&&eX (ops.map (·.ba)).length (λj=>gw (gS (ops.map (·.ba)) j)&&!decide (gS (ops.map (·.ba)) j∈(ops.map (·.ba)).take j)))=jg ops:=by
  rw[Ov]
  unfold jg I3 py
  have N:∀j,j<ops.length->gS (ops.map (·.ba)) j=(gO ops j).ba:=λj u=>by rw[Yr (by simpa using u),Ei u];simp
  have P:∀j,j<ops.length->((gO ops j).ba∈(ops.map (·.ba)).take j↔∃k,k<j/\(gO ops k).ba=(gO ops j).ba):=λj u=>by
   rw[List.mem_take_iff_getElem]
   constructor
   ·rintro⟨k,A,e⟩;simp only[qf] at A;exact⟨k,by omega,by rw[<-e,Ei (by omega)];simp⟩
   ·rintro⟨k,A,e⟩;exact⟨k,by simp;omega,by rw[<-e,Ei (by omega)];simp⟩
  have ha:ops.all bZ=true↔∀j,j<ops.length->bZ (gO ops j)=true:=by
   rw[jJ]
   constructor
   ·intro h j u;rw[Ei u];exact h _ (bI u)
   ·intro h o I;obtain⟨j,u,rfl⟩:=q9 I;rw[<-Ei u];exact h j u
  simp only[bo,ha,oq,qf,mL,lP,bH];constructor
  ·rintro⟨⟨y,C⟩,h3⟩;refine⟨λj u=>?_,C⟩;have a:=y j u;have b:=h3 j u;rw[N j u,P j u] at b;simp only[bZ,bo,mL,lP,bH] at a;exact⟨⟨b.1,a⟩,λk A e=>b.2 ⟨k,A,e⟩⟩
  ·rintro⟨y,C⟩;refine⟨⟨λj u=>?_,C⟩,λj u=>?_⟩
   ·have a:=y j u;simp only[bZ,bo,mL,lP,bH];exact a.1.2
   ·have a:=y j u;rw[N j u,P j u];exact⟨a.1.1,λ⟨k,A,e⟩=>a.2 k A e⟩
 rw[<-J];generalize eX (ops.map (·.ba)).length (λj=>gw (gS (ops.map (·.ba)) j)&&!decide (gS (ops.map (·.ba)) j∈(ops.map (·.ba)).take j))=b1;generalize decide (1<=(ops.length:Int)/\(ops.length:Int)<=3)=b2;cases ops.all bZ<;>cases b2<;>rfl
def kC(o:aY):aj:=o.ba++[58]++itoa o.cls++[58]++itoa o.aG++[58]++itoa o.share
def gF(ops:List aY):aj:=dE 44 (ops.map kC)
theorem rq{ops:List aY}(h:jg ops=true):(∀o∈ops,py o=true)/\1<=ops.length/\ops.length<=3:=by
 simp only[jg,I3,bo,oq,bH] at h;refine⟨λo e=>?_,by omega,by omega⟩;obtain⟨j,a,rfl⟩:=q9 e;have:=(h.1 j a).1;rwa[Ei a] at this
theorem Bi{o:aY}(h:py o=true):gw o.ba=true/\(0<=o.cls/\o.cls<=2)/\(-4<=o.aG/\o.aG<=4)/\o.aG≠0/\0<=o.share/\o.share<=1000000000000:=by
 simp only[py,bo,mL,lP,bH] at h;exact h
theorem mQ{t:aj}(h:gw t=true):(∀c∈t,97<=c.toNat/\c.toNat<=122)/\1<=t.length/\t.length<=8:=by
 simp only[gw,bo,jJ,bH,low] at h;exact⟨λc a=>by have:=h.1 c a;omega,by omega,by omega⟩
theorem aqx{o:aY}(h:py o=true):(kC o).length<=100:=by
 obtain⟨e,j,u,y,A⟩:=Bi h;have:=mQ e;have a:=ly (x:=o.cls) (by omega) (by omega);have b:=ly (x:=o.aG) (by omega) (by omega);have c:=ly (x:=o.share) (by omega) (by omega);simp[kC];omega
theorem Kc(c:UInt8)(x:aj):∀l:List aj,l≠[]->dE c (l++[x])=dE c l++[c]++x
 |[],h=>absurd rfl h
 |[a],_=>by simp[dE]
 |a::b::l,_=>by
  rw[sE,sE,dE,<-sE,Kc c x (b::l) (by simp),dE];simp
theorem o7{x:Int}(a:2^41<=n)(h:-9000000000000000000<=x/\x<=9000000000000000000):dz n x=some (itoa x):=XN (by omega) (by omega) (by omega)
theorem Ys{x:Int}(h:-9000000000000000000<=x/\x<=9000000000000000000):rz n x=some (itoa x):=by unfold rz;rw[aD (by omega)]
theorem Qi{l:List aY}(h:∀o∈l,py o=true):(gF l).length<=101*l.length:=by
 induction l with
 |nil=>simp[gF,dE]
 |cons o l a=>
  have u:=aqx (h o (by simp));have j:=a λx hx=>h x (by simp[hx]);cases l with
  |nil=>simp[gF,dE];omega
  |cons p l=>
   have e:gF (o::p::l)=kC o++44::gF (p::l):=rfl;rw[e];simp only[dG,fD] at j⊢;omega
theorem abk{ops:List aY}(h:BW ops)(e:2^41<=n):J0 n ops=some (if jg ops=true then gF ops else[]):=by
 unfold J0;rw[af4 h e,ak];cases H:jg ops with
 |false=>rfl
 |true=>
  obtain⟨D,Q,I⟩:=rq H;simp only[cn,dy,aH,fM];have u:∀m i:Nat,i<=ops.length->ops.length<m+i->C1 n m ops (gF (ops.take i)) i some=some (gF ops):=by
   intro m
   induction m with
   |zero=>intro i J M;omega
   |succ m E=>
    intro i J M
    by_cases hi:i<ops.length
    ·have j:av (i:Int) (au ops)=true:=by rw[bp,aJ];simp;omega
     have y:=D _ (bI hi);obtain⟨N,R,S,U,Y⟩:=Bi y;have Z:=mQ N;have a:=ly (x:=ops[i].cls) (by omega) (by omega);have b:=ly (x:=ops[i].aG) (by omega) (by omega);have c:=ly (x:=ops[i].share) (by omega) (by omega);have P:=Qi (l:=ops.take i) λo y=>D o (yA y);have iQ:(gF (ops.take i)).length<=400:=by simp at P;omega
     have F:aq .i64 (i:Int) 1=((i+1:Nat):Int):=bD (by omega);rw[C1,j,aF]
     by_cases h0:0<i
     ·have A:av 0 (i:Int)=true:=by rw[bp];simp;omega
      rw[A,aF];simp only[bn hi,ak,o7 e (show-9000000000000000000<=ops[i].cls/\ops[i].cls<=9000000000000000000 by omega),o7 e (show-9000000000000000000<=ops[i].aG/\ops[i].aG<=9000000000000000000 by omega),o7 e (show-9000000000000000000<=ops[i].share/\ops[i].share<=9000000000000000000 by omega)]
      iterate 8 rw[fj (by simp;omega),ak]
      rw[F];have:gF (ops.take i)++([44]:aj)++ops[i].ba++([58]:aj)++itoa ops[i].cls++([58]:aj)++itoa ops[i].aG++([58]:aj)++itoa ops[i].share=gF (ops.take (i+1)):=by
       rw[oe hi]
       unfold gF
       rw[oO,mM,wP,Kc _ _ _ (by simp;exact⟨by omega,by rintro rfl;simp at hi⟩)]
       simp[kC]
      rw[this];exact E (i+1) (by omega) (by omega)
     ·have A:av 0 (i:Int)=false:=by rw[bp];simp;omega
      rw[A,aH];simp only[bn hi,ak,o7 e (show-9000000000000000000<=ops[i].cls/\ops[i].cls<=9000000000000000000 by omega),o7 e (show-9000000000000000000<=ops[i].aG/\ops[i].aG<=9000000000000000000 by omega),o7 e (show-9000000000000000000<=ops[i].share/\ops[i].share<=9000000000000000000 by omega)]
      iterate 7 rw[fj (by simp;omega),ak]
      rw[F];have C:i=0:=by omega
      subst C;have:gF (ops.take 0)++ops[0].ba++([58]:aj)++itoa ops[0].cls++([58]:aj)++itoa ops[0].aG++([58]:aj)++itoa ops[0].share=gF (ops.take (0+1)):=by
       rw[oe hi]
       simp[gF,dE,kC]
      rw[this];exact E (0+1) (by omega) (by omega)
    ·have:i=ops.length:=by omega
     subst this;have j:av (ops.length:Int) (au ops)=false:=by rw[bp,aJ];simp
     rw[C1,j,aH,wQ]
  have:=u n 0 (by omega) (by omega);exact this
theorem join_eq(c:UInt8):∀l:List aj,Lib.join l [c]=dE c l
 |[]=>rfl
 |[a]=>by rw[join_one];rfl
 |a::b::l=>by
  rw[join_cons,dE,<-join_eq c (b::l),join_cons];simp[joinTail]
theorem ali{ops:List aY}(h:BW ops)(y:2^41<=n):AO n ops=some (if jg ops=true then gF ops else[]):=by
 unfold AO;rw[am1 h y,ak];cases A:jg ops with
 |false=>rfl
 |true=>
  obtain⟨u,P,C⟩:=rq A;simp only[cn,dy,aH,fM];have Q:=Qi u;have j:∀m i:Nat,i<=ops.length->ops.length<m+i->FU n m ((ops.take i).map kC) ops (au ops) i (λD=>ae (HN n D [44]) λE=>some E)=some (gF ops):=by
   intro m
   induction m with
   |zero=>intro i F H;omega
   |succ m I=>
    intro i F H
    by_cases hi:i<ops.length
    ·have e:av (i:Int) (au ops)=true:=by rw[bp,aJ];simp;omega
     have J:=u _ (bI hi);obtain⟨M,R,S,U,Y⟩:=Bi J;have Z:=mQ M;have a:=ly (x:=ops[i].cls) (by omega) (by omega);have b:=ly (x:=ops[i].aG) (by omega) (by omega);have c:=ly (x:=ops[i].share) (by omega) (by omega);have N:aq .i64 (i:Int) 1=((i+1:Nat):Int):=bD (by omega);rw[FU,e,aF];simp only[bn hi,ak,Ys (n:=n) (show-9000000000000000000<=ops[i].cls/\ops[i].cls<=9000000000000000000 by omega),Ys (n:=n) (show-9000000000000000000<=ops[i].aG/\ops[i].aG<=9000000000000000000 by omega),Ys (n:=n) (show-9000000000000000000<=ops[i].share/\ops[i].share<=9000000000000000000 by omega)]
     iterate 6 rw[fj (by simp;omega),ak]
     rw[eL (by simp;omega) (by omega),ak,N];have:(ops.take i).map kC++[ops[i].ba++[58]++itoa ops[i].cls++[58]++itoa ops[i].aG++[58]++itoa ops[i].share]=(ops.take (i+1)).map kC:=by
      rw[oe hi,oO];rfl
     rw[this];exact I (i+1) (by omega) (by omega)
    ·have:i=ops.length:=by omega
     subst this;have e:av (ops.length:Int) (au ops)=false:=by rw[bp,aJ];simp
     rw[FU,e,aH,wQ];unfold HN;rw[join_eq,aD ⟨by simp;omega,by show(gF ops).length<=_;omega⟩];rfl
  have:=j n 0 (by omega) (by omega);exact this
end
end
section
section
variable{n:Nat}
theorem A0{x:Int}:∀c∈itoa x,c.toNat=45\/(48<=c.toNat/\c.toNat<=57):=λc a=>by
 unfold itoa at a;split at a
 ·rcases cO.1 a with rfl|a
  ·exact .inl rfl
  ·exact .inr (AR _ c a)
 ·exact .inr (AR _ c a)
theorem aoN{o:aY}(h:py o=true):(44:UInt8)∉kC o:=λa=>by
 have e:=(mQ (Bi h).1).1;have j:(44:UInt8).toNat=44:=rfl;have u:(58:UInt8).toNat=58:=rfl;simp only[kC,cU,fe] at a;rcases a with(((((a|a)|a)|a)|a)|a)|a
 ·have:=e _ a;omega
 ·cases a
 ·have:=A0 _ a;omega
 ·cases a
 ·have:=A0 _ a;omega
 ·cases a
 ·have:=A0 _ a;omega
theorem XR(x:Int):(58:UInt8)∉itoa x:=λa=>by
 have e:(58:UInt8).toNat=58:=rfl;have:=A0 _ a;omega
theorem Ll{o:aY}(h:py o=true):bm 58 (kC o)=[o.ba,itoa o.cls,itoa o.aG,itoa o.share]:=by
 have u:=(mQ (Bi h).1).1;have a:(58:UInt8)∉o.ba:=λx=>by
  have y:(58:UInt8).toNat=58:=rfl
  have:=u _ x;omega
 have e:kC o=dE 58 [o.ba,itoa o.cls,itoa o.aG,itoa o.share]:=by simp[kC,dE]
 rw[e];refine Hn (by simp) λw j=>?_;simp only[cO,oP,oQ] at j;rcases j with rfl|rfl|rfl|rfl
 ·exact a
 ·exact XR _
 ·exact XR _
 ·exact XR _
theorem Qj{ops:List aY}(h0:ops≠[])(h:∀o∈ops,py o=true):bm 44 (gF ops)=ops.map kC:=
 Hn (by simpa using h0) λw a=>by
  obtain⟨o,e,rfl⟩:=gQ.1 a;exact aoN (h o e)
theorem asb(o:aY):kC o≠[]:=by simp[kC]
theorem aoO{ops:List aY}(h0:ops≠[]):gF ops≠[]:=by
 match ops,h0 with
 |[o],_=>exact asb o
 |o::p::l,_=>simp[gF,dE]
theorem KG{x:Int}(h0:0<=x)(a:x<1000000000000):cA (itoa x)=x:=by
 obtain⟨u,rfl⟩:=gD h0;rw[pF,Hm (by omega)]
theorem am2{x:Int}(h0:-1000000<=x)(e:x<1000000000000):(uz (itoa x)).1=x:=by
 by_cases c:0<=x
 ·obtain⟨u,rfl⟩:=gD c;have:(itoa (u:Int)).head?≠some 45:=by
   rw[pF]
   cases j:decDigits u with
   |nil=>simp
   |cons y l=>
    have A:=AR u y (by rw[j];simp)
    simp only[Uy,Uz,aQ]
    rintro rfl
    have:(45:UInt8).toNat=45:=rfl
    omega
  unfold uz;rw[aE this];exact KG (by omega) e
 ·obtain⟨u,rfl⟩:∃u:Nat,x=-(u:Int):=⟨x.natAbs,by omega⟩;rw[itoa_neg (by omega)];have a:(45::decDigits u:aj).head?=some 45:=rfl;unfold uz;rw[aD a];simp only[ayR,wR];rw[Hm (by omega),AQ (by omega) (by omega)]
def Aj(w:aj):Option aY:=match bm 58 w with
 |[a,b,c,d]=>some ⟨a,cA b,(uz c).1,cA d⟩
 |_=>none
def pR:List aj->Option (List aY)
 |[]=>some []
 |w::a=>match Aj w with
  |none=>none
  |some o=>match pR a with
   |none=>none
   |some l=>some (o::l)
theorem aqy{o:aY}(h:py o=true)(a:o.share<1000000000000):Aj (kC o)=some o:=by
 obtain⟨e,j,u,x,y⟩:=Bi h;unfold Aj;rw[Ll h];simp only;rw[KG (by omega) (by omega),am2 (by omega) (by omega),KG (by omega) (by omega)]
theorem adP:∀{ops:List aY},(∀o∈ops,py o=true/\o.share<1000000000000)->pR (ops.map kC)=some ops
 |[],_=>rfl
 |o::ops,h=>by
  rw[mM,pR,aqy (h o (by simp)).1 (h o (by simp)).2,adP λx hx=>h x (by simp[hx])]
theorem VF:∀{u:List aj}{l:List aY},pR u=some l->l.length=u.length/\∀o∈l,(∃w∈u,o.ba.length<=w.length)/\o.share<1000000000000
 |[],l,h=>by simp only[pR,aQ] at h;subst h;simp
 |w::u,l,h=>by
  unfold pR at h;cases j:Aj w with
  |none=>rw[j] at h;cases h
  |some o=>
   rw[j] at h;cases A:pR u with
   |none=>rw[A] at h;cases h
   |some I=>
    rw[A] at h;cases h;obtain⟨C,D⟩:=VF A;refine⟨by simp[C],λx hx=>?_⟩;rcases cO.1 hx with rfl|hx
    ·unfold Aj at j;split at j
     ·rename_i a b c d e;cases j;exact⟨⟨w,by simp,yL (by rw[e];simp)⟩,(Rp d).2⟩
     ·cases j
    ·obtain⟨⟨y,E,F⟩,H⟩:=D x hx;exact⟨⟨y,by simp[E],F⟩,H⟩
theorem four{l:List aj}(h:l.length=4):l=[gS l 0,gS l 1,gS l 2,gS l 3]:=by
 match l,h with
 |[a,b,c,d],_=>rfl
theorem af5{text:aj}{ws:List aj}(E:ws.length<2^29)(h:∀w∈ws,w.length<2^29)(x:2^41<=n){k:aj->List aY->Option (List aY×Bool)}:∀(m i:Nat)(out:List aY),i<=4->i<=ws.length->4<m+i->out.length=i->F9 n m text ws out i k=match pR ((ws.drop i).take (4-i)) with|none=>some ([],false)|some l=>k text (out++l)
 |0,i,out,F,H,I,J=>by omega
 |m+1,i,out,F,H,I,J=>by
  by_cases hi:i<ws.length
  ·have a:av (i:Int) (au ws)=true:=by rw[bp,aJ];simp;omega
   rw[F9,a,aF]
   by_cases M:i<4
   ·have u:bE (i:Int) 3=true:=by rw[gx];simp;omega
    have A:qm n ws[i] 58=some (bm 58 ws[i]):=HD (c:=58) (by have:=h _ (bI hi);omega) x;rw[u,aF,bn hi];simp only[ak,A];rw[lx hi,show 4-i=(4-(i+1))+1 by omega,akX,pR]
    by_cases y:(bm 58 ws[i]).length=4
    ·have e4:=four y;have C:Aj ws[i]=some ⟨gS (bm 58 ws[i]) 0,cA (gS (bm 58 ws[i]) 1),(uz (gS (bm 58 ws[i]) 2)).1,cA (gS (bm 58 ws[i]) 3)⟩:=by
      unfold Aj
      rw[e4]
      rfl
     rw[C];have q:∀j,j<4->af (bm 58 ws[i]) ((j:Nat):Int)=some (gS (bm 58 ws[i]) j):=λj N=>db (by omega) [];have D:ai (au (bm 58 ws[i])) 4=true:=by rw[cN,aJ,y];rfl
     simp only[D,cn,dy,aH];rw[show(2:Int)=((2:Nat):Int) from rfl,q 2 (by omega)];simp only[ak,RS x];rw[show(0:Int)=((0:Nat):Int) from rfl,q 0 (by omega)];simp only[ak];rw[show(1:Int)=((1:Nat):Int) from rfl,q 1 (by omega)];simp only[ak,y8 x];rw[show(3:Int)=((3:Nat):Int) from rfl,q 3 (by omega)];simp only[ak,y8 x];rw[eL (by simp;omega) (by omega),ak];rw[show aq .i64 (i:Int) ((1:Nat):Int)=((i+1:Nat):Int) from bD (by omega)];rw[af5 E h x m (i+1) _ (by omega) (by omega) (by omega) (by simp;omega)];cases pR ((ws.drop (i+1)).take (4-(i+1))) with
     |none=>rfl
     |some l=>simp
    ·have C:Aj ws[i]=none:=by
       unfold Aj
       split
       ·rename_i e;rw[e] at y;simp at y
       ·rfl
     have D:ai (au (bm 58 ws[i])) 4=false:=by rw[cN,aJ];simp;omega
     rw[C];simp only[D,cn,gE,aF]
   ·have:i=4:=by omega
    subst this;have u:bE ((4:Nat):Int) 3=false:=by rfl
    rw[u,aH];simp[pR]
  ·have:i=ws.length:=by omega
   subst this;have a:av (ws.length:Int) (au ws)=false:=by rw[bp,aJ];simp
   rw[F9,a,aH,sD];simp[pR]
def j4(text:aj):List aY×Bool:=match pR ((bm 44 text).take 4) with
 |none=>([],false)
 |some out=>if text=[] then([],false) else if(if jg out=true then gF out else[])=text then(out,true) else([],false)
theorem al0{text:aj}(H:text.length<2^28)(a:2^41<=n):P0 n text=some (j4 text):=by
 unfold P0 j4;rw[show qm n text 44=some (bm 44 text) from HD (c:=44) (by omega) a,ak];have y:=QH 44 text;have u:∀w∈bm 44 text,w.length<2^29:=λw e=>by have:=yL e;omega
 have:=λk=>af5 (n:=n) (text:=text) (k:=k) (ws:=bm 44 text) (by omega) u a n 0 [] (by omega) (by omega) (by omega) rfl;refine(this _).trans ?_;rw[wR,aaJ];cases A:pR ((bm 44 text).take 4) with
 |none=>rfl
 |some out=>
  obtain⟨C,D⟩:=VF A;have E:BW out:=⟨by simp at C;omega,λo F=>by
   obtain⟨⟨w,e,I⟩,_⟩:=D o F
   have:=u w (yA e)
   omega⟩;simp only[iw,mU,abk E a,ak,cn]
  by_cases j:text=[]
  ·simp[j]
  ·by_cases x:(if jg out=true then gF out else[])=text
   ·simp[j,x]
   ·simp[j,x]
theorem acA{ops:List aY}(h:jg ops=true)(j:∀o∈ops,o.share<1000000000000):j4 (gF ops)=(ops,true):=by
 obtain⟨a,u,x⟩:=rq h;have h0:ops≠[]:=by rintro rfl;simp at u
 unfold j4;rw[Qj h0 a,Fs (by simp;omega),adP λo e=>⟨a o e,j o e⟩];simp only;rw[aE (aoO h0),h,aD rfl,aD rfl]
theorem Kd{text:aj}(h:(j4 text).2=true):jg (j4 text).1=true/\text=gF (j4 text).1/\∀o∈(j4 text).1,o.share<1000000000000:=by
 unfold j4 at h⊢;cases e:pR ((bm 44 text).take 4) with
 |none=>rw[e] at h;cases h
 |some out=>
  rw[e] at h;simp only at h⊢
  by_cases j:text=[]
  ·rw[aD j] at h;cases h
  ·rw[aE j] at h⊢
   by_cases a:(if jg out=true then gF out else[])=text
   ·rw[aD a]
    by_cases u:jg out=true
    ·rw[aD u] at a;exact⟨u,a.symm,λo x=>((VF e).2 o x).2⟩
    ·rw[aE u] at a;exact absurd a.symm j
   ·rw[aE a] at h;cases h
theorem alB{text:aj}(h:(j4 text).2=false):j4 text=([],false):=by
 unfold j4 at h⊢;cases j:pR ((bm 44 text).take 4) with
 |none=>rfl
 |some out=>
  rw[j] at h;simp only at h⊢
  by_cases a:text=[]
  ·rw[aD a]
  ·rw[aE a] at h⊢
   by_cases e:(if jg out=true then gF out else[])=text
   ·rw[aD e] at h;cases h
   ·rw[aE e]
theorem af6{text:aj}{ws:List aj}(hw:ws.length<2^29)(h:∀w∈ws,w.length<2^29){k:aj->List aY->Option (List aY×Bool)}:∀(m i:Nat)(out:List aY),i<=ws.length->ws.length<m+i->out.length=i->(∀o∈out,o.ba.length<2^29)->
  ((∃H:List aY,(∀o∈H,o.ba.length<2^29)/\H.length=ws.length/\uS n m text out ws (au ws) i k=k text H)\/uS n m text out ws (au ws) i k=some ([],false))/\
  ∀ops:List aY,(∀o∈ops,py o=true)->ws.drop i=ops.map kC->uS n m text out ws (au ws) i k=k text (out++ops)
 |0,i,out,h1,h2,N,I=>by omega
 |m+1,i,out,h1,h2,N,I=>by
  by_cases hi:i<ws.length
  ·have u:av (i:Int) (au ws)=true:=by rw[bp,aJ];simp;omega
   have aa:=h _ (bI hi);have rZ:ud n ws[i] [58]=some (bm 58 ws[i]):=QI (by omega);rw[uS,u,aF,bn hi];simp only[ak,rZ]
   by_cases J:(bm 58 ws[i]).length=4
   ·have M:ai (au (bm 58 ws[i])) 4=true:=by rw[cN,aJ,J];rfl
    have q:∀j,j<4->af (bm 58 ws[i]) ((j:Nat):Int)=some (gS (bm 58 ws[i]) j):=λj hj=>db (by omega) [];have E:∀j,j<4->(gS (bm 58 ws[i]) j).length<2^29:=λj hj=>by
     have:=yL (c:=58) (s:=ws[i]) (w:=gS (bm 58 ws[i]) j) (by rw[Yr (by omega)];exact bI _)
     omega
    obtain⟨P,b1,n1,y1,z1⟩:=JN (n:=n) (s:=gS (bm 58 ws[i]) 1) (by have:=E 1 (by omega);omega);obtain⟨Q,b2,n2,y2,z2⟩:=JN (n:=n) (s:=gS (bm 58 ws[i]) 2) (by have:=E 2 (by omega);omega);obtain⟨R,b3,n3,y3,z3⟩:=JN (n:=n) (s:=gS (bm 58 ws[i]) 3) (by have:=E 3 (by omega);omega);simp only[M,cn,dy,aH];rw[show(2:Int)=((2:Nat):Int) from rfl,show(0:Int)=((0:Nat):Int) from rfl,show(3:Int)=((3:Nat):Int) from rfl,show(1:Int)=((1:Nat):Int) from rfl,q 1 (by omega),q 2 (by omega),q 3 (by omega),q 0 (by omega)];simp only[ak,n1,n2,n3];have F:∀ops:List aY,(∀o∈ops,py o=true)->ws.drop i=ops.map kC->∃o y,ops=o::y/\b1=true/\b2=true/\b3=true/\(⟨gS (bm 58 ws[i]) 0,P,Q,R⟩:aY)=o/\ws.drop (i+1)=y.map kC:=by
     intro ops a e
     rw[lx hi] at e
     cases ops with
     |nil=>cases e
     |cons o ops=>
      rw[mM] at e
      injection e with A S
      have U:=a o (by simp)
      have C:=Ll U
      rw[<-A] at C
      obtain⟨r1,r2,r3,r4,r5⟩:=Bi U
      have g0:gS (bm 58 ws[i]) 0=o.ba:=by rw[C];rfl
      have g1:gS (bm 58 ws[i]) 1=itoa o.cls:=by rw[C];rfl
      have g2:gS (bm 58 ws[i]) 2=itoa o.aG:=by rw[C];rfl
      have g3:gS (bm 58 ws[i]) 3=itoa o.share:=by rw[C];rfl
      have Y:=z1 o.cls (by omega) (by omega) g1
      have Z:=z2 o.aG (by omega) (by omega) g2
      have w3:=z3 o.share (by omega) (by omega) g3
      exact⟨o,ops,rfl,Y.1,Z.1,w3.1,by rw[g0,Y.2,Z.2,w3.2],S⟩
    cases b1 with
    |false=>
     simp only[gE,aF];refine⟨.inr trivial,λops a e=>?_⟩;obtain⟨o,y,_,D,_⟩:=F ops a e;cases D
    |true=>
     cases b2 with
     |false=>
      simp only[gE,dy,aF,aH];refine⟨.inr trivial,λops a e=>?_⟩;obtain⟨o,y,_,_,D,_⟩:=F ops a e;cases D
     |true=>
      cases b3 with
      |false=>
       simp only[gE,dy,aF,aH];refine⟨.inr trivial,λops a e=>?_⟩;obtain⟨o,y,_,_,_,D,_⟩:=F ops a e;cases D
      |true=>
       simp only[dy,aH];rw[eL (by simp;omega) (by omega),ak];rw[show aq .i64 (i:Int) ((1:Nat):Int)=((i+1:Nat):Int) from bD (by omega)];obtain⟨a1,a2⟩:=af6 (text:=text) (k:=k) hw h m (i+1) (out++[⟨gS (bm 58 ws[i]) 0,P,Q,R⟩]) (by omega) (by omega) (by simp;omega) (λo a=>by
        rcases cU.1 a with a|a
        ·exact I o a
        ·rw[fe] at a;subst a;exact E 0 (by omega));refine⟨a1,λops a e=>?_⟩;obtain⟨o,y,A,_,_,_,e5,e6⟩:=F ops a e;rw[a2 y (λx hx=>a x (by rw[A];simp[hx])) e6,e5,A];simp
   ·have M:ai (au (bm 58 ws[i])) 4=false:=by rw[cN,aJ];simp;omega
    simp only[M,cn,gE,aF];refine⟨.inr trivial,λops a e=>?_⟩;rw[lx hi] at e;cases ops with
    |nil=>cases e
    |cons o ops=>
     rw[mM] at e;injection e with A S;rw[A,Ll (a o (by simp))] at J;exact absurd rfl J
  ·have:i=ws.length:=by omega
   subst this;have u:av (ws.length:Int) (au ws)=false:=by rw[bp,aJ];simp
   rw[uS,u,aH,sD];refine⟨.inl ⟨out,I,N,rfl⟩,λops a e=>?_⟩;cases ops with
   |nil=>simp
   |cons o ops=>cases e
theorem alb{text:aj}(hl:text.length<2^28)(P:2^41<=n):∃r,KD n text=some r/\(r.2=true->jg r.1=true/\text=gF r.1)/\(r.2=false->r.1=[])/\∀ops,jg ops=true->text=gF ops->r=(ops,true):=by
 unfold KD;rw[show ud n text [44]=some (bm 44 text) from QI (by omega),ak];have Q:=QH 44 text;have R:∀w∈bm 44 text,w.length<2^29:=λw S=>by have:=yL S;omega
 have J:=λk=>af6 (n:=n) (text:=text) (k:=k) (ws:=bm 44 text) (by omega) R n 0 [] (by omega) (by omega) rfl (by simp);have D:∀l:List aY,AP n l=some l:=λl=>by
  unfold AP
  simp[mB,ur,fw,ai,au,zk,ak]
 have M:∀out:List aY,(∀o∈out,o.ba.length<2^29)->out.length<2^29->(ae (AO n out) λj=>cond (ay (bf j text)) (some ([],false)) (ae (AP n out) λu=>some (u,true)))=some (if(if jg out=true then gF out else[])=text then(out,true) else([],false)):=λout x y=>by
  rw[ali ⟨y,x⟩ P,ak,D,ak,mU,cn]
  by_cases c:(if jg out=true then gF out else[])=text<;>simp[c]
 have N:∀ops,jg ops=true->text=gF ops->(uS n n text [] (bm 44 text) (au (bm 44 text)) 0 λA a=>ae (AO n a) λj=>cond (ay (bf j A)) (some ([],false)) (ae (AP n a) λu=>some (u,true)))=some (ops,true):=λops x y=>by
  obtain⟨E,U,l3⟩:=rq x
  have h0:ops≠[]:=by rintro rfl;simp at U
  refine((J _).2 ops E (by rw[wR,y,Qj h0 E])).trans ?_
  rw[iw]
  refine(M ops (λo Y=>by have:=(mQ (Bi (E o Y)).1).2;omega) (by omega)).trans ?_
  rw[x,aD rfl,aD y.symm]
 rcases(J λA a=>ae (AO n a) λj=>cond (ay (bf j A)) (some ([],false)) (ae (AP n a) λu=>some (u,true))).1 with⟨out,x,y,C⟩|C
 ·have F:=C.trans (M out x (by omega));refine⟨_,F,λe=>?_,λe=>?_,λops H g2=>?_⟩
  ·by_cases c:(if jg out=true then gF out else[])=text
   ·rw[aD c]
    by_cases I:jg out=true
    ·rw[aD I] at c;exact⟨I,c.symm⟩
    ·rw[aE I] at c;exfalso;subst c;have Z:(uS n n ([]:aj) [] (bm 44 []) (au (bm 44 [])) ((0:Nat):Int) λA a=>ae (AO n a) λj=>cond (ay (bf j A)) (some ([],false)) (ae (AP n a) λu=>some (u,true)))=some ([],false):=by
      obtain⟨m,rfl⟩:∃m,n=m+1:=⟨n-1,by omega⟩
      have e1:(bm 44 []:List aj)=[[]]:=rfl
      rw[e1,uS]
      have e2:ud (m+1) [] [58]=some [[]]:=QI (n:=m+1) (c:=58) (s:=[]) (by simp)
      have e3:af ([[]]:List aj) ((0:Nat):Int)=some []:=rfl
      have e4:av ((0:Nat):Int) (au ([[]]:List aj))=true:=rfl
      rw[e4,aF,e3]
      simp only[ak,e2]
      rfl
     have h6:=gB (Z.symm.trans F);rw[<-h6] at e;cases e
   ·rw[aE c] at e;cases e
  ·by_cases c:(if jg out=true then gF out else[])=text
   ·rw[aD c] at e;cases e
   ·rw[aE c]
  ·exact gB (F.symm.trans (N ops H g2))
 ·refine⟨([],false),C,λe=>(by cases e),λ_=>rfl,λops H g2=>?_⟩;exact gB (C.symm.trans (N ops H g2))
def Yt(text:aj):Prop:=∀ops,jg ops=true->text=gF ops->∀o∈ops,o.share<1000000000000
end
end
section
section
variable{n:Nat}
structure uA(l:ax):Prop where
 n1:l.name.length<=100
 n2:l.aC.length<=100
 n3:l.to.length<=100
 z1:l.bA.length<=1000
 z2:l.bh.length<=1000
 z3:l.cV.length<=1000
 z4:l.holds.length<=1000
theorem gR.z{l:ax}(h:gR l):uA l:=⟨by have:=mQ h.n1;omega,by have:=mQ h.n2;omega,by have:=mQ h.n3;omega,by have:=h.l3;omega,by have:=h.s3;omega,by have:=h.b;omega,by have:=h.h6;omega⟩
theorem uA.s{l:ax}(h:uA l):Iq l:=⟨by have:=h.n1;omega,by have:=h.n2;omega,by have:=h.n3;omega⟩
theorem Lm{l:ax}(h:uA l):A9 n l=some l:=by
 have:=h.z1;have:=h.z2;have:=h.z3;have:=h.z4;unfold A9;rw[eL (by simp;omega) (by omega),eL (by simp;omega) (by omega),eL (by simp;omega) (by omega),eL (by simp;omega) (by omega)];simp only[ak,iw]
theorem Rr{j a R:Type}{xs:List j}{f:j->a}(A:xs.length<2^29){L:Nat->List a->Int->Option R}{k:List a->Option R}(h0:∀m out,out.length=xs.length->L (m+1) out xs.length=k out)(u:∀m i out(h:i<xs.length),out.length=i->L (m+1) out i=L m (out++[f xs[i]]) (aq .i64 i 1)){m:Nat}(C:xs.length<m):L m [] 0=k (xs.map f):=by
 have e:∀m i:Nat,i<=xs.length->xs.length<m+i->L m ((xs.take i).map f) i=k (xs.map f):=by
  intro m
  induction m with
  |zero=>intro i u x;omega
  |succ m y=>
   intro i x D
   by_cases hi:i<xs.length
   ·rw[u m i _ hi (by simp;omega),bD (by omega)];have:(xs.take i).map f++[f xs[i]]=(xs.take (i+1)).map f:=by
     rw[oe hi,oO];rfl
    rw[this];exact y (i+1) (by omega) (by omega)
   ·have:i=xs.length:=by omega
    subst this;rw[h0 _ _ (by simp),wQ]
 have:=e m 0 (by omega) (by omega);simpa using this
theorem Du{legs:List ax}(a:legs.length<2^29)(h:∀l∈legs,uA l)(j:2^41<=n):uV n legs=some legs:=by
 unfold uV;have:=Rr (f:=λl=>l) a (L:=λm out i=>FJ n m legs out i λe=>some e) (k:=some) (λm out _=>by simp[go_sem,FJ]) (λm i out hi u=>by
  simp only[FJ,bp,aJ,bn hi,Lm (h _ (bI hi)),ak,show decide ((i:Int)<legs.length)=true by simp;omega,aF]
  rw[eL (by simp;omega) (by omega),ak]) (m:=n) (by omega);simpa using this
def lO(legs:List ax)(name:aj):Int:=nL (λl=>decide (l.name=name)) 0 legs
def rH(txn:Int):List ax->List aY->Option (List ax)
 |legs,[]=>some legs
 |legs,o::ops=>if lO legs o.ba<0 then none else if vI (gL legs (lO legs o.ba).toNat) ⟨txn,o.cls,o.aG⟩ o.share=true then rH txn (legs.set (lO legs o.ba).toNat (BH (gL legs (lO legs o.ba).toNat) ⟨txn,o.cls,o.aG⟩)) ops else none
def jh(legs:List ax):Prop:=legs.length<=1000/\∀l∈legs,gR l
theorem vt{l:List ax}{i:Nat}(h:i<l.length):gL l i=l[i]:=by
 rw[gL,iR,cT h];rfl
theorem Bo{l:List ax}{i:Nat}(h:i<l.length):gL l i∈l:=by rw[vt h];exact bI h
theorem Rs{legs:List ax}{name:aj}(h:0<=lO legs name):∃k,lO legs name=((k:Nat):Int)/\k<legs.length/\(gL legs k).name=name:=by
 unfold lO at*;rcases tX (p:=λl:ax=>decide (l.name=name)) (xs:=legs) (i:=0) with⟨e,_⟩|⟨j,a,e,u,_⟩
 ·omega
 ·exact⟨j,by rw[e];simp,a,by rw[vt a];simpa using u⟩
theorem jh.set{legs:List ax}(h:jh legs){i:Nat}{l:ax}(a:gR l):jh (legs.set i l):=by
 refine⟨by have:=h.1;simp;exact this,λx hx=>?_⟩;rcases Fj hx with hx|rfl
 ·exact h.2 x hx
 ·exact a
theorem afb{txn:Int}:∀{ops:List aY}{legs x:List ax},jh legs->rH txn legs ops=some x->jh x/\x.map (·.name)=legs.map (·.name)
 |[],legs,x,h,e=>by simp only[rH,aQ] at e;subst e;exact⟨h,rfl⟩
 |o::ops,legs,x,h,e=>by
  unfold rH at e;split at e
  ·cases e
  ·rename_i C;obtain⟨k,u,j,D⟩:=Rs (show 0<=lO legs o.ba by omega);rw[u,eC] at e;split at e
   ·rename_i y;have A:=Xf (h.2 _ (Bo j)) y;obtain⟨a,b⟩:=afb (h.set A) e;refine⟨a,b.trans ?_⟩;rw[List.map_set];have:(BH (gL legs k) ⟨txn,o.cls,o.aG⟩).name=(legs.map (·.name))[k]'(by simpa using j):=by
     rw[List.getElem_map,<-vt j];rfl
    rw[this,akY]
   ·cases e
theorem af7{legs:List ax}{txn:Int}{ops:List aY}(C:ops.length<2^29)(u:2^41<=n):∀(m i:Nat)(out:List ax),i<=ops.length->ops.length<m+i->jh out->Ga n m legs txn ops out i (λD=>some (D,true))=some (match rH txn out (ops.drop i) with|some x=>(x,true)|none=>(legs,false))
 |0,i,out,E,F,e=>by omega
 |m+1,i,out,E,F,e=>by
  have gJ:=e.1
  by_cases hi:i<ops.length
  ·have a:av (i:Int) (au ops)=true:=by rw[bp,aJ];simp;omega
   have H:pG n out ops[i].ba=some (lO out ops[i].ba):=XL (by omega) u;rw[Ga,a,aF,bn hi];simp only[ak,H];rw[lx hi,rH]
   by_cases y:lO out ops[i].ba<0
   ·have:av (lO out ops[i].ba) 0=true:=by rw[bp];simpa using y
    rw[this,aF,aD y]
   ·have I:av (lO out ops[i].ba) 0=false:=by rw[bp];simp;omega
    obtain⟨k,J,A,M⟩:=Rs (show 0<=lO out ops[i].ba by omega);rw[I,aH,aE y,J,db A ⟨[],[],[],0,0,0,[],[],[],[]⟩];simp only[ak,eC];rw[aqn (e.2 _ (Bo A)) u];simp only[ak]
    by_cases j:vI (gL out k) ⟨txn,ops[i].cls,ops[i].aG⟩ ops[i].share=true
    ·rw[aD j,aD j];simp only[cn,dy,aH];rw[bD (by omega),show aX out (k:Int) (BH (gL out k) ⟨txn,ops[i].cls,ops[i].aG⟩)=out.set k (BH (gL out k) ⟨txn,ops[i].cls,ops[i].aG⟩) by simp[aX]];exact af7 C u m (i+1) _ (by omega) (by omega) (e.set (Xf (e.2 _ (Bo A)) j))
    ·rw[aE j,aE j];simp only[cn,gE,aF]
  ·have:i=ops.length:=by omega
   subst this;have a:av (ops.length:Int) (au ops)=false:=by rw[bp,aJ];simp
   rw[Ga,a,aH,sD];simp[rH]
theorem aoP{legs:List ax}{txn:Int}{ops:List aY}(a:ops.length<2^29)(h:jh legs)(e:2^41<=n):P1 n legs txn ops=some (match rH txn legs ops with|some x=>(x,true)|none=>(legs,false)):=by
 unfold P1;rw[Du (by have:=h.1;omega) (λl a=>(h.2 l a).z) e,ak];have:=af7 (n:=n) (legs:=legs) (txn:=txn) a e n 0 legs (by omega) (by omega) h;rw[wR] at this;exact this
def o8(legs:List ax)(txn:Int)(yes:Bool):List ax:=legs.map λl=>if yes=true then uo l txn else qA l txn
theorem asc{legs:List ax}{txn:Int}{yes:Bool}(h:jh legs)(e:2^41<=n):u7 n legs txn yes=some (o8 legs txn yes):=by
 have x:=h.1;unfold u7 o8;exact Rr (f:=λl=>if yes=true then uo l txn else qA l txn) (by omega) (L:=λm out i=>AI n m legs txn yes out i λu=>some u) (k:=some) (λm out _=>by simp[go_sem,AI]) (λm i out hi y=>by
  have a:=h.2 _ (bI hi)
  have j:decide ((i:Int)<legs.length)=true:=by simp;omega
  cases yes with
  |true=>
   simp only[AI,bp,aJ,bn hi,aqp a e,Lm (ae1 (txn:=txn) a).z,ak,j,aF,fM]
   rw[eL (by simp;omega) (by omega),ak]
  |false=>
   simp only[AI,bp,aJ,bn hi,ae2 a e,Lm (Xg (txn:=txn) a).z,ak,j,aF,aH]
   rw[eL (by simp;omega) (by omega),ak]
   rfl) (m:=n) (by omega)
theorem asd{legs:List ax}{txn:Int}{yes:Bool}(h:jh legs):jh (o8 legs txn yes):=by
 refine⟨by unfold o8;rw[qf];exact h.1,λl a=>?_⟩;obtain⟨x,hx,rfl⟩:=gQ.1 a;split
 ·exact ae1 (h.2 x hx)
 ·exact Xg (h.2 x hx)
def gP(an:List dt)(txn:Int):Int:=nL (λt=>decide (t.txn=txn)) 0 an
abbrev gT(l:List dt)(i:Nat):dt:=l.getD i ⟨0,0,[]⟩
theorem BK{l:List dt}{i:Nat}(h:i<l.length):gT l i=l[i]:=by
 rw[gT,iR,cT h];rfl
theorem XS{an:List dt}{txn:Int}(a:an.length<2^30)(e:2^41<=n):K1 n an txn=some (gP an txn):=yV a (L:=λm i=>Gx n m an txn i (some (-1))) (f:=some) (λm=>by simp[go_sem,Gx]) (λm i h=>by simp only[go_sem,Gx,bn h,h]) (by omega)
theorem HE{an:List dt}{txn:Int}(h:0<=gP an txn):∃k,gP an txn=((k:Nat):Int)/\k<an.length/\(gT an k).txn=txn:=by
 unfold gP at*;rcases tX (p:=λt:dt=>decide (t.txn=txn)) (xs:=an) (i:=0) with⟨e,_⟩|⟨j,a,e,u,_⟩
 ·omega
 ·exact⟨j,by rw[e];simp,a,by rw[BK a];simpa using u⟩
theorem af8{an:List dt}{txn:Int}(h:gP an txn<0):gP an txn=-1/\∀t∈an,t.txn≠txn:=by
 unfold gP at*;rcases tX (p:=λt:dt=>decide (t.txn=txn)) (xs:=an) (i:=0) with⟨e,a⟩|⟨j,x,e,a,_⟩
 ·exact⟨e,λt u=>by simpa using a t u⟩
 ·omega
def vJ(an:List dt)(k:Nat)(aV:Int):List dt:=an.set k {gT an k with aV:=aV}
theorem ase{an:List dt}{k:Nat}{st:Int}(e:an.length<2^30)(a:k<an.length):nI n an k st=some (vJ an k st):=by
 unfold nI vJ;rw[eL (by simp;omega) (by omega),ak,iw,db a ⟨0,0,[]⟩];simp[ak,aX]
def qG(legs:List ax)(an:List dt)(e:aj):Option (List ax×List dt):=
 match bm 32 e with
 |[a,b,c]=>if a=[80]/\gP an (cA b)<0/\(1<=cA b/\cA b<=99)/\(j4 c).2=true then
    (rH (cA b) legs (j4 c).1).map λl=>(l,an++[⟨cA b,1,(j4 c).1⟩]) else none
 |[a,b]=>if(a=[67]\/a=[65])/\0<=gP an (cA b)/\(gT an (gP an (cA b)).toNat).aV=1/\e=a++[32]++itoa (cA b) then
    some (o8 legs (cA b) (decide (a=[67])),vJ an (gP an (cA b)).toNat (if a=[67] then 2 else 3)) else none
 |_=>none
theorem acB{s:aT}{record:aj}(hr:record.length<2^28)(h:jh s.legs)(ht:s.an.length<2^29)(E:2^41<=n):match qG s.legs s.an record with
  |some (l,t)=>Gz n s record=some ({s with legs:=l,an:=t},true)
  |none=>∃x,Gz n s record=some (x,false):=by
 unfold Gz qG;rw[show qm n record 32=some (bm 32 record) from HD (c:=32) (by omega) E,ak];have I:∀w∈bm 32 record,w.length<2^28:=λw S=>by have:=yL S;omega
 generalize J:bm 32 record=U at I
 match U with
 |[]=>exact absurd J (Lk 32 record)
 |[a]=>exact⟨s,rfl⟩
 |a::b::j=>
  have Y:av (au (a::b::j)) 2=false:=by rw[bp,aJ];simp;omega
  have l0:af (a::b::j) 0=some a:=rfl;have Z:af (a::b::j) 1=some b:=rfl;rw[Y,aH];simp only[Z,l0,ak,y8 E,XS (show s.an.length<2^30 by omega) E,vf];have S2:=Rp b;have hE:∀(w:aj),(w=[67]\/w=[65])->a=w->j=[]->0<=gP s.an (cA b)->(gT s.an (gP s.an (cA b)).toNat).aV=1->record=a++[32]++itoa (cA b)->True:=λ_ _ _ _ _ _ _=>trivial;have M:aO a [32]=some (a++[32]):=fj (by have:=I a (by simp);simp;omega);have aa:(itoa (cA b)).length<=21:=ly (by omega) (by omega);have N:aO (a++[32]) (itoa (cA b))=some (a++[32]++itoa (cA b)):=fj (by have:=I a (by simp);simp;omega)
  match j with
  |[]=>
   have F:ai (au [a,b]) 2=true:=rfl;have H:ai (au [a,b]) 3=false:=rfl;simp only[F,H,aF,aH,gx,cN,mU]
   by_cases C:0<=gP s.an (cA b)
   ·obtain⟨k,hk,P,nY⟩:=HE C;rw[hk,db P ⟨0,0,[]⟩,eC];have Q:(0:Int)<=(k:Int):=by omega
    have d1:decide ((0:Int)<=(k:Int))=true:=by simp
    simp only[ak,d1,aF,M,N,o7 E (show-9000000000000000000<=cA b/\cA b<=9000000000000000000 by omega),asc h E,ase (show s.an.length<2^30 by omega) P]
    by_cases y:(gT s.an k).aV=1
    ·by_cases A:record=a++[32]++itoa (cA b)
     ·by_cases e:a=[67]
      ·rw[aD ⟨.inl e,Q,y,A⟩];have u:¬ a=[80]:=by rw[e];decide
       simp only[u,e,y,fc,ga,aF,aH];rw[<-e,<-A];simp
      ·by_cases u:a=[65]
       ·rw[aD ⟨.inr u,Q,y,A⟩];have D:¬ a=[80]:=by rw[u];decide
        simp only[D,e,u,y,fc,ga,aF,aH];rw[<-u,<-A];simp[e]
       ·rw[aE (λh=>by rcases h.1 with h|h;exact e h;exact u h)]
        by_cases D:a=[80]<;>simp[e,u,D]
     ·have R:¬ record=a++32::itoa (cA b):=by simpa using A
      rw[aE (λh=>A h.2.2.2)]
      by_cases e:a=[67]
      ·have u:¬ a=[80]:=by rw[e];decide
       simp only[u,e,y,fc,ga,aF,aH];rw[<-e];simp[A,R]
      ·by_cases u:a=[65]
       ·have D:¬ a=[80]:=by rw[u];decide
        simp only[D,e,u,y,fc,ga,aF,aH];rw[<-u];simp[A,R]
       ·by_cases D:a=[80]<;>simp[e,u,D]
    ·rw[aE (λh=>y h.2.2.1)]
     by_cases D:a=[80]<;>by_cases e:a=[67]<;>by_cases u:a=[65]<;>simp[y,e,u,D,-List.getD_eq_getElem?_getD]
   ·rw[aE (λh=>C h.2.1)]
    by_cases D:a=[80]<;>by_cases e:a=[67]<;>by_cases u:a=[65]<;>simp[C,e,u,D]
  |[c]=>
   have F:ai (au [a,b,c]) 2=false:=rfl;have H:ai (au [a,b,c]) 3=true:=rfl;have l2:af [a,b,c] 2=some c:=rfl;simp only[F,H,l2,aF,aH,bp,mU,ak,al0 (I c (by simp)) E]
   by_cases C:a=[80]
   ·by_cases y:gP s.an (cA b)<0
    ·by_cases A:1<=cA b/\cA b<=99
     ·by_cases e:(j4 c).2=true
      ·rw[aD ⟨C,y,A,e⟩];have gJ:=(rq (Kd e).1).2;rw[aoP (by omega) h E];simp only[C,y,A,e,yz,fc,aF,cn,dy,aH,ak];rw[eL (by simp;omega) (by omega),ak,eL (by simp;omega) (by omega),ak];cases rH (cA b) s.legs (j4 c).1 with
       |none=>exact⟨_,rfl⟩
       |some x=>simp
      ·rw[aE (λh=>e h.2.2.2)];rw[sC] at e;simp[C,y,A,e,cn]
     ·rw[aE (λh=>A h.2.2.1)];simp[C,y,A]
    ·rw[aE (λh=>y h.2.1)];simp[C,y]
   ·rw[aE (λh=>C h.1)]
    by_cases e:a=[67]<;>by_cases u:a=[65]<;>simp[C,e,u]
  |c::d::j=>
   have F:ai (au (a::b::c::d::j)) 2=false:=by rw[cN,aJ];simp;omega
   have H:ai (au (a::b::c::d::j)) 3=false:=by rw[cN,aJ];simp;omega
   simp only[F,H,aH,mU]
   by_cases C:a=[80]<;>by_cases e:a=[67]<;>by_cases u:a=[65]<;>simp[C,e,u]
end
end
section
section
variable{n:Nat}
structure uB(an:List dt):Prop where
 t:∀t∈an,(1<=t.txn/\t.txn<=99)/\jg t.ops=true
 d:(an.map (·.txn)).Nodup
theorem aoQ{an:List dt}{k:Nat}{st:Int}(a:k<an.length):(vJ an k st).map (·.txn)=an.map (·.txn):=by
 unfold vJ;rw[List.map_set];have:({gT an k with aV:=st}:dt).txn=(an.map (·.txn))[k]'(by simpa using a):=by
  rw[List.getElem_map,BK a]
 rw[this,akY]
theorem asg{an:List dt}{k:Nat}{st:Int}(h:uB an)(a:k<an.length):uB (vJ an k st):=by
 refine⟨λt e=>?_,by rw[aoQ a];exact h.d⟩;rcases Fj e with e|rfl
 ·exact h.t t e
 ·have:=h.t _ (bI a);rw[BK a];exact this
theorem RT{legs l:List ax}{an t:List dt}{r:aj}(D:jh legs)(A:uB an)(h:qG legs an r=some (l,t)):jh l/\uB t/\t.length<=an.length+1/\l.map (·.name)=legs.map (·.name):=by
 unfold qG at h;split at h
 ·rename_i a b c e;split at h
  ·rename_i u;cases C:rH (cA b) legs (j4 c).1 with
   |none=>rw[C] at h;cases h
   |some x=>
    rw[C] at h;simp only[jA,aQ,cZ] at h;obtain⟨rfl,rfl⟩:=h;obtain⟨F,H⟩:=afb D C;refine⟨F,⟨λt j=>?_,?_⟩,by simp,H⟩
    ·rcases cU.1 j with j|j
     ·exact A.t t j
     ·rw[fe] at j;subst j;exact⟨u.2.2.1,(Kd u.2.2.2).1⟩
    ·rw[oO,List.map_singleton,List.nodup_append];refine⟨A.d,by simp,λx hx y E=>?_⟩;rw[fe] at E;subst E;obtain⟨t,j,rfl⟩:=gQ.1 hx;exact(af8 u.2.1).2 t j
  ·cases h
 ·rename_i a b e;split at h
  ·rename_i u;simp only[aQ,cZ] at h;obtain⟨rfl,rfl⟩:=h;obtain⟨k,I,J,M⟩:=HE u.2.1;rw[I,eC];refine⟨asd D,asg A J,by simp[vJ],?_⟩;unfold o8;rw[Jg];refine CM λl N=>?_;simp only[aaC];split
   ·unfold uo;split<;>rfl
   ·rfl
  ·cases h
 ·cases h
def pS:List ax->List dt->List aj->Option (List ax×List dt)
 |l,t,[]=>some (l,t)
 |l,t,r::rs=>match qG l t r with
  |none=>none
  |some x=>pS x.1 x.2 rs
theorem RU:∀{rs:List aj}{legs l:List ax}{an t:List dt},jh legs->uB an->pS legs an rs=some (l,t)->jh l/\uB t/\t.length<=an.length+rs.length/\l.map (·.name)=legs.map (·.name)
 |[],legs,l,an,t,a,e,h=>by
  simp only[pS,aQ,cZ] at h;obtain⟨rfl,rfl⟩:=h;exact⟨a,e,by simp,rfl⟩
 |r::rs,legs,l,an,t,a,e,h=>by
  unfold pS at h;cases j:qG legs an r with
  |none=>rw[j] at h;cases h
  |some x=>
   rw[j] at h;obtain⟨u,y,D,A⟩:=RT a e j;obtain⟨b1,b2,b3,C⟩:=RU u y h;exact⟨b1,b2,by simp;omega,C.trans A⟩
theorem adQ{s0:aT}{rs:List aj}(A:∀r∈rs,r.length<2^28)(E:rs.length<2^28)(C:2^41<=n):∀(m i:Nat)(x:aT),i<=rs.length->rs.length<m+i->jh x.legs->uB x.an->x.an.length<=i->FO n m rs i s0 x (λF=>some (F,true))=some (match pS x.legs x.an (rs.drop i) with|some y=>({x with legs:=y.1,an:=y.2},true)|none=>(s0,false))
 |0,i,x,H,I,j,D,J=>by omega
 |m+1,i,x,H,I,j,D,J=>by
  by_cases hi:i<rs.length
  ·have a:av (i:Int) (au rs)=true:=by rw[bp,aJ];simp;omega
   rw[FO,a,aF,bn hi,ak,lx hi,pS];have e:=acB (n:=n) (s:=x) (record:=rs[i]) (A _ (bI hi)) j (by omega) C;cases u:qG x.legs x.an rs[i] with
   |none=>
    rw[u] at e;obtain⟨y,M⟩:=e;rw[M];simp only[ak,cn,gE,aF]
   |some y=>
    obtain⟨l,t⟩:=y;rw[u] at e;simp only at e;obtain⟨N,P,Q,_⟩:=RT j D u;rw[e];simp only[ak,cn,dy,aH];rw[bD (by omega)];exact adQ A E C m (i+1) _ (by omega) (by omega) N P (by simp;omega)
  ·have:i=rs.length:=by omega
   subst this;have a:av (rs.length:Int) (au rs)=false:=by rw[bp,aJ];simp
   rw[FO,a,aH,sD];rfl
theorem acC:∀(k i:Nat)(s:aj),s.length<1000000000000->∀r∈(eT k i s).1,r.length<=s.length
 |0,_,_,_,r,a=>by simp[eT] at a
 |k+1,i,s,e,r,a=>by
  unfold eT at a;cases h:jc i s with
  |none=>rw[h] at a;simp at a
  |some q=>
   rw[h] at a;have:=DP e h;rcases cO.1 a with rfl|a
   ·omega
   ·have:=acC k (i+1) _ (by simp;omega) r a;simp at this;omega
theorem Wp{s r:aj}(a:s.length<1000000000000)(e:r∈(cS s).1):r.length<=s.length:=acC _ _ _ a r e
theorem acD{s:aT}(j:s.log.length<2^27)(a:jh s.base)(e:2^41<=n):JM n s=some (match pS s.base [] (cS s.log).1 with|some y=>(⟨s.id,s.base,s.log.take (cS s.log).2,true,y.1,y.2⟩,true)|none=>(s,false)):=by
 have x:=DQ (s:=s.log) (by omega);unfold JM;rw[Pw (by omega) e,ak];dsimp only;rw[show dZ s.log 0 ((cS s.log).2:Int)=some (s.log.take (cS s.log).2) by unfold dZ;rw[aD (by omega)];simp,ak,Du (by have:=a.1;omega) (λl j=>(a.2 l j).z) e,ak];have:=adQ (n:=n) (s0:=s) (rs:=(cS s.log).1) (λr u=>by have:=Wp (by omega) u;omega) (by omega) e n 0 (aT.mk s.id s.base (s.log.take (cS s.log).2) true s.base []) (by omega) (by omega) a ⟨by simp,by simp⟩ (by simp);rw[wR] at this;exact this
def lX(a:List Int):aj:=dE 44 (a.map itoa)
abbrev In(x:Int):Prop:=-1000000000000<=x/\x<=1000000000000
theorem A1{c:UInt8}{b:Nat}:∀{l:List aj},(∀w∈l,w.length<=b)->(dE c l).length<=(b+1)*l.length
 |[],_=>by simp[dE]
 |[a],h=>by have:=h a (by simp);simp[dE];omega
 |a::d::l,h=>by
  have u:=h a (by simp);have e:=A1 (c:=c) (l:=d::l) λw j=>h w (by simp[cO.1 j]);rw[dE];simp only[dG,fD,aaT] at e⊢;omega
theorem Xk{xs:List Int}(F:xs.length<=1000)(h:∀x∈xs,In x)(y:2^41<=n):K5 n xs=some (lX xs):=by
 have e:∀m i:Nat,i<=xs.length->xs.length<m+i->Dn n m xs (lX (xs.take i)) i some=some (lX xs):=by
  intro m
  induction m with
  |zero=>intro i C D;omega
  |succ m A=>
   intro i C D
   by_cases hi:i<xs.length
   ·have a:av (i:Int) (au xs)=true:=by rw[bp,aJ];simp;omega
    have hx:=h _ (bI hi);have H:=ly (x:=xs[i]) (by omega) (by omega);have I:(lX (xs.take i)).length<=22*1000:=by
     have:=A1 (c:=44) (b:=21) (l:=(xs.take i).map itoa) (λw E=>by
      obtain⟨x,hx,rfl⟩:=gQ.1 E
      have:=h x (yA hx)
      exact ly (by omega) (by omega))
     simp at this
     unfold lX
     simp
     omega
    rw[Dn,a,aF]
    by_cases h0:0<i
    ·have j:av 0 (i:Int)=true:=by rw[bp];simp;omega
     rw[j,aF];simp only[bn hi,ak,o7 y (show-9000000000000000000<=xs[i]/\xs[i]<=9000000000000000000 by omega)];rw[fj (by simp;omega),ak,fj (by simp;omega),ak,bD (by omega)];have:lX (xs.take i)++([44]:aj)++itoa xs[i]=lX (xs.take (i+1)):=by
      rw[oe hi]
      unfold lX
      rw[oO,mM,wP,Kc _ _ _ (by simp;exact⟨by omega,by rintro rfl;simp at hi⟩)]
     rw[this];exact A (i+1) (by omega) (by omega)
    ·have j:av 0 (i:Int)=false:=by rw[bp];simp;omega
     rw[j,aH];simp only[bn hi,ak,o7 y (show-9000000000000000000<=xs[i]/\xs[i]<=9000000000000000000 by omega)];rw[fj (by omega),ak,bD (by omega)];have u:i=0:=by omega
     subst u;have:lX (xs.take 0)++itoa xs[0]=lX (xs.take (0+1)):=by
      rw[oe hi]
      simp[lX,dE]
     rw[this];exact A (0+1) (by omega) (by omega)
   ·have:i=xs.length:=by omega
    subst this;have a:av (xs.length:Int) (au xs)=false:=by rw[bp,aJ];simp
    rw[Dn,a,aH,wQ]
 exact e n 0 (by omega) (by omega)
structure vK(l:ax):Prop extends uA l where
 b1:(32:UInt8)∉l.name
 b2:(32:UInt8)∉l.aC
 b3:(32:UInt8)∉l.to
 i1:In l.dJ
 i2:In l.arr
 i4:∀x∈l.bA,In x
 i5:∀x∈l.bh,In x
 i6:∀x∈l.cV,In x
theorem VG{t:aj}(h:gw t=true):(32:UInt8)∉t:=λa=>by
 have e:(32:UInt8).toNat=32:=rfl;have:=(mQ h).1 _ a;omega
theorem gR.r{l:ax}(h:gR l):vK l:={h.z with
 b1:=VG h.n1,b2:=VG h.n2,b3:=VG h.n3
 i1:=by have:=h.dJ;unfold In;omega
 i2:=by have:=h.arr;have:=h.dJ;unfold In;omega
 i4:=λx hx=>by
  obtain⟨j,a,rfl⟩:=q9 hx
  have:=xj h (show j<3 by have:=h.l3;omega)
  rw[L8 a] at this
  have:=h.cap
  unfold In;omega
 i5:=λx hx=>by
  obtain⟨j,a,rfl⟩:=q9 hx
  have:=xj h (show j<3 by have:=h.s3;omega)
  rw[L8 (l:=l.bh) a] at this
  have:=h.cap
  unfold In;omega
 i6:=λx hx=>by
  obtain⟨j,a,rfl⟩:=q9 hx
  have:=h.su j a
  simp only[BV,bo,bH,L8 a] at this
  unfold In;omega}
def MS(l:ax):aj:=dE 32 [l.name,l.aC,l.to,itoa l.dJ,itoa l.arr,lX l.bA,lX l.bh,lX l.cV]
theorem VH{a:List Int}(j:a.length<=1000)(h:∀x∈a,In x):(lX a).length<=22000:=by
 have:=A1 (c:=44) (b:=21) (l:=a.map itoa) (λw e=>by
  obtain⟨x,hx,rfl⟩:=gQ.1 e
  have:=h x hx
  exact ly (by omega) (by omega));simp at this;unfold lX;omega
theorem adR{l:ax}(h:vK l)(a:2^41<=n):KE n l=some (MS l):=by
 have e:=h.n1;have j:=h.n2;have u:=h.n3;have d1:=h.i1;have d2:=h.i2;have b1:=ly (x:=l.dJ) (by omega) (by omega);have b2:=ly (x:=l.arr) (by omega) (by omega);have y:=VH h.z1 h.i4;have A:=VH h.z2 h.i5;have C:=VH h.z3 h.i6;unfold KE;simp only[o7 a (show-9000000000000000000<=l.dJ/\l.dJ<=9000000000000000000 by omega),o7 a (show-9000000000000000000<=l.arr/\l.arr<=9000000000000000000 by omega),Xk h.z1 h.i4 a,Xk h.z2 h.i5 a,Xk h.z3 h.i6 a,ak]
 iterate 14 rw[fj (by simp;omega),ak]
 simp[MS,dE]
theorem QJ{x y:Int}(h:itoa x=itoa y):x=y:=by
 have j:∀u:Nat,(decDigits u).head?≠some 45:=λu e=>by
  cases a:decDigits u with
  |nil=>exact y7 u a
  |cons c l=>
   rw[a] at e
   have:=AR u c (by rw[a];simp)
   simp only[Uy,aQ] at e
   subst e
   have:(45:UInt8).toNat=45:=rfl
   omega
 unfold itoa at h;split at h<;>split at h
 ·injection h with _ h;have:=Xh h;omega
 ·exact absurd (by rw[<-h];rfl) (j y.toNat)
 ·exact absurd (by rw[h];rfl) (j x.toNat)
 ·have:=Xh h;omega
theorem aqz(x:Int):itoa x≠[]:=by
 unfold itoa;split
 ·simp
 ·exact y7 _
theorem ash(x:Int):(44:UInt8)∉itoa x:=λa=>by
 have e:(44:UInt8).toNat=44:=rfl;have:=A0 _ a;omega
theorem XT(x:Int):(32:UInt8)∉itoa x:=λa=>by
 have e:(32:UInt8).toNat=32:=rfl;have:=A0 _ a;omega
theorem acE{c x:UInt8}:∀{l:List aj},x∈dE c l->x=c\/∃w∈l,x∈w
 |[],h=>by simp[dE] at h
 |[a],h=>.inr ⟨a,by simp,h⟩
 |a::b::l,h=>by
  rw[dE] at h;rcases cU.1 h with h|h
  ·exact .inr ⟨a,by simp,h⟩
  ·rcases cO.1 h with h|h
   ·exact .inl h
   ·rcases acE h with h|⟨w,e,h⟩
    ·exact .inl h
    ·exact .inr ⟨w,by simp[cO.1 e],h⟩
theorem Xl(xs:List Int):(32:UInt8)∉lX xs:=λa=>by
 rcases acE a with h|⟨w,e,h⟩
 ·cases h
 ·obtain⟨x,_,rfl⟩:=gQ.1 e;exact XT x h
theorem map_inj{j A:Type}{f:j->A}(u:∀x y,f x=f y->x=y):∀{a e:List j},a.map f=e.map f->a=e
 |[],[],_=>rfl
 |[],y::e,h=>by cases h
 |x::a,[],h=>by cases h
 |x::a,y::e,h=>by
  simp only[mM,nh] at h;rw[u _ _ h.1,map_inj u h.2]
theorem adS{c:UInt8}{l:List aj}(h:l≠[])(e:∀w∈l,w≠[]):dE c l≠[]:=by
 match l,h with
 |[a],_=>exact e a (by simp)
 |a::b::l,_=>simp[dE]
theorem VI{e ys:List Int}(h:lX e=lX ys):e=ys:=by
 have u:∀zs:List Int,∀w∈zs.map itoa,w≠[]/\(44:UInt8)∉w:=λzs w a=>by
  obtain⟨x,_,rfl⟩:=gQ.1 a
  exact⟨aqz x,ash x⟩
 by_cases hx:e=[]
 ·subst hx
  by_cases j:ys=[]
  ·exact j.symm
  ·exact absurd h.symm (adS (by simpa using j) λw a=>(u ys w a).1)
 ·by_cases j:ys=[]
  ·subst j;exact absurd h (adS (by simpa using hx) λw a=>(u e w a).1)
  ·have y:=Hn (c:=44) (l:=e.map itoa) (by simpa using hx) λw a=>(u e w a).2;have A:=Hn (c:=44) (l:=ys.map itoa) (by simpa using j) λw a=>(u ys w a).2;unfold lX at h;rw[h,A] at y;exact map_inj (λ_ _=>QJ) y.symm
theorem aoR{a b:ax}(y:vK a)(A:vK b)(h:MS a=MS b):a.name=b.name/\a.aC=b.aC/\a.to=b.to/\a.dJ=b.dJ/\a.arr=b.arr/\a.bA=b.bA/\a.bh=b.bh/\a.cV=b.cV:=by
 have u:∀l:ax,vK l->bm 32 (MS l)=[l.name,l.aC,l.to,itoa l.dJ,itoa l.arr,lX l.bA,lX l.bh,lX l.cV]:=λl e=>by
  refine Hn (by simp) λw x=>?_
  simp only[cO,oP,oQ] at x
  rcases x with rfl|rfl|rfl|rfl|rfl|rfl|rfl|rfl
  ·exact e.b1
  ·exact e.b2
  ·exact e.b3
  ·exact XT _
  ·exact XT _
  ·exact Xl _
  ·exact Xl _
  ·exact Xl _
 have j:=u a y;rw[h,u b A] at j;simp only[nh,jI] at j;obtain⟨C,D,E,F,H,h6,I,J⟩:=j;exact⟨C.symm,D.symm,E.symm,(QJ F).symm,(QJ H).symm,(VI h6).symm,(VI I).symm,(VI J).symm⟩
theorem yG{e:Type}{a b:List e}(d:e)(h:a.length=b.length):(∀j,j<a.length->a.getD j d=b.getD j d)↔a=b:=by
 constructor
 ·intro x;refine List.ext_getElem h λj u y=>?_;have:=x j u;simpa[iR,u,y] using this
 ·rintro rfl j _;rfl
theorem abl{a b:bc}:a=b↔a.txn=b.txn/\a.cls=b.cls/\a.aG=b.aG:=by
 cases a;cases b;simp
theorem abQ{a b:aY}:a=b↔a.ba=b.ba/\a.cls=b.cls/\a.aG=b.aG/\a.share=b.share:=by
 cases a;cases b;simp
theorem aty{a b:ax}(u:vK a)(A:vK b)(C:2^41<=n):Ok (QC n a b) λr=>r=true↔a=b:=by
 unfold QC;rw[adR u C,adR A C];simp only[ak];refine cd (qz (λx=>cd (ok_eq (λD=>cd (ok_eq (λy=>?_) λy=>?_)) λD=>?_)) λx=>?_)
 ·have F:a.holds.length=b.holds.length:=by simp only[go_sem] at y;omega
  have hz:=u.z4;have H:=lT (N:=a.holds.length) (by omega) (L:=λm i=>GC n m i a b (some true)) (P:=λj=>decide ((gH a.holds j).txn=(gH b.holds j).txn)&&(decide ((gH a.holds j).cls=(gH b.holds j).cls)&&decide ((gH a.holds j).aG=(gH b.holds j).aG))) (k:=some true) (r:=some false) (λm=>by simp[go_sem,GC]) (λm i hi=>by
   have e:decide ((i:Int)<a.holds.length)=true:=by simp;omega
   simp only[GC,bp,aJ,e,aF,db hi ⟨0,0,0⟩,db (show i<b.holds.length by omega) ⟨0,0,0⟩,ak,fw,cN,cn]
   generalize(decide ((gH a.holds i).txn=(gH b.holds i).txn)&&(decide ((gH a.holds i).cls=(gH b.holds i).cls)&&decide ((gH a.holds i).aG=(gH b.holds i).aG)))=z
   cases z<;>rfl) (m:=n) (by omega);rw[H];obtain⟨I,J,M,e4,e5,Q,R,S⟩:=aoR u A x;have E:(eX a.holds.length λj=>decide ((gH a.holds j).txn=(gH b.holds j).txn)&&(decide ((gH a.holds j).cls=(gH b.holds j).cls)&&decide ((gH a.holds j).aG=(gH b.holds j).aG)))=true↔a.holds=b.holds:=by
   rw[<-yG ⟨0,0,0⟩ F,oq]
   simp only[bo,bH,abl]
  split
  ·rename_i e;refine az ⟨λ_=>?_,λ_=>rfl⟩;have:=E.1 e;cases a;cases b;simp_all
  ·rename_i e;refine az ⟨λh=>(by cases h),λh=>absurd (E.2 (by rw[h])) e⟩
 ·refine az ⟨λh=>(by cases h),λh=>absurd (by rw[h]) y⟩
 ·refine az ⟨λh=>(by cases h),λh=>absurd (by rw[h]) D⟩
 ·refine az ⟨λh=>(by cases h),λh=>absurd (by rw[h]) x⟩
theorem asi{a b:List aY}(C:a.length<2^29)(D:2^41<=n):Ok (Qd n a b) λr=>r=true↔a=b:=by
 unfold Qd;refine cd (ok_eq (λu=>?_) λu=>?_)
 ·have y:a.length=b.length:=by simp only[go_sem] at u;omega
  have A:=lT (N:=a.length) (by omega) (L:=λm i=>Gh n m a b i (some true)) (P:=λj=>decide ((gO a j).ba=(gO b j).ba)&&(decide ((gO a j).cls=(gO b j).cls)&&(decide ((gO a j).aG=(gO b j).aG)&&decide ((gO a j).share=(gO b j).share)))) (k:=some true) (r:=some false) (λm=>by simp[go_sem,Gh]) (λm i hi=>by
   have e:decide ((i:Int)<a.length)=true:=by simp;omega
   simp only[Gh,bp,aJ,e,aF,db hi ⟨[],0,0,0⟩,db (show i<b.length by omega) ⟨[],0,0,0⟩,ak,fw,cN,mU,cn]
   generalize(decide ((gO a i).ba=(gO b i).ba)&&(decide ((gO a i).cls=(gO b i).cls)&&(decide ((gO a i).aG=(gO b i).aG)&&decide ((gO a i).share=(gO b i).share))))=z
   cases z<;>rfl) (m:=n) (by omega);rw[A];have x:(eX a.length λj=>decide ((gO a j).ba=(gO b j).ba)&&(decide ((gO a j).cls=(gO b j).cls)&&(decide ((gO a j).aG=(gO b j).aG)&&decide ((gO a j).share=(gO b j).share))))=true↔a=b:=by
   rw[<-yG ⟨[],0,0,0⟩ y,oq]
   simp only[bo,bH,abQ]
  split
  ·rename_i e;exact az ⟨λ_=>x.1 e,λ_=>rfl⟩
  ·rename_i e;refine az ⟨λh=>(by cases h),λh=>absurd (x.2 h) e⟩
 ·refine az ⟨λh=>(by cases h),λh=>absurd (by rw[h]) u⟩
end
end
end Go.Ev
