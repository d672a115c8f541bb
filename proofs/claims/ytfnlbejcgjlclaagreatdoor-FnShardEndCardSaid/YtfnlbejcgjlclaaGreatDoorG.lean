/- Laws of the plain functions, 1. -/
import Derived.Laws.BitsLemmas
import Derived.Lib.ItoaLen
import Derived.Lib.Repeat
import Derived.Lib.SplitLaws
import Derived.Lib.AtoiAllCases
import Derived.Test.YtfnlbejcgjlclaaGreatDoorD
set_option linter.all false
namespace Go.Ev
open Go
attribute[go_sem] ZK dQ gE iO iS di lO lA dF Int.natCast_zero s9 Int.ofNat_lt Hz List.all_nil vZ HB
@[go_sem] theorem cw{a R:Type}(x:a)(f:a->Option R):ck (some x) f=f x:=rfl
@[go_sem] theorem tV(b:Bool):dV b=if b=true then some () else none:=by cases b<;>rfl
def vd(a b:Int):cz .i64 a b=(a+b+9223372036854775808) % 18446744073709551616-9223372036854775808:=IntKind.wrap_i64 _
def iE(a b:Int):cX .i64 a b=(a-b+9223372036854775808) % 18446744073709551616-9223372036854775808:=IntKind.wrap_i64 _
def dO{i:Nat}(h:i<2^31):cz .i64 i 1=((i+1:Nat):Int):=by rw[vd];omega
def dA{a:Type}{l:List a}{i:Nat}(h:i<l.length):cm l i=some l[i]:=by
 simp[cm,h]
def vr{l:cq}{i:Nat}(h:i<l.length):iG l i=some (l[i].toNat:Int):=by
 simp[iG,h]
@[go_sem] theorem ez(a b:Int):cp a b=decide (a=b):=rfl
@[go_sem] theorem dE(a b:Int):cC a b=decide (a<b):=rfl
@[go_sem] theorem gR(a b:Int):dI a b=decide (a<=b):=rfl
@[go_sem] theorem gA(a:cq):eF a=a.length:=rfl
@[go_sem] theorem cW{e:Type}(a:List e):cA a=a.length:=rfl
@[go_sem] theorem dT(a:Bool):cF a=!a:=rfl
@[go_sem] theorem kX(a b:cq):dz a b=decide (a=b):=rfl
@[go_sem] theorem sk(n:Nat)(a b c:Int):dC n a b c=some (decide (b<=a/\a<=c)):=by
  simp only[dC,gR]
  by_cases h:b<=a<;>simp[h]
def Dd{e σ R:Type}{xs:List e}(C:xs.length<2^30){L:Nat->Int->σ->Option R}{G:List e->σ->Option R}(u:∀m st,L (m+1) xs.length st=G [] st)
  (x:∀m(i:Nat)(h:i<xs.length),(∀st,L m (cz .i64 i 1) st=G (xs.drop (i+1)) st)->∀st,L (m+1) i st=G (xs[i]::xs.drop (i+1)) st){m:Nat}(D:xs.length<m)(st:σ):L m 0 st=G xs st:=by
 have a:∀m i:Nat,i<=xs.length->xs.length<m+i->∀st,L m i st=G (xs.drop i) st:=by
  intro m
  induction m with
  |zero=>intro i h y;omega
  |succ m A=>
   intro i h y st
   by_cases j:i<xs.length
   ·rw[ly j];exact x m i j (λst=>by rw[dO (by omega)];exact A (i+1) (by omega) (by omega) st) st
   ·have:i=xs.length:=by omega
    subst this;rw[QS (iN _)];exact u m st
 have:=a m 0 (by omega) (by omega) st;simpa using this
def P1{a R:Type}{xs:List a}(e:xs.length<2^30){L:Nat->Int->Option R}{G:List a->Option R}(j:∀m,L (m+1) xs.length=G [])(u:∀m(i:Nat)(h:i<xs.length),L m (cz .i64 i 1)=G (xs.drop (i+1))->L (m+1) i=G (xs[i]::xs.drop (i+1))){m:Nat}(x:xs.length<m):L m 0=G xs:=Dd (σ:=Unit) e (L:=λm i _=>L m i) (G:=λxs _=>G xs) (λm _=>j m) (λm i h y _=>u m i h (y ())) x ()
def Lg{R:Type}{N:Nat}(A:N<2^30){L:Nat->Int->Option R}{G:Nat->Option R}(e:∀m,L (m+1) N=G N)(j:∀m i,i<N->L m (cz .i64 i 1)=G (i+1)->L (m+1) i=G i){m:Nat}(C:N<m):L m 0=G 0:=by
 have a:∀m i:Nat,i<=N->N<m+i->L m i=G i:=by
  intro m
  induction m with
  |zero=>intro i h u;omega
  |succ m x=>
   intro i h u
   by_cases y:i<N
   ·exact j m i y (by rw[dO (by omega)];exact x (i+1) (by omega) (by omega))
   ·have:i=N:=by omega
    subst this;exact e m
 exact a m 0 (by omega) (by omega)
def gh(N:Nat)(P:Nat->Bool):Bool:=(List.range N).all P
def kV{R:Type}{N:Nat}(a:N<2^30){L:Nat->Int->Option R}{P:Nat->Bool}{k r:Option R}(e:∀m,L (m+1) N=k)(j:∀m i,i<N->L (m+1) i=if P i=true then L m (cz .i64 i 1) else r){m:Nat}(u:N<m):L m 0=if gh N P=true then k else r:=by
 have:=Lg a (L:=L) (G:=λi=>if(List.range' i (N-i)).all P=true then k else r) (λm=>by rw[e];simp) (λm i x y=>by
  rw[j m i x,y,show N-i=(N-(i+1))+1 by omega,QL,Hz]
  cases P i<;>rfl) u;rw[this,gh,ZD,QT]
def lG{a:Type}(p:a->Bool):Nat->List a->Int
 |_,[]=>-1
 |i,x::e=>if p x=true then(i:Int) else lG p (i+1) e
def qV{u:Type}{p:u->Bool}:∀{xs:List u}{i:Nat},lG p i xs=-1/\(∀x∈xs,p x=false)\/∃(j:Nat)(h:j<xs.length),lG p i xs=((i+j:Nat):Int)/\p xs[j]=true/\∀(k:Nat)(_:k<j),p (xs[k]'(by omega))=false
 |[],i=>.inl ⟨rfl,by simp⟩
 |x::xs,i=>by
  unfold lG
  by_cases h:p x=true
  ·exact .inr ⟨0,by simp,by simp[h],by simpa using h,λk y=>by omega⟩
  ·rw[cN h];have h:p x=false:=by simpa using h
   rcases qV (p:=p) (xs:=xs) (i:=i+1) with⟨a,e⟩|⟨j,A,a,e,C⟩
   ·exact .inl ⟨a,by simpa[h] using e⟩
   ·refine .inr ⟨j+1,by simpa using A,by rw[a];omega,by simpa using e,λk y=>?_⟩;cases k with
    |zero=>simpa using h
    |succ k=>simpa using C k (by omega)
def u4{a R:Type}{xs:List a}(j:xs.length<2^30){L:Nat->Int->Option R}{p:a->Bool}{f:Int->Option R}(u:∀m,L (m+1) xs.length=f (-1))(x:∀m(i:Nat)(h:i<xs.length),L (m+1) i=if p xs[i]=true then f i else L m (cz .i64 i 1)){m:Nat}(y:xs.length<m):L m 0=f (lG p 0 xs):=by
 have:=Lg j (L:=L) (G:=λi=>f (lG p i (xs.drop i))) (λm=>by rw[u,QS (iN _)];rfl) (λm i e A=>by
  rw[x m i e,A,ly e,lG]
  split<;>rfl) y;simpa using this
def eP{a:Type}{l:List a}{i:Nat}(h:i<l.length)(d:a):cm l i=some (l.getD i d):=by
 rw[dA h,iT,eN h];rfl
def pl{c:Prop}[Decidable c]{X:Option Bool}{a b:Bool}(e:c↔a=false)(h:a=true->X=some b):(if c then some false else X)=some (a&&b):=by
 cases a with
 |false=>rw[cM (e.2 rfl)];rfl
 |true=>rw[cN (λh=>by cases e.1 h),h rfl];rfl
def low(c:UInt8):Bool:=decide (97<=(c.toNat:Int)/\(c.toNat:Int)<=122)
def gY(t:cq):Bool:=t.all low&&decide (1<=(t.length:Int)/\(t.length:Int)<=8)
def rY{n:Nat}{t:cq}(a:t.length<2^30)(u:2^41<=n):mw n t=some (gY t):=by
 have:=λk=>P1 a (L:=λm i=>Bv n m t i k) (G:=λe=>if e.all low=true then k t else some false) (λm=>by simp[go_sem,Bv]) (λm i h j=>by
  simp only[go_sem,Bv,vr h,j,low,h];grind) (m:=n) (by omega);simp only[go_sem,mw,gY] at this⊢;rw[this]
 grind
section
section
variable{n:Nat}{l:cG}{c:Int}{R:Type}
def xC(l:cG)(c x:Int):Int:=(l.dD.drop c.toNat).foldl (cz .i64) x
def vt(a:List dy)(c x:Int):Int:=a.foldl (λx h=>if c<=h.dh/\0<h.cV then cz .i64 x h.cV else x) x
def used(l:cG)(c:Int):Int:=vt l.holds c (xC l c 0)
def nU(a:List dy)(c x:Int):Int:=a.foldl (λx h=>if h.dh=c/\h.cV<0 then cX .i64 x h.cV else x) x
def WE{k:Int->Int->cG->Option Int}(e:l.dD.length=3):∀m i:Nat,i<=3->3<m+i->∀x,Bx n m c x i l k=k c (xC l i x) l
 |0,i,h,j,x=>by omega
 |m+1,i,h,j,x=>by
  by_cases u:i<3
  ·have a:i<l.dD.length:=by omega
   have:((i:Int)<3):=by omega
   simp only[go_sem,Bx,dA a,dO (i:=i) (by omega),WE e m (i+1) (by omega) (by omega),this,xC,fH,ly a]
  ·have:¬ ((i:Int)<3):=by omega
   simp only[go_sem,Bx,this,xC,fH,QS (show l.dD.length<=i by omega)]
def VE(e:l.dD.length=3)(u:l.holds.length<2^30)(D:2^41<=n){i:Nat}(y:i<=3):FD n l i=some (used l i):=by
 have a:=Dd u (L:=λm j x=>wx n m i x j l some) (G:=λA x=>some (vt A i x)) (λm x=>by simp[go_sem,wx,vt]) (λm i h C x=>by
  simp only[go_sem,wx,dA h,C,vt,h];grind) (m:=n) (by omega);simp only[go_sem,FD,WE e n i y (by omega)] at a⊢;rw[a];rfl
def VF(a:l.holds.length<2^30)(y:2^41<=n):zw n l c=some (nU l.holds c 0):=by
 have:=Dd a (L:=λm j x=>wy n m c x j l some) (G:=λe x=>some (nU e c x)) (λm x=>by simp[go_sem,wy,nU]) (λm i h u x=>by
  simp only[go_sem,wy,dA h,u,nU,h];grind) (m:=n) (by omega);simp only[go_sem,zw] at this⊢;rw[this]
abbrev gI(l:List Int)(i:Nat):Int:=l.getD i 0
def rq(l:cG)(j:Nat):Bool:=decide (0<=gI l.dJ j/\gI l.dJ j<=l.cap)&&decide (0<j->gI l.dJ j<=gI l.dJ (j-1))&&decide (0<=gI l.dD j/\gI l.dD j<=l.cap)
def xR(l:cG)(j:Nat):Bool:=decide (0<=gI l.eH j/\gI l.eH j<=1000000000)&&decide (0<j->gI l.eH j<=gI l.eH (j-1))
def nR(l:cG):Bool:=gY l.name&&(gY l.cL&&(gY l.to&&(!decide (l.cL=l.to)&&(decide (0<=l.fx/\l.fx<=9999)&&(decide (cz .i64 l.fx 1<=l.arr/\l.arr<=9999)&&(decide (1<=l.cap/\l.cap<=9)&&(decide ((l.dJ.length:Int)=3)&&(decide ((l.dD.length:Int)=3)&&(decide (gI l.dJ 0=l.cap)&&(decide (1<=(l.eH.length:Int)/\(l.eH.length:Int)<=4)&&(!decide ((6:Int)<l.holds.length)&&(gh 3 (rq l)&&gh l.eH.length (xR l)))))))))))))
def adg(j:l.name.length<2^30)(u:l.cL.length<2^30)(x:l.to.length<2^30)(e:2^41<=n):I2 n l=some (nR l):=by
 have y:l.dJ.length=3->cm l.dJ 0=some (gI l.dJ 0):=λh=>eP (i:=0) (by omega) 0;have A:l.dJ.length=3->l.dD.length=3->∀k,wh n n 0 l k=if gh 3 (rq l)=true then k l else some false:=λa b k=>
  kV (N:=3) (by omega) (L:=λm i=>wh n m i l k) (λm=>by simp[go_sem,wh]) (λm i h=>by
   have c:((i:Int)<3):=by omega
   simp only[go_sem,wh,eP (show i<l.dJ.length by omega) 0,eP (show i<l.dD.length by omega) 0,c,rq]
   by_cases C:0<i
   ·have:cX .i64 i 1=((i-1:Nat):Int):=by rw[iE];omega
    simp only[this,eP (show i-1<l.dJ.length by omega) 0,go_sem]
    grind
   ·grind) (by omega)
 have D:l.eH.length<2^30->∀k,wi n n 0 l k=if gh l.eH.length (xR l)=true then k else some false:=λa k=>
  kV a (L:=λm i=>wi n m i l k) (λm=>by simp[go_sem,wi]) (λm i h=>by
   simp only[go_sem,wi,eP h 0,h,xR]
   by_cases C:0<i
   ·have:cX .i64 i 1=((i-1:Nat):Int):=by rw[iE];omega
    simp only[this,eP (show i-1<l.eH.length by omega) 0,go_sem]
    grind
   ·grind) (by omega)
 unfold I2 nR;simp only[go_sem,rY j e,rY u e,rY x e];refine pl (by simp) λ_=>pl (by simp) λ_=>pl (by simp) λ_=>pl (by simp) λ_=>pl (by simp) λ_=>pl (by simp) λ_=>pl (by simp) λ_=>pl (by simp) λE=>pl (by simp) λF=>?_;simp only[go_sem] at E F;rw[y (by omega),cw];refine pl (by simp) λ_=>pl (by simp) λH=>pl (by simp) λ_=>?_;simp only[go_sem] at H;rw[A (by omega) (by omega),D (by omega)];cases gh 3 (rq l)<;>cases gh l.eH.length (xR l)<;>rfl
abbrev gH(l:List dy)(i:Nat):dy:=l.getD i ⟨0,0,0⟩
def xD(l:cG)(j:Nat):Bool:=decide (1<=(gH l.holds j).cu/\(gH l.holds j).cu<=99)&&decide (0<j->(gH l.holds (j-1)).cu<(gH l.holds j).cu)&&decide (0<=(gH l.holds j).dh/\(gH l.holds j).dh<=2)&&decide ((gH l.holds j).cV≠0)&&decide (gG .i64 l.cap<=(gH l.holds j).cV/\(gH l.holds j).cV<=l.cap)
def oH(l:cG)(j:Nat):Bool:=decide (used l j<=gI l.dJ j)&&decide (nU l.holds j 0<=gI l.dD j)
def kP(l:cG):Bool:=nR l&&(gh l.holds.length (xD l)&&gh 3 (oH l))
def aad(h:nR l=true):l.dJ.length=3/\l.dD.length=3/\1<=l.eH.length/\l.eH.length<=4/\l.holds.length<=6/\gY l.name=true/\gY l.cL=true/\gY l.to=true:=by
 simp only[nR,dF,dQ,lO,lA] at h;refine⟨by omega,by omega,by omega,by omega,by omega,h.1,h.2.1,h.2.2.1⟩
def Dr(l:cG):Prop:=l.name.length<2^30/\l.cL.length<2^30/\l.to.length<2^30
def adh(h:Dr l)(a:2^41<=n):Kd n l=some (kP l):=by
 unfold Kd kP;simp only[go_sem,adg h.1 h.2.1 h.2.2 a];refine pl (by simp) λe=>?_;obtain⟨y,j,_,_,A,_⟩:=aad e;have u:∀k,wC n n 0 l k=if gh l.holds.length (xD l)=true then k l else some false:=λk=>
  kV (by omega) (L:=λm i=>wC n m i l k) (λm=>by simp[go_sem,wC]) (λm i h=>by
   simp only[go_sem,wC,eP h ⟨0,0,0⟩,h,xD]
   by_cases C:0<i
   ·have:cX .i64 i 1=((i-1:Nat):Int):=by rw[iE];omega
    simp only[this,eP (show i-1<l.holds.length by omega) ⟨0,0,0⟩,go_sem]
    grind
   ·grind) (by omega)
 have x:∀k,zc n n 0 l k=if gh 3 (oH l)=true then k else some false:=λk=>
  kV (by omega) (L:=λm i=>zc n m i l k) (λm=>by simp[go_sem,zc]) (λm i h=>by
   have c:((i:Int)<3):=by omega
   simp only[go_sem,zc,VE j (show l.holds.length<2^30 by omega) a (show i<=3 by omega),VF (show l.holds.length<2^30 by omega) a,eP (show i<l.dJ.length by omega) 0,eP (show i<l.dD.length by omega) 0,c,oH]
   grind) (by omega)
 rw[u,x];cases gh l.holds.length (xD l)<;>cases gh 3 (oH l)<;>rfl
def PB{net:List cG}{name:cq}(a:net.length<2^30)(e:2^41<=n):nP n net name=some (lG (λl=>decide (l.name=name)) 0 net):=u4 a (L:=λm i=>BQ n m net name i (some (-1))) (f:=some) (λm=>by simp[go_sem,BQ]) (λm i h=>by simp only[go_sem,BQ,dA h,h]) (by omega)
abbrev gL(l:List cG)(i:Nat):cG:=l.getD i ⟨[],[],[],0,0,0,[],[],[],[]⟩
def pQ(a:List cG)(j:Nat):Bool:=kP (gL a j)&&decide (lG (λl=>decide (l.name=(gL a j).name)) 0 a=j)
def vF(a:List cG):Bool:=gh a.length (pQ a)&&decide ((a.length:Int)<=6)
def adi{a:List cG}(j:a.length<2^30)(h:∀l∈a,Dr l)(u:2^41<=n):Ke n a=some (vF a):=by
 have:=λk=>kV j (L:=λm i=>BR n m a i k) (P:=pQ a) (k:=k a) (r:=some false) (λm=>by simp[go_sem,BR]) (λm i e=>by
  have x:gL a i=a[i]:=by simp[iT,eN e]
  have y:Dr (gL a i):=by rw[x];exact h _ (dM e)
  simp only[go_sem,BR,eP e ⟨[],[],[],0,0,0,[],[],[],[]⟩,e,adh y u,PB j u,pQ]
  grind) (m:=n) (by omega);unfold Ke vF;rw[this];cases gh a.length (pQ a)<;>simp[go_sem]
def oI(a:List cG):Bool:=(a.all λl=>decide (l.holds=[]))&&vF a
def O0{a:List cG}(e:a.length<2^30)(h:∀l∈a,Dr l)(u:2^41<=n):Ca n a=some (oI a):=by
 have:=λk=>P1 e (L:=λm i=>Bb n m a i k) (G:=λx=>if x.all (λl=>decide (l.holds=[]))=true then k a else some false) (λm=>by simp[go_sem,Bb]) (λm i j y=>by
  simp only[go_sem,Bb,dA j,j,y]
  cases a[i].holds<;>simp) (m:=n) (by omega);unfold Ca oI;simp only[go_sem,this,adi e h u];cases(a.all λl=>decide (l.holds=[]))<;>simp
end
end
def EO{a b:Int}(e:-1000000<=a)(j:a<=1000000)(u:-1000000<=b)(x:b<=1000000):cz .i64 a b=a+b:=by rw[vd];omega
def Sb{a b:Int}(e:-1000000<=a)(j:a<=1000000)(u:-1000000<=b)(x:b<=1000000):cX .i64 a b=a-b:=by rw[iE];omega
def fA{a:Type}(f:a->Int):List a->Int|[]=>0|x::e=>f x+fA f e
def FR{j:Type}(f:j->Int):∀(a e:List j),fA f (a++e)=fA f a+fA f e
 |[],e=>by simp[fA]
 |x::a,e=>by simp only[o9,fA,FR f a];omega
def O1{e:Type}{f:e->Int}{a:Int}:∀{xs:List e},(∀x∈xs,a<=f x)->a*xs.length<=fA f xs
 |[],_=>by simp[fA]
 |x::xs,h=>by
  have u:=O1 (xs:=xs) λy j=>h y (by simp[j]);have A:=h x (by simp);simp only[fA,gy,ZL,ZM];simp;omega
def VG{e:Type}{f:e->Int}{a:Int}:∀{xs:List e},(∀x∈xs,f x<=a)->fA f xs<=a*xs.length
 |[],_=>by simp[fA]
 |x::xs,h=>by
  have u:=VG (xs:=xs) λy j=>h y (by simp[j]);have A:=h x (by simp);simp only[fA,gy,ZL,ZM];simp;omega
def JR{e:Type}{g:Int->e->Int}{f:e->Int}(j:∀x y,-1000<=x->x<=1000->-9<=f y->f y<=9->g x y=x+f y):∀(a:List e)(x:Int),(∀y∈a,-9<=f y/\f y<=9)->-1000<=x-9*a.length->x+9*a.length<=1000->a.foldl g x=x+fA f a
 |[],x,_,_,_=>by simp[fA]
 |y::A,x,h,C,D=>by
  have u:=h y (by simp);simp only[gy,ZL] at C D;rw[vZ,j x y (by omega) (by omega) u.1 u.2,JR j A _ (λz E=>h z (by simp[E])) (by omega) (by omega),fA];omega
def mg(c:Int)(h:dy):Int:=if c<=h.dh/\0<h.cV then h.cV else 0
def mK(c:Int)(h:dy):Int:=if h.dh=c/\h.cV<0 then-h.cV else 0
def rh(l:cG)(c:Nat):Int:=fA id (l.dD.drop c)
structure il(l:cG):Prop where
 n1:gY l.name=true
 n2:gY l.cL=true
 n3:gY l.to=true
 ne:l.cL≠l.to
 fx:0<=l.fx/\l.fx<=9999
 arr:l.fx+1<=l.arr/\l.arr<=9999
 cap:1<=l.cap/\l.cap<=9
 l3:l.dJ.length=3
 s3:l.dD.length=3
 l0:gI l.dJ 0=l.cap
 b:1<=l.eH.length/\l.eH.length<=4
 h6:l.holds.length<=6
 yg:∀j,j<3->rq l j=true
 p7:∀j,j<l.eH.length->xR l j=true
 hold:∀h∈l.holds,(1<=h.cu/\h.cu<=99)/\(0<=h.dh/\h.dh<=2)/\h.cV≠0/\-l.cap<=h.cV/\h.cV<=l.cap
 mQ:l.holds.Pairwise (λa b=>a.cu<b.cu)
 iW:∀j:Nat,j<3->rh l j+fA (mg j) l.holds<=gI l.dJ j/\fA (mK j) l.holds<=gI l.dD j
def mY{N:Nat}{P:Nat->Bool}:gh N P=true↔∀j,j<N->P j=true:=by simp[gh,jC]
def PC{l:List Int}{i:Nat}(h:i<l.length):gI l i∈l:=by
 rw[gI,iT,eN h];exact dM h
def xE{l:List dy}{i:Nat}(h:i<l.length):gH l i=l[i]:=by
 rw[gH,iT,eN h];rfl
def GM{l:List Int}{i:Nat}(h:i<l.length):gI l i=l[i]:=by
 rw[gI,iT,eN h];rfl
def VH{e:List dy}:e.Pairwise (λa b=>a.cu<b.cu)↔∀j,j<e.length->0<j->(gH e (j-1)).cu<(gH e j).cu:=by
 constructor
 ·intro h j u E;rw[xE u,xE (by omega)];exact ZN.1 h _ _ (by omega) u (by omega)
 ·intro h;have y:∀d i,i+d+1<e.length->(gH e i).cu<(gH e (i+d+1)).cu:=by
   intro d
   induction d with
   |zero=>intro i x;exact h (i+1) (by omega) (by omega)
   |succ d A=>
    intro i x
    have F:=A i (by omega)
    have C:=h (i+(d+1)+1) x (by omega)
    have:i+(d+1)+1-1=i+d+1:=by omega
    rw[this] at C
    omega
  refine ZN.2 λi j x u D=>?_;have:=y (j-i-1) i (by omega);rwa[show i+(j-i-1)+1=j by omega,xE x,xE u] at this
def Ui{l:cG}(y:l.dD.length=3)(e:l.cap<=9)(a:∀j,j<3->rq l j=true):∀x∈l.dD,0<=x/\x<=9:=λx hx=>by
 obtain⟨j,u,rfl⟩:=p8 hx;have:=a j (by omega);simp only[rq,dF,dQ,GM u] at this;omega
def Of{l:cG}(E:l.dD.length=3)(u:l.cap<=9)(A:∀j,j<3->rq l j=true)(P:l.holds.length<=6)(F:∀h∈l.holds,-9<=h.cV/\h.cV<=9)(c:Nat):used l c=rh l c+fA (mg c) l.holds/\nU l.holds c 0=fA (mK c) l.holds:=by
 have C:∀y∈l.dD.drop c,(-9:Int)<=id y/\id y<=9:=λy e=>by have:=Ui E u A y (HK e);simp only[id];omega
 have Q:(l.dD.drop c).length<=3:=by simp[E]
 have H:xC l c 0=rh l c:=by
  unfold xC rh
  rw[fH,JR (f:=id) (λx y _ _ _ _=>by rw[EO]<;>simp only[id] at*<;>omega) _ 0 C (by omega) (by omega)]
  omega
 have R:=O1 (a:=-9) λx hx=>(C x hx).1;have S:=VG (a:=9) λx hx=>(C x hx).2;constructor
 ·unfold used;rw[H];unfold vt;refine JR (f:=mg c) (λx y I J M N=>?_) _ _ (λy e=>?_) (by unfold rh;omega) (by unfold rh;omega)
  ·unfold mg at*;split
   ·rename_i D;rw[cM D] at*;rw[EO]<;>omega
   ·omega
  ·have:=F y e;unfold mg;split<;>omega
 ·unfold nU;rw[JR (f:=mK c) (λx y I J M N=>?_) _ 0 (λy e=>?_) (by omega) (by omega)]
  ·omega
  ·unfold mK at*;split
   ·rename_i D;rw[cM D] at*;rw[Sb]<;>omega
   ·omega
  ·have:=F y e;unfold mK;split<;>omega
def wG{a:Int}(e:-1000000<=a)(j:a<=1000000):gG .i64 a=-a:=by
 unfold gG;rw[IntKind.wrap_i64];omega
def Uj{l:cG}:kP l=true↔il l:=by
 simp only[kP,nR,dF,dQ,lO,lA,mY];constructor
 ·rintro⟨⟨M,N,P,Q,E,u,y,Z,s3,R,b,h6,A,p7⟩,I,S⟩;rw[EO (by omega) (by omega) (by omega) (by omega)] at u;have e:∀h∈l.holds,(1<=h.cu/\h.cu<=99)/\(0<=h.dh/\h.dh<=2)/\h.cV≠0/\-l.cap<=h.cV/\h.cV<=l.cap:=λh C=>by
   obtain⟨j,a,rfl⟩:=p8 C
   have:=I j a
   simp only[xD,dF,dQ,xE a,wG (show-1000000<=l.cap by omega) (by omega)] at this
   exact⟨this.1.1.1.1,this.1.1.2,this.1.2,this.2⟩
  refine⟨M,N,P,Q,E,u,y,by omega,by omega,R,by omega,by omega,A,p7,e,VH.2 λj a U=>?_,λj a=>?_⟩
  ·have:=I j a;simp only[xD,dF,dQ] at this;exact this.1.1.1.2 U
  ·have:=S j a;obtain⟨F,H⟩:=Of (l:=l) (by omega) y.2 A (by omega) (λh C=>by have:=e h C;omega) j;simp only[oH,dF,dQ,F,H] at this;exact this
 ·intro h;have Y:=h.cap;refine⟨⟨h.n1,h.n2,h.n3,h.ne,h.fx,?_,h.cap,by have:=h.l3;omega,by have:=h.s3;omega,h.l0,by have:=h.b;omega,by have:=h.h6;omega,h.yg,h.p7⟩,λj a=>?_,λj a=>?_⟩
  ·rw[EO]<;>first|exact h.arr|(have:=h.fx;omega)
  ·have D:=h.hold _ (dM a);have J:=VH.1 h.mQ j a;rw[xE a] at J;simp only[xD,dF,dQ,xE a,wG (show-1000000<=l.cap by omega) (by omega)];exact⟨⟨⟨⟨D.1,J⟩,D.2.1⟩,D.2.2.1⟩,D.2.2.2⟩
  ·obtain⟨F,H⟩:=Of h.s3 Y.2 h.yg h.h6 (λx C=>by have:=h.hold x C;omega) j;simp only[oH,dF,dQ,F,H];exact h.iW j a
section
def Ok{R:Type}(o:Option R)(Q:R->Prop):Prop:=∃r,o=some r/\Q r
section
variable{R α c:Type}{Q:R->Prop}
def cH{r:R}(h:Q r):Ok (some r) Q:=⟨r,rfl,h⟩
def G1{o:Option R}{r:R}(e:o=some r)(h:Q r):Ok o Q:=⟨r,e,h⟩
def ahK{o:Option R}{P:R->Prop}(h:Ok o P)(a:∀r,P r->Q r):Ok o Q:=let⟨r,e,j⟩:=h;⟨r,e,a r j⟩
def dq{o:Option α}{f:α->Option R}{P:α->Prop}(h:Ok o P)(a:∀x,P x->Ok (f x) Q):Ok (ck o f) Q:=by
 obtain⟨x,e,j⟩:=h;rw[e];exact a x j
def Lh{o:Option α}{f:α->Option R}{x:α}(e:o=some x)(a:Ok (f x) Q):Ok (ck o f) Q:=by
 rw[e];exact a
def ef{b:Bool}{x y:Option R}(a:b=true->Ok x Q)(e:b=false->Ok y Q):Ok (cond b x y) Q:=by
 cases b
 ·exact e rfl
 ·exact a rfl
def eu{a b:Int}{x y:Option R}(e:a<b->Ok x Q)(j:b<=a->Ok y Q):Ok (cond (cC a b) x y) Q:=ef (λh=>e (by simpa[cC] using h)) λh=>j (by simpa[cC] using h)
def nV{a b:Int}{x y:Option R}(e:a<=b->Ok x Q)(j:b<a->Ok y Q):Ok (cond (dI a b) x y) Q:=ef (λh=>e (by simpa[dI] using h)) λh=>j (by simpa[dI] using h)
def dr{a b:Int}{x y:Option R}(e:a=b->Ok x Q)(j:a≠b->Ok y Q):Ok (cond (cp a b) x y) Q:=ef (λh=>e (by simpa[cp] using h)) λh=>j (by simpa[cp] using h)
def oJ{a b:cq}{x y:Option R}(e:a=b->Ok x Q)(j:a≠b->Ok y Q):Ok (cond (dz a b) x y) Q:=ef (λh=>e (by simpa[dz] using h)) λh=>j (by simpa[dz] using h)
def eg{b:Bool}{x y:Option R}(h:Ok (cond b y x) Q):Ok (cond (cF b) x y) Q:=by cases b<;>exact h
def iX{l:List α}{i:Int}{f:α->Option R}(a:0<=i)(u:i<l.length)(j:∀x,x∈l->l[i.toNat]?=some x->Ok (f x) Q):Ok (ck (cm l i) f) Q:=by
 have h:i.toNat<l.length:=by omega
 have e:cm l i=some l[i.toNat]:=by simp[cm,a,h]
 rw[e];exact j _ (dM h) (by simp[h])
def P2{l:cq}{a b:Int}{f:cq->Option R}(e:0<=a)(j:a<=b)(u:b<=l.length)(x:Ok (f ((l.drop a.toNat).take (b.toNat-a.toNat))) Q):Ok (ck (fF l a b) f) Q:=by
 rw[show fF l a b=some _ by unfold fF;rw[cM ⟨e,j,u⟩]];exact x
def xF{l:List α}{a b:Int}{f:List α->Option R}(e:0<=a)(j:a<=b)(u:b<=l.length)(x:Ok (f ((l.drop a.toNat).take (b.toNat-a.toNat))) Q):Ok (ck (ff l a b) f) Q:=by
 rw[show ff l a b=some _ by unfold ff;rw[cM ⟨e,j,u⟩]];exact x
def fW{k:Nat}{a b:List α}(h:a.length+b.length<=2^32)(e:k<=1000):cZ k a b=some (a++b):=by
 unfold cZ;rw[cM];have:2*(a.length+b.length)*k<=2*(2^32)*1000:=Ml (by omega) e;omega
def fc{k:Nat}{a b:List α}{f:List α->Option R}(h:a.length+b.length<=2^32)(e:k<=1000)(j:Ok (f (a++b)) Q):Ok (ck (cZ k a b) f) Q:=by
 rw[fW h e];exact j
def fR{a b:cq}(h:a.length+b.length<=2^40):da a b=some (a++b):=by
 unfold da;rw[cN];have:IntKind.i64.max=9223372036854775807:=rfl;omega
def ag3{a b:cq}{f:cq->Option R}(h:a.length+b.length<=2^40)(e:Ok (f (a++b)) Q):Ok (ck (da a b) f) Q:=by
 rw[fR h];exact e
def tN{a b:Int}{f:Int->Option R}(h:0<b)(e:0<=a)(u:a<2^62)(j:Ok (f (a/b)) Q):Ok (ck (jT .i64 a b) f) Q:=by
 have:a/b<=a:=HL b e;have x:0<=a/b:=DP e (by omega);rw[show jT .i64 a b=some (a/b) by unfold jT;rw[cN (by omega),IntKind.wrap_i64,ZO e];congr 1;omega];exact j
def tO{a b:Int}{f:Int->Option R}(h:0<b)(e:0<=a)(j:Ok (f (a % b)) Q):Ok (ck (kg a b) f) Q:=by
 rw[show kg a b=some (a % b) by unfold kg;rw[cN (by omega),QU e]];exact j
end
def jb{a b:Int}(e:-4611686018427387904<=a)(j:a<=4611686018427387903)(u:-4611686018427387904<=b)(x:b<=4611686018427387903):cz .i64 a b=a+b:=by rw[vd];omega
def mb{a b:Int}(e:-4611686018427387904<=a)(j:a<=4611686018427387903)(u:-4611686018427387904<=b)(x:b<=4611686018427387903):cX .i64 a b=a-b:=by rw[iE];omega
def ny{a b:Int}(h:-9223372036854775808<=a*b/\a*b<=9223372036854775807):eM .i64 a b=a*b:=by unfold eM;rw[IntKind.wrap_i64];omega
def ag4{a b:Int}(j:0<=a)(D:a<2^62)(u:0<=b)(E:b<2^62):0<=fe .i64 a b/\fe .i64 a b<2^62:=by
 obtain⟨x,rfl⟩:=hV j;obtain⟨y,rfl⟩:=hV u;have hx:x<2^62:=by omega
 have A:y<2^62:=by omega
 have F:=Nat.xor_lt_two_pow hx A;have e:fe .i64 x y=((x^^^y:Nat):Int):=by
  unfold fe
  have C:IntKind.i64.bits=64:=rfl
  simp only[C,BitVec.ofInt_natCast,BitVec.toNat_xor,BitVec.toNat_ofNat,AA (show x<2^64 by omega),AA (show y<2^64 by omega)]
  rw[IntKind.wrap_i64]
  omega
 rw[e];omega
structure dU(N:Int)(r:Rd):Prop where
 b:∀x∈r.b,0<=x/\x<256
 l:r.b.length<=2000
 lo:0<=r.p
 hi:r.p<=N
def dU.mono{N M:Int}{r:Rd}(h:dU N r)(a:N<=M):dU M r:=⟨h.b,h.l,h.lo,by have:=h.hi;omega⟩
def OE{n:Nat}{N k:Int}{r:Rd}(h:dU N r)(hN:N<=1000000000000):Ok (cS n r k) λx=>(0<k->0<=x.1/\x.1<k)/\(k<=0->x.1=0)/\dU (N+1) x.2:=by
 have u:=h.lo;have h2:=h.hi;have h3:=h.l;have A:∀r',r'=Rd.mk r.b (cz .i64 r.p 1)->dU (N+1) r':=λr' e=>by
  subst e
  exact⟨h.b,h.l,by show 0<=cz .i64 r.p 1;rw[jb]<;>omega,by show cz .i64 r.p 1<=_;rw[jb]<;>omega⟩
 have H:cX .i64 (cz .i64 r.p 1) 1=r.p:=by rw[vd,iE];omega
 unfold cS;rw[H];refine eu (λI=>cH ⟨λ_=>by omega,λ_=>rfl,A _ rfl⟩) λI=>dr (λ_=>cH ⟨λ_=>by show(0:Int)<=0/\(0:Int)<k;omega,λ_=>rfl,A _ rfl⟩) λJ=>eu (λE=>?_) λE=>?_
 ·refine iX u (by simpa[go_sem] using E) λx hx _=>?_;have F:=h.b x hx;have:eY .i64 x=x:=by unfold eY;rw[IntKind.wrap_i64];omega
  rw[this];refine tO (by omega) F.1 (cH ⟨λ_=>⟨DQ _ (by omega),DR _ (by omega)⟩,λ_=>by omega,A _ rfl⟩)
 ·have j:0<cA r.b:=by simp only[go_sem] at J⊢;omega
  have M:cA r.b<=2000:=by simp only[go_sem];omega
  refine tO j u (iX (DQ _ (by omega)) (DR _ j) λx hx _=>?_);have F:=h.b x hx;have P:eM .i64 r.p 7=r.p*7:=ny (by omega);rw[P,jb (by omega) (by omega) (by omega) (by omega)];refine tO j (by omega) (iX (DQ _ (by omega)) (DR _ j) λy S _=>?_);have hc:=h.b y S;refine tN j u (by omega) ?_;have C:0<=r.p/cA r.b:=DP u (by omega);have D:r.p/cA r.b<=r.p:=HL _ u;generalize hz:r.p/cA r.b=z at C D⊢;have U:eY .i64 x=x:=by unfold eY;rw[IntKind.wrap_i64];omega
  have Y:eY .i64 y=y:=by unfold eY;rw[IntKind.wrap_i64];omega
  have Z:cz .i64 (cz .i64 (cz .i64 (eM .i64 (eY .i64 x) 131) (eM .i64 (eY .i64 y) 1117)) (eM .i64 r.p 29)) (eM .i64 z 53)=x*131+y*1117+r.p*29+z*53:=by
   rw[U,Y,ny (by omega),ny (by omega),ny (by omega),ny (by omega),vd,vd,vd];omega
  rw[Z];refine tN (by omega) (by omega) (by omega) ?_;have hv:=ag4 (a:=x*131+y*1117+r.p*29+z*53) (b:=(x*131+y*1117+r.p*29+z*53)/64) (by omega) (by omega) (by omega) (by omega);exact tO (by omega) hv.1 (cH ⟨λ_=>⟨DQ _ (by omega),DR _ (by omega)⟩,λ_=>by omega,A _ rfl⟩)
def ei{R:Type}{Q:R->Prop}{n:Nat}{N k:Int}{r:Rd}{f:Int×Rd->Option R}(h:dU N r)(j:N<=1000000000000)(a:0<k)(K:∀x e,0<=x->x<k->dU (N+1) e->Ok (f (x,e)) Q):Ok (ck (cS n r k) f) Q:=dq (OE h j) λx hx=>K x.1 x.2 (hx.1 a).1 (hx.1 a).2 hx.2.2
def Ag{R:Type}{Q:R->Prop}{n:Nat}{N:Int}{r:Rd}{list:List cq}{f:cq×Rd->Option R}(h:dU N r)(e:N<=1000000000000)(D:0<list.length)(K:∀x a,x∈list->dU (N+1) a->Ok (f (x,a)) Q):Ok (ck (mX n r list) f) Q:=by
 refine dq (P:=λx=>x.1∈list/\dU (N+1) x.2) ?_ λx hx=>K x.1 x.2 hx.1 hx.2;unfold mX;exact ei h e (by simp only[go_sem];omega) λx a j u A=>iX j (by simpa[go_sem] using u) λy C _=>cH ⟨C,A⟩
end
section
section
variable{n:Nat}{l:cG}{cu:Int}
def fM(cu:Int):List dy->Nat
 |[]=>0
 |h::a=>if h.cu<cu then fM cu a+1 else 0
def jR(cu:Int)(a:List dy):Bool:=(a[fM cu a]?).any λh=>decide (h.cu=cu)
def FT:∀{hs:List dy},fM cu hs<=hs.length
 |[]=>iN _
 |h::hs=>by
  have:=FT (hs:=hs);simp only[fM,gy];split<;>omega
def IH{h:dy}{a:List dy}:fM cu (h::a)=if h.cu<cu then fM cu a+1 else 0:=rfl
def af6{k:Int->Int->cG->Option (Int×Bool)}(e:l.holds.length<2^30)(u:2^41<=n):yY n n cu 0 l k=k cu (fM cu l.holds:Nat) l:=by
 have:=Lg e (L:=λm i=>yY n m cu i l k) (G:=λi=>k cu ((i+fM cu (l.holds.drop i):Nat):Int) l)
  (λm=>by simp[go_sem,yY,fM]) (λm i a j=>by
    simp only[go_sem,yY,dA a,a,j]
    rw[ly a,IH]
    by_cases h:l.holds[i].cu<cu
    ·rw[cM h,cM h];congr 2;omega
    ·rw[cN h,cN h];rfl) (m:=n) (by omega);simpa using this
def O2(a:l.holds.length<2^30)(e:2^41<=n):Cu n l cu=some (((fM cu l.holds:Nat):Int),jR cu l.holds):=by
 unfold Cu jR;rw[af6 a e]
 by_cases h:fM cu l.holds<l.holds.length
 ·simp[go_sem,dA h,h]
 ·simp[go_sem,h,nI (show l.holds.length<=fM cu l.holds by omega)]
def mR(l:cG)(c:Nat):Int:=rh l c+fA (mg c) l.holds
def oX(l:cG)(c:Nat):Int:=fA (mK c) l.holds
def KV(h:il l)(c:Nat):used l c=mR l c/\nU l.holds c 0=oX l c:=
 Of h.s3 h.cap.2 h.yg h.h6 (λx hx=>by have:=h.hold x hx;have:=h.cap;omega) c
def F8{e:Type}{f:e->Int}{xs:List e}(h:∀x∈xs,0<=f x):0<=fA f xs:=by
 have:=O1 (a:=0) h;omega
def O3(c:Int)(h:dy):0<=mg c h:=by unfold mg;split<;>omega
def O4(c:Int)(h:dy):0<=mK c h:=by unfold mK;split<;>omega
def adj(h:il l)(c:Nat):0<=rh l c:=F8 λx hx=>(Ui h.s3 h.cap.2 h.yg x (HK hx)).1
def af7(h:il l)(c:Nat):0<=mR l c:=by
 have a:=adj h c;have e:=F8 (f:=mg c) (xs:=l.holds) λx _=>O3 c x;unfold mR;omega
def af8(c:Nat):0<=oX l c:=F8 λx _=>O4 c x
def tK(h:il l){c:Nat}(a:c<3):0<=gI l.dJ c/\gI l.dJ c<=l.cap/\0<=gI l.dD c/\gI l.dD c<=l.cap:=by
 have:=h.yg c a;simp only[rq,dF,dQ] at this;omega
def iW(l:cG)(c:Nat):Int:=(List.range (c+1)).foldl (λx i=>min x (gI l.dJ i-mR l i)) l.cap
def O5{f:Nat->Int}{z:Int}:∀(a:List Nat)(x:Int),z<=a.foldl (λx i=>min x (f i)) x↔z<=x/\∀j∈a,z<=f j
 |[],x=>by simp
 |y::u,x=>by
  rw[vZ,O5 u];simp only[eG,forall_eq_or_imp];constructor
  ·rintro⟨A,e⟩;exact⟨by omega,by omega,e⟩
  ·rintro⟨A,e,C⟩;exact⟨by omega,C⟩
def Kw{c:Nat}{z:Int}:z<=iW l c↔z<=l.cap/\∀j,j<=c->z<=gI l.dJ j-mR l j:=by
 unfold iW;rw[O5];simp only[yk];constructor
 ·exactλh=>⟨h.1,λj a=>h.2 j (by omega)⟩
 ·exactλh=>⟨h.1,λj a=>h.2 j (by omega)⟩
def aaO{c:Nat}{r:Int}(h:∀z,z<=r↔z<=l.cap/\∀j,j<=c->z<=gI l.dJ j-mR l j):r=iW l c:=by
 have a:=(h r).1 (Zn _);have e:=Kw.2 a;have u:=(h _).2 (Kw.1 (Zn (iW l c)));omega
def VI(h:il l){c:Nat}(a:c<=2):0<=iW l c:=by
 refine Kw.2 ⟨by have:=h.cap;omega,λj e=>?_⟩;have:=(h.iW j (by omega)).1;unfold mR;omega
def O6(h:il l){c:Nat}(a:c<3):0<=mR l c/\mR l c<=gI l.dJ c/\mR l c<=9:=by
 have e:=af7 h c;have j:=(h.iW c a).1;have u:=tK h a;have:=h.cap;unfold mR at*;omega
def VJ(h:il l){c:Nat}(a:c<3):0<=oX l c/\oX l c<=gI l.dD c/\oX l c<=9:=by
 have e:=af8 (l:=l) c;have j:=(h.iW c a).2;have u:=tK h a;have:=h.cap;unfold oX at*;omega
def P3{k:Int->Option Int}(h:il l)(u:2^41<=n){c:Nat}(y:c<=2):∀m j x,j<=c+1->c+1<m+j->yZ n m c x j l k=k ((List.range' j (c+1-j)).foldl (λx i=>min x (gI l.dJ i-mR l i)) x)
 |0,j,x,A,C=>by omega
 |m+1,j,x,A,C=>by
  by_cases E:j<=c
  ·have F:=O6 h (show j<3 by omega);have H:=tK h (show j<3 by omega);have I:=h.cap;have e:cX .i64 (gI l.dJ j) (mR l j)=gI l.dJ j-mR l j:=mb (by omega) (by omega) (by omega) (by omega);have a:(j:Int)<=c:=by omega
   have D:j<l.dJ.length:=by have:=h.l3;omega
   simp only[yZ,gR,go_sem,a,eP D 0,VE h.s3 (show l.holds.length<2^30 by have:=h.h6;omega) u (show j<=3 by omega),(KV h j).1];change (if cX .i64 (gI l.dJ j) (mR l j)<x then _ else _)=_;rw[e,dO (by omega),P3 h u y m (j+1) _ (by omega) (by omega),P3 h u y m (j+1) _ (by omega) (by omega),show c+1-j=(c+1-(j+1))+1 by omega,QL,vZ];split
   ·rw[QV (by omega)]
   ·rw[QW (by omega)]
  ·have:j=c+1:=by omega
   subst this;have a:¬ (((c+1:Nat):Int)<=c):=by omega
   simp only[yZ,gR,go_sem,a,vX,List.range'_zero,HB]
def VK(h:il l)(a:2^41<=n){c:Nat}(e:c<=2):Cv n l c=some (iW l c):=by
 unfold Cv iW;have:=P3 (k:=some) h a e n 0 l.cap (by omega) (by omega);rw[ZD];exact this
def p7(l:cG):Int:=gI l.eH (min (iW l 0) (l.eH.length-1)).toNat
def af9(h:il l)(e:2^41<=n):Kn n l=some (p7 l):=by
 have j:=VI h (show 0<=2 by omega);have u:=h.b;unfold Kn p7;rw[show(0:Int)=((0:Nat):Int) from rfl,VK h e (by omega)];simp only[go_sem];split
 ·rw[QV (by omega),Sb (by omega) (by omega) (by omega) (by omega)];rw[show((l.eH.length:Int)-1)=((l.eH.length-1:Nat):Int) by omega,eP (by omega) 0];simp[cw]
 ·rw[QW (by omega)];obtain⟨r,a⟩:=hV j;rw[a,eP (by omega) 0];simp[cw]
def sI(l:cG)(h:dy)(a:Int):Bool:=!jR h.cu l.holds&&(!decide ((6:Int)<=l.holds.length)&&(decide (1<=h.cu/\h.cu<=99)&&(decide (0<=h.dh/\h.dh<=2)&&(!decide (h.cV=0)&&(decide (-l.cap<=h.cV/\h.cV<=l.cap)&&
 (if 0<h.cV then decide (h.cV<=iW l h.dh.toNat)&&decide (p7 l<=a) else decide (-h.cV<=gI l.dD h.dh.toNat-oX l h.dh.toNat)))))))
def n4(h:dy)(a:List dy):List dy:=a.take (fM h.cu a)++[h]++a.drop (fM h.cu a)
def xG(l:cG)(h:dy):cG:={l with holds:=n4 h l.holds}
def WG{R:Type}{h:dy}{hs:List dy}(x:hs.length<=6)(f:List dy->Option R):(ck (ff hs 0 (fM h.cu hs:Nat)) λa=>ck (cZ 24 [] a) λe=>ck (cZ 24 e [h]) λj=>ck (ff hs (fM h.cu hs:Nat) (cA hs)) λu=>ck (cZ 24 j u) f)=f (n4 h hs):=by
 have:=FT (cu:=h.cu) (hs:=hs);rw[show ff hs 0 (fM h.cu hs:Nat)=some (hs.take (fM h.cu hs)) by unfold ff;rw[cM (by omega)];simp,
  show ff hs (fM h.cu hs:Nat) (cA hs)=some (hs.drop (fM h.cu hs)) by unfold ff cA;rw[cM (by omega)];simp[AE]];simp only[cw];rw[fW (by simp;omega) (by omega)];simp only[cw,iC];rw[fW (by simp;omega) (by omega)];simp only[cw];rw[fW (by simp;omega) (by omega)];rfl
def ae1{h:dy}{a:Int}(u:il l)(J:2^41<=n):JM n l h a=some (if sI l h a=true then(xG l h,true) else(l,false)):=by
 have hc:=u.cap;have Q:=u.h6;unfold JM sI xG;rw[O2 (by omega) J];simp only[cw]
 by_cases x:jR h.cu l.holds=true
 ·simp[x]
 rw[qd] at x
 by_cases C:(6:Int)<=l.holds.length
 ·simp[x,C,go_sem]
 by_cases E:1<=h.cu/\h.cu<=99
 rotate_left
 ·simp[x,C,E,go_sem]
 by_cases F:0<=h.dh/\h.dh<=2
 rotate_left
 ·simp[x,C,E,F,go_sem]
 by_cases N:h.cV=0
 ·simp[x,C,E,F,N,go_sem]
 by_cases R:-l.cap<=h.cV/\h.cV<=l.cap
 rotate_left
 ·simp[x,C,E,F,N,R,go_sem,wG (show-1000000<=l.cap by omega) (by omega)]
 obtain⟨c,y⟩:=hV F.1;have P:c<=2:=by omega
 have b1:=tK u (show c<3 by omega);have b2:=VJ u (show c<3 by omega);have S:Cv n l h.dh=some (iW l c):=by rw[y];exact VK u J P
 have U:cm l.dD h.dh=some (gI l.dD c):=by rw[y];exact eP (by have:=u.s3;omega) 0
 have Y:zw n l h.dh=some (oX l c):=by rw[VF (by omega) J,y,(KV u c).2]
 have Z:h.dh.toNat=c:=by omega
 have e5:cX .i64 (gI l.dD c) (oX l c)=gI l.dD c-oX l c:=mb (by omega) (by omega) (by omega) (by omega);have e6:gG .i64 h.cV=-h.cV:=wG (by omega) (by omega);simp only[S,U,Y,Z,e5,e6,af9 u J,cw,x,cR,go_sem,C,E,F,N,wG (show-1000000<=l.cap by omega) (show l.cap<=1000000 by omega),R,iO,gE,hY,eW,gi,gQ,nJ,jB]
 by_cases H:0<h.cV
 ·have M:¬ h.cV<0:=by omega
  by_cases D:h.cV<=iW l c
  ·have e:¬ iW l c<h.cV:=by omega
   by_cases I:p7 l<=a
   ·have j:¬ a<p7 l:=by omega
    simp[H,M,D,e,I,j];exact WG Q (λA=>some ({l with holds:=A},true))
   ·have j:a<p7 l:=by omega
    simp[H,D,e,I,j]
  ·have e:iW l c<h.cV:=by omega
   simp[H,D,e]
 ·have M:h.cV<0:=by omega
  generalize gI l.dD c-oX l c=z
  by_cases D:-h.cV<=z
  ·have e:¬ z< -h.cV:=by omega
   simp[H,M,D,e];exact WG Q (λA=>some ({l with holds:=A},true))
  ·have e:z< -h.cV:=by omega
   simp[H,M,D,e]
end
end
section
section
variable{n:Nat}{l:cG}{cu:Int}
abbrev sX(e:List dy):Prop:=e.Pairwise (λa b=>a.cu<b.cu)
def Ny:∀{j:List dy},sX j->∃a b,j=a++b/\fM cu j=a.length/\(∀x∈a,x.cu<cu)/\(∀x∈b,cu<=x.cu)
 |[],_=>⟨[],[],rfl,rfl,by simp,by simp⟩
 |h::j,u=>by
  obtain⟨y,A⟩:=AB.1 u
  by_cases c:h.cu<cu
  ·obtain⟨a,b,e,C,D,E⟩:=Ny A;refine⟨h::a,b,by rw[e];rfl,by rw[IH,cM c,C];rfl,λx hx=>?_,E⟩;rcases eG.1 hx with rfl|hx
   ·exact c
   ·exact D x hx
  ·refine⟨[],h::j,rfl,by rw[IH,cN c];rfl,by simp,λx hx=>?_⟩;rcases eG.1 hx with rfl|hx
   ·omega
   ·have:=y x hx;omega
def EP{u:List dy}(j:sX u)(h:jR cu u=true):∃a x b,u=a++x::b/\fM cu u=a.length/\x.cu=cu/\(∀y∈a,y.cu<cu)/\(∀y∈b,cu<y.cu):=by
 obtain⟨a,b,e,A,C,E⟩:=Ny (cu:=cu) j;unfold jR at h;rw[A] at h;cases b with
 |nil=>subst e;simp at h
 |cons x b=>
  subst e;simp at h;refine⟨a,x,b,rfl,A,h,C,λy D=>?_⟩;have:=(AB.1 (AD.1 j).2.1).1 y D;omega
def Sc{u:List dy}(j:sX u)(h:jR cu u=false):∃a b,u=a++b/\fM cu u=a.length/\(∀y∈a,y.cu<cu)/\(∀y∈b,cu<y.cu):=by
 obtain⟨a,b,e,C,D,E⟩:=Ny (cu:=cu) j;refine⟨a,b,e,C,D,λy A=>?_⟩;unfold jR at h;rw[C] at h;cases b with
 |nil=>simp at A
 |cons x b=>
  subst e;simp at h;have hx:=E x (by simp);rcases eG.1 A with rfl|A
  ·omega
  ·have:=(AB.1 (AD.1 j).2.1).1 y A;omega
def Og{u:List dy}(j:sX u):jR cu u=true↔∃x∈u,x.cu=cu:=by
 constructor
 ·intro h;obtain⟨a,x,b,e,_,y,_⟩:=EP j h;exact⟨x,by rw[e];simp,y⟩
 ·rintro⟨x,hx,C⟩;cases h:jR cu u with
  |true=>rfl
  |false=>
   obtain⟨a,b,e,_,y,A⟩:=Sc j h;rw[e] at hx;rcases eJ.1 hx with hx|hx
   ·have:=y x hx;omega
   ·have:=A x hx;omega
def O7(c:Int)(h:dy):mg c h=if c<=h.dh/\0<h.cV then h.cV else 0:=rfl
def O8(c:Int)(h:dy):mK c h=if h.dh=c/\h.cV<0 then-h.cV else 0:=rfl
def aaP{h:dy}{a b:List dy}(e:fM h.cu (a++b)=a.length):n4 h (a++b)=a++h::b:=by
 unfold n4;rw[e];simp
def Uk{f:dy->Int}{h:dy}{a:List dy}:fA f (n4 h a)=fA f a+f h:=by
 unfold n4;have:fA f a=fA f (a.take (fM h.cu a))+fA f (a.drop (fM h.cu a)):=by rw[<-FR,ZP]
 rw[FR,FR,this];simp only[fA];omega
def Ul{h:dy}{hs:List dy}:(n4 h hs).length=hs.length+1:=by
 have:=FT (cu:=h.cu) (hs:=hs);simp only[n4,fg,kI,nn,uE];omega
def adk{h x:dy}{a:List dy}:x∈n4 h a↔x∈a\/x=h:=by
 unfold n4;rw[eJ,eJ,gf];have:x∈a↔x∈a.take (fM h.cu a)\/x∈a.drop (fM h.cu a):=by rw[<-eJ,ZP]
 rw[this];constructor
 ·rintro((h|h)|h)
  ·exact .inl (.inl h)
  ·exact .inr h
  ·exact .inl (.inr h)
 ·rintro((h|h)|h)
  ·exact .inl (.inl h)
  ·exact .inr h
  ·exact .inl (.inr h)
def adl{h:dy}{u:List dy}(j:sX u)(C:jR h.cu u=false):sX (n4 h u):=by
 obtain⟨a,b,e,D,E,F⟩:=Sc j C;subst e;rw[aaP D];obtain⟨H,I,J⟩:=AD.1 j;refine AD.2 ⟨H,AB.2 ⟨F,I⟩,λx hx y A=>?_⟩;rcases eG.1 A with rfl|A
 ·exact E x hx
 ·exact J x hx y A
def O9{h:dy}{a:Int}(u:il l)(A:sI l h a=true):il (xG l h):=by
 simp only[sI,dF,dQ,lO,lA] at A;obtain⟨E,R,F,H,I,J,e⟩:=A;refine{u with h6:=?_,hold:=?_,mQ:=adl u.mQ E,iW:=?_}
 ·show(n4 h l.holds).length<=6;rw[Ul];omega
 ·intro x hx;rcases adk.1 hx with hx|rfl
  ·exact u.hold x hx
  ·exact⟨F,H,I,J⟩
 ·intro j M;have C:=u.iW j M;show rh l j+fA (mg j) (n4 h l.holds)<=gI l.dJ j/\fA (mK j) (n4 h l.holds)<=gI l.dD j;rw[Uk,Uk]
  by_cases D:0<h.cV
  ·rw[cM D] at e;simp only[dF,dQ] at e;have N:=Kw.1 e.1;have P:mK j h=0:=by rw[O8];rw[cN (by omega)]
   refine⟨?_,by rw[P];omega⟩;rw[O7];split
   ·rename_i y;have:=N.2 j (by omega);unfold mR at this;omega
   ·have:=C.1;omega
  ·rw[cN D] at e;simp only[dQ] at e;have Q:mg j h=0:=by rw[O7];rw[cN (by omega)]
   refine⟨by rw[Q];omega,?_⟩;rw[O8];split
   ·rename_i y;have:h.dh.toNat=j:=by omega
    rw[this] at e;unfold oX at e;omega
   ·have:=C.2;omega
def km(cu:Int)(a:List dy):List dy:=if jR cu a=true then a.take (fM cu a)++a.drop (fM cu a+1) else a
def oK(l:cG)(cu:Int):cG:={l with holds:=km cu l.holds}
abbrev oe(a:List dy)(cu:Int):dy:=gH a (fM cu a)
def pR(a:List Int)(i x:Int):List Int:=du a i (cz .i64 (gI a i.toNat) x)
def qs(l:cG)(cu:Int):cG:=if jR cu l.holds=true then{oK l cu with dD:=pR l.dD (oe l.holds cu).dh (oe l.holds cu).cV} else l
def Na{a b:List dy}{x:dy}(e:fM cu (a++x::b)=a.length)(hx:x.cu=cu):km cu (a++x::b)=a++b:=by
 unfold km;have:jR cu (a++x::b)=true:=by
  unfold jR
  rw[e]
  simp[hx]
 rw[cM this,e];simp
def Oh{x:dy}{hs:List dy}(j:sX hs):x∈km cu hs↔x∈hs/\x.cu≠cu:=by
 cases u:jR cu hs with
 |true=>
  obtain⟨a,y,b,e,C,A,D,E⟩:=EP j u;subst e;rw[Na C A];simp only[eJ,eG];constructor
  ·rintro(h|h)
   ·exact⟨.inl h,by have:=D x h;omega⟩
   ·exact⟨.inr (.inr h),by have:=E x h;omega⟩
  ·rintro⟨h|h|h,F⟩
   ·exact .inl h
   ·subst h;exact absurd A F
   ·exact .inr h
 |false=>
  have:km cu hs=hs:=by unfold km;rw[cN (by simp[u])]
  rw[this];refine⟨λh=>⟨h,λe=>?_⟩,λh=>h.1⟩;have:=(Og j).2 ⟨x,h,e⟩;rw[u] at this;cases this
def adm{hs:List dy}(j:sX hs):sX (km cu hs):=by
 cases u:jR cu hs with
 |true=>
  obtain⟨a,y,b,e,A,C,I,J⟩:=EP j u;subst e;rw[Na A C];obtain⟨D,E,F⟩:=AD.1 j;exact AD.2 ⟨D,(AB.1 E).2,λx hx y H=>F x hx y (by simp[H])⟩
 |false=>
  have:km cu hs=hs:=by unfold km;rw[cN (by simp[u])]
  rw[this];exact j
def zA{f:dy->Int}{j:List dy}(u:sX j)(C:jR cu j=true):fA f (km cu j)=fA f j-f (oe j cu)/\oe j cu∈j/\(oe j cu).cu=cu:=by
 obtain⟨a,y,b,e,x,A,D,E⟩:=EP u C;subst e;have:oe (a++y::b) cu=y:=by
  unfold oe
  rw[x,xE (by simp)]
  simp
 rw[Na x A,this];refine⟨by simp only[FR,fA];omega,by simp,A⟩
def Um{hs:List dy}:(km cu hs).length<=hs.length:=by
 unfold km;split
 ·simp only[fg,kI,nn];omega
 ·omega
def Pb(a:il l):il (oK l cu):=by
 cases e:jR cu l.holds with
 |false=>
  have:oK l cu=l:=by unfold oK km;rw[cN (by simp[e])]
  rw[this];exact a
 |true=>
  refine{a with h6:=?_,hold:=?_,mQ:=adm a.mQ,iW:=?_}
  ·have:=Um (cu:=cu) (hs:=l.holds);have:=a.h6;show(km cu l.holds).length<=6;omega
  ·exactλx hx=>a.hold x ((Oh a.mQ).1 hx).1
  ·intro j u;have y:=a.iW j u;show rh l j+fA (mg j) (km cu l.holds)<=gI l.dJ j/\fA (mK j) (km cu l.holds)<=gI l.dD j;rw[(zA a.mQ e).1,(zA a.mQ e).1];have:=O3 j (oe l.holds cu);have:=O4 j (oe l.holds cu);omega
def three{e:List Int}(h:e.length=3):e=[gI e 0,gI e 1,gI e 2]:=by
 match e,h with
 |[a,b,c],_=>rfl
def ae2{a:List Int}{i x:Int}(h:a.length=3)(E:0<=i)(J:i<=2)(y:∀j,j<3->0<=gI a j/\gI a j<=9)(hx:-9<=x/\x<=9):(pR a i x).length=3/\(∀j:Nat,j<3->gI (pR a i x) j=gI a j+if(j:Int)=i then x else 0)/\∀j:Nat,j<3->fA id ((pR a i x).drop j)=fA id (a.drop j)+if(j:Int)<=i then x else 0:=by
 obtain⟨c,rfl⟩:=hV E;have M:=y 0 (by omega);have N:=y 1 (by omega);have P:=y 2 (by omega);have e:=three h;generalize Q:gI a 0=A at*;generalize F:gI a 1=C at*;generalize R:gI a 2=D at*;subst e;have u:c=0\/c=1\/c=2:=by omega
 have H:pR [A,C,D] (c:Nat) x=[A,C,D].set c (gI [A,C,D] c+x):=by
  unfold pR du
  rw[fH,EO _ _ (by omega) (by omega)]
  ·rcases u with rfl|rfl|rfl<;>simp[gI]<;>omega
  ·rcases u with rfl|rfl|rfl<;>simp[gI]<;>omega
 rw[H];refine⟨by simp,λj I=>?_,λj I=>?_⟩
 ·have:j=0\/j=1\/j=2:=by omega
  rcases u with rfl|rfl|rfl<;>rcases this with rfl|rfl|rfl<;>simp[gI]
 ·have:j=0\/j=1\/j=2:=by omega
  rcases u with rfl|rfl|rfl<;>rcases this with rfl|rfl|rfl<;>simp[gI,fA]<;>omega
def VL(A:il l):il (qs l cu):=by
 unfold qs;split
 rotate_left
 ·exact A
 rename_i E;have S:=Pb (cu:=cu) A;obtain⟨_,U,ht⟩:=zA (f:=λ_=>0) A.mQ E;generalize hx:oe l.holds cu=x at*;have J:=A.hold x U;have M:=A.cap;have F:∀j,j<3->0<=gI l.dD j/\gI l.dD j<=9:=λj a=>by have:=tK A a;omega
 obtain⟨N,Y,Z⟩:=ae2 (x:=x.cV) A.s3 J.2.1.1 J.2.1.2 F (by omega);have H:∀j:Nat,j<3->rh l j+fA (mg j) l.holds<=gI l.dJ j/\fA (mK j) l.holds<=gI l.dD j:=λj a=>A.iW j a;have sp:∀j:Nat,fA (mg j) (km cu l.holds)=fA (mg j) l.holds-mg j x:=λj=>by rw[(zA A.mQ E).1,hx]
 have sn:∀j:Nat,fA (mK j) (km cu l.holds)=fA (mK j) l.holds-mK j x:=λj=>by rw[(zA A.mQ E).1,hx]
 have u:∀j:Nat,j<3->fA id ((pR l.dD x.dh x.cV).drop j)+fA (mg j) (km cu l.holds)<=gI l.dJ j/\fA (mK j) (km cu l.holds)<=gI (pR l.dD x.dh x.cV) j:=λj a=>by
  rw[Z j a,Y j a,sp,sn]
  have:=H j a
  have e:fA id (l.dD.drop j)=rh l j:=rfl
  rw[e]
  rw[O7,O8]
  constructor
  ·split<;>split<;>omega
  ·split<;>split<;>omega
 have P:∀j:Nat,j<3->0<=fA (mg j) (km cu l.holds)/\0<=fA (mK j) (km cu l.holds):=λj _=>⟨F8 λy _=>O3 j y,F8 λy _=>O4 j y⟩;have C:∀j:Nat,j<3->0<=gI (pR l.dD x.dh x.cV) j:=λj a=>by
  have:=(u j a).2
  have:=(P j a).2
  omega
 have I:∀j:Nat,j<3->gI (pR l.dD x.dh x.cV) j<=l.cap:=λj a=>by
  have D:=(u j a).1
  have Q:=(P j a).1
  have R:=(tK A a).2.1
  have h4:=three N
  have g0:=C 0 (by omega)
  have g1:=C 1 (by omega)
  have g2:=C 2 (by omega)
  generalize gI (pR l.dD x.dh x.cV) 0=a0 at*
  generalize gI (pR l.dD x.dh x.cV) 1=a1 at*
  generalize gI (pR l.dD x.dh x.cV) 2=a2 at*
  rw[h4] at D⊢
  have:j=0\/j=1\/j=2:=by omega
  rcases this with rfl|rfl|rfl<;>simp[gI,fA] at*<;>omega
 refine{S with s3:=N,yg:=?_,iW:=?_}
 ·intro j a;have D:=A.yg j a;have Q:=C j a;have R:=I j a;simp only[rq,dF,dQ] at D⊢;exact⟨D.1,Q,R⟩
 ·exact u
def VM(e:il l)(j:2^41<=n):FN n l cu=some (oK l cu):=by
 have x:=e.h6;unfold FN oK km;rw[O2 (by omega) j];simp only[cw]
 by_cases a:jR cu l.holds=true
 ·have u:fM cu l.holds<l.holds.length:=by
    unfold jR at a
    by_cases c:fM cu l.holds<l.holds.length
    ·exact c
    ·rw[nI (by omega)] at a;simp at a
  rw[a,cP,cM rfl,dO (by omega)];rw[show ff l.holds 0 (fM cu l.holds:Nat)=some (l.holds.take (fM cu l.holds)) by unfold ff;rw[cM (by omega)];simp,
   show ff l.holds ((fM cu l.holds+1:Nat):Int) (cA l.holds)=some (l.holds.drop (fM cu l.holds+1)) by unfold ff cA;rw[cM (by omega)];simp[AE]];simp only[cw];rw[fW (by simp;omega) (by omega)];simp only[cw,iC];rw[fW (by simp;omega) (by omega)];rfl
 ·rw[qd] at a;rw[a,cR,cN (by simp)]
def ae3(e:il l)(u:2^41<=n):JN n l cu=some (qs l cu):=by
 have E:=e.h6;unfold JN qs;rw[O2 (by omega) u];simp only[cw]
 by_cases a:jR cu l.holds=true
 ·have j:fM cu l.holds<l.holds.length:=by
    unfold jR at a
    by_cases c:fM cu l.holds<l.holds.length
    ·exact c
    ·rw[nI (by omega)] at a;simp at a
  obtain⟨_,x,F⟩:=zA (f:=λ_=>0) e.mQ a;have y:=e.hold _ x;have A:cm l.holds (fM cu l.holds:Nat)=some (oe l.holds cu):=eP j _;obtain⟨c,C⟩:=hV y.2.1.1;have H:=e.s3;have D:cm l.dD (oe l.holds cu).dh=some (gI l.dD (oe l.holds cu).dh.toNat):=by
   rw[C,fH]
   exact eP (by omega) 0
  rw[a,cM rfl,A,VM e u];simp only[cw,dT,eW,cR];rw[show(oK l cu).dD=l.dD from rfl,fW (by simp;omega) (by omega)];simp only[cw,iC,D];rfl
 ·rw[qd] at a;rw[a,cN (by simp)];rfl
end
end
end Go.Ev
namespace Go.Ev
open Go Go.Lib
section
def po{u:Nat}(h:u<10):decDigits u=[UInt8.ofNat (48+u)]:=by rw[decDigits,Mh h]
def sq{u:Nat}(h:¬ u<10):decDigits u=decDigits (u/10)++[UInt8.ofNat (48+u % 10)]:=by rw[decDigits,dif_neg h]
def zN{d:Nat}(h:d<10):(UInt8.ofNat (48+d)).toNat=48+d:=by
 rw[ZQ];omega
def wH:∀(u:Nat),∀c∈decDigits u,48<=c.toNat/\c.toNat<=57:=by
 intro u;induction u using Nat.strongRecOn with
 |_ u e=>
  by_cases h:u<10
  ·rw[po h];intro c a;rw[gf] at a;subst a;rw[zN h];omega
  ·rw[sq h];intro c a;rcases eJ.1 a with a|a
   ·exact e _ (by omega) c a
   ·rw[gf] at a;subst a;rw[zN (by omega)];omega
def ve(u:Nat):decDigits u≠[]:=by
 by_cases h:u<10
 ·rw[po h];simp
 ·rw[sq h];simp
def B6:∀(k u:Nat),u<10^k->1<=k->(decDigits u).length<=k:=by
 intro k;induction k with
 |zero=>intro u _ h;omega
 |succ k a=>
  intro u h _
  by_cases c:u<10
  ·rw[po c];simp
  ·rw[sq c,fg,uE];have:u/10<10^k:=by rw[uF] at h;omega
   by_cases k0:k=0
   ·subst k0;omega
   ·have:=a (u/10) this (by omega);omega
def val(s:cq):Nat:=s.foldl (λa c=>a*10+(c.toNat-48)) 0
def Un(s:cq)(c:UInt8):val (s++[c])=val s*10+(c.toNat-48):=by simp[val]
def VN:∀u:Nat,val (decDigits u)=u:=by
 intro u;induction u using Nat.strongRecOn with
 |_ u a=>
  by_cases h:u<10
  ·rw[po h];simp only[val,vZ,HB,zN h];omega
  ·rw[sq h,Un,a _ (by omega),zN (by omega)];omega
def Pc{u v:Nat}(h:decDigits u=decDigits v):u=v:=by rw[<-VN u,h,VN]
def nz(c:UInt8):Bool:=decide (48<=c.toNat/\c.toNat<=57)
def aga:∀(k:Nat)(s:cq),s.length=k->s≠[]->s.all nz=true->(1<s.length->s.head?≠some 48)->s=decDigits (val s):=by
 intro k;induction k with
 |zero=>intro s h u;exact absurd (og.1 h) u
 |succ k D=>
  intro s E u A F;obtain⟨a,c,rfl⟩:∃a c,s=a++[c]:=⟨s.dropLast,s.getLast u,(List.dropLast_concat_getLast u).symm⟩;rw[List.all_append,dF] at A;have N:48<=c.toNat/\c.toNat<=57:=by simpa[nz] using A.2
  have j:UInt8.ofNat (48+(c.toNat-48))=c:=by
   have:48+(c.toNat-48)=c.toNat:=by omega
   rw[this];exact UInt8.ofNat_toNat
  rw[Un]
  by_cases y:a=[]
  ·subst y;have:val []=0:=rfl;rw[this,po (by omega),Hy,iB,j];rfl
  ·have P:0<a.length:=QX.2 y;have H:(a++[c]).head?=a.head?:=by cases a with|nil=>exact absurd rfl y|cons x a=>rfl
   have C:a.head?≠some 48:=by rw[<-H];exact F (by simp;omega)
   have e:=D a (by simpa using E) y A.1 λ_=>C;have Q:val a≠0:=by
    intro I
    rw[I,po (by omega)] at e
    rw[e] at C
    exact C rfl
   rw[sq (by omega)];have J:(val a*10+(c.toNat-48))/10=val a:=by omega
   have M:(val a*10+(c.toNat-48)) % 10=c.toNat-48:=by omega
   rw[J,M,<-e,j]
def adn:∀u:Nat,1<(decDigits u).length->(decDigits u).head?≠some 48:=by
 intro u;induction u using Nat.strongRecOn with
 |_ u A=>
  intro h
  by_cases c:u<10
  ·rw[po c] at h;simp at h
  ·rw[sq c];have j:=ve (u/10);have C:(decDigits (u/10)++[UInt8.ofNat (48+u % 10)]).head?=(decDigits (u/10)).head?:=by
    cases D:decDigits (u/10) with
    |nil=>exact absurd D j
    |cons x a=>rfl
   rw[C]
   by_cases y:u/10<10
   ·rw[po y];simp only[Mm,Mn,di];intro e;have:=congrArg UInt8.toNat e;rw[zN y] at this;have:(48:UInt8).toNat=48:=rfl;omega
   ·exact A _ (by omega) (by
     rw[sq y]
     have:=QX.2 (ve (u/10/10))
     simp;omega)
def eB(s:cq):Int:=if decide (1<=s.length/\s.length<=12)&&(!decide (1<s.length)||!decide (s.head?=some 48))&&s.all nz then(val s:Int) else-1
def WH:∀(s:cq),s.all nz=true->∀a:Nat,s.foldl (λa c=>a*10+(c.toNat-48)) a<(a+1)*10^s.length
 |[],_,a=>by simp
 |c::s,h,a=>by
  rw[Hz,dF] at h;have e:48<=c.toNat/\c.toNat<=57:=by simpa[nz] using h.1
  have:=WH s h.2 (a*10+(c.toNat-48));rw[vZ];refine Me this ?_;rw[gy,uF,v7 (10^s.length) 10,<-Nat.mul_assoc];exact mT _ (by omega)
def ER(s:cq):(∃v:Nat,s=decDigits v/\s.length<=12/\eB s=v/\v<1000000000000)\/(eB s=-1/\∀v:Nat,s=decDigits v->12<s.length):=by
 unfold eB
 by_cases h:(decide (1<=s.length/\s.length<=12)&&(!decide (1<s.length)||!decide (s.head?=some 48))&&s.all nz)=true
 ·rw[cM h];simp only[dF,yp,lO,dQ,lA] at h;refine .inl ⟨val s,aga _ s rfl (by rintro rfl;simp at h) h.2 (λD=>?_),h.1.1.2,rfl,?_⟩
  ·rcases h.1.2 with a|a
   ·omega
   ·exact a
  ·have:=WH s h.2 0;have A:10^s.length<=10^12:=v8 (by omega) h.1.1.2;unfold val;omega
 ·rw[cN h];refine .inr ⟨rfl,λv e=>?_⟩
  by_cases c:12<s.length
  ·exact c
  ·exfalso;apply h;have j:=QX.2 (ve v);have u:=wH v;have x:=adn v;rw[<-e] at j u x;simp only[dF,yp,lO,dQ,lA,jC];refine⟨⟨⟨j,by omega⟩,?_⟩,λc C=>by simpa[nz] using u c C⟩
   by_cases y:1<s.length
   ·exact .inr (x y)
   ·exact .inl y
def Cz{v:Nat}(h:v<1000000000000):eB (decDigits v)=v:=by
 rcases ER (decDigits v) with⟨u,e,_,a,_⟩|⟨_,a⟩
 ·rw[a,Pc e]
 ·have:=a v rfl;have:=B6 12 v (by omega) (by omega);omega
def Kx(s:cq):-1<=eB s/\eB s<1000000000000:=by
 rcases ER s with⟨v,_,_,e,h⟩|⟨e,_⟩<;>omega
section
variable{n:Nat}
def Pd:∀(k m u:Nat),u<10^k->k<=m->u<9223372036854775808->fb (m+1) u=some (decDigits u)
 |k,0,u,x,y,A=>by
  have:k=0:=by omega
  subst this;have:u=0:=by omega
  subst this;rw[po (by omega)];rfl
 |k,m+1,u,x,y,A=>by
  rw[fb];have e:¬ (u:Int)< -9223372036854775807:=by omega
  have j:¬ (u:Int)<0:=by omega
  by_cases c:u<10
  ·have a:(u:Int)<10:=by omega
   simp only[dE,e,j,a,gi,gQ,cP,cR];rw[po c,jb (by omega) (by omega) (by omega) (by omega)];simp only[je,eY,lz,s7,IntKind.wrap_u8];rw[show((48+(u:Int)) % 256).toNat=48+u by omega]
  ·have a:¬ (u:Int)<10:=by omega
   have C:jT .i64 (u:Int) 10=some ((u/10:Nat):Int):=by
    unfold jT
    rw[cN (by omega),IntKind.wrap_i64,ZO (by omega)]
    exact congrArg some (by omega)
   have D:kg (u:Int) 10=some ((u % 10:Nat):Int):=by
    unfold kg
    rw[cN (by omega),QU (by omega)]
    exact congrArg some (by omega)
   have F:1<=k:=by
    rcases Nat.eq_zero_or_pos k with h|h
    ·subst h;omega
    ·exact h
   have E:=Pd (k-1) m (u/10) (by
    have:10^k=10^(k-1)*10:=by rw[<-uF];congr 1;omega
    omega) (by omega) (by omega);have H:=B6 19 (u/10) (by omega) (by omega);simp only[dE,e,j,a,gQ,cR,C,D,E,cw];rw[jb (by omega) (by omega) (by omega) (by omega)];simp only[je,eY,lz,s7,IntKind.wrap_u8];rw[fR (by simp;omega),sq c];simp only[cw];rw[show((48+((u % 10:Nat):Int)) % 256).toNat=48+u % 10 by omega]
def nO(u:Nat):itoa u=decDigits u:=by unfold itoa;rw[cN (by omega)];rfl
def itoa_neg{u:Nat}(h:0<u):itoa (-(u:Int))=45::decDigits u:=by
 unfold itoa;rw[cM (by omega)];congr 2;omega
def PD{x:Int}(A:2^40<=n)(C:-9223372036854775808<x)(D:x<9223372036854775808):fb n x=some (itoa x):=by
 obtain⟨m,rfl⟩:∃m,n=m+2:=⟨n-2,by omega⟩
 by_cases c:0<=x
 ·obtain⟨u,rfl⟩:=hV c;rw[nO];exact Pd 19 (m+1) u (by omega) (by omega) (by omega)
 ·obtain⟨u,a⟩:∃u:Nat,x=-(u:Int):=⟨x.natAbs,by omega⟩;subst a;have E:=B6 19 u (by omega) (by omega);rw[itoa_neg (by omega),fb];have e:¬ -(u:Int)< -9223372036854775807:=by omega
  have j:-(u:Int)<0:=by omega
  have y:gG .i64 (-(u:Int))=u:=by unfold gG;rw[IntKind.wrap_i64];omega
  simp only[dE,e,j,y,gi,gQ,cP,cR,Pd 19 m u (by omega) (by omega) (by omega),cw];rw[fR (by simp;omega)];rfl
def ku{x:Int}(a:-9223372036854775808<=x)(e:x<9223372036854775808):(itoa x).length<=21:=itoa_length_le x a (by omega)
def XR{s:cq}(J:s.length<=12)(M:2^41<=n):wD n n s 0 0 some=some (if s.all nz=true then(val s:Int) else-1):=by
 have j:∀m i a:Nat,i<=s.length->s.length<m+i->a<10^i->wD n m s a i some=some (if(s.drop i).all nz=true then(((s.drop i).foldl (λa c=>a*10+(c.toNat-48)) a:Nat):Int) else-1):=by
  intro m
  induction m with
  |zero=>intro i a C D;omega
  |succ m E=>
   intro i a C D N
   have x:10^i<=10^12:=v8 (by omega) (by omega)
   by_cases y:i<s.length
   ·have e:(i:Int)<s.length:=by omega
    simp only[wD,dE,gA,e,gi,cP,vr y,cw];rw[ly y,Hz,vZ];have P:=s[i].toNat_lt
    by_cases u:(s[i].toNat:Int)<48
    ·have:nz s[i]=false:=by simp[nz];omega
     simp[u,this]
    ·by_cases A:57<(s[i].toNat:Int)
     ·have:nz s[i]=false:=by simp[nz];omega
      simp[u,A,this]
     ·have F:nz s[i]=true:=by simp[nz];omega
      have H:eY .i64 (cX .u8 (s[i].toNat:Int) 48)=((s[i].toNat-48:Nat):Int):=by
       unfold eY cX;rw[IntKind.wrap_u8,IntKind.wrap_i64];omega
      have I:cz .i64 (eM .i64 (a:Int) 10) ((s[i].toNat-48:Nat):Int)=((a*10+(s[i].toNat-48):Nat):Int):=by
       rw[ny (by omega),jb (by omega) (by omega) (by omega) (by omega)];omega
      simp only[u,A,gQ,cR,H,I,dO (show i<2^31 by omega),F,nJ];exact E (i+1) _ (by omega) (by omega) (by rw[uF];omega)
   ·have:i=s.length:=by omega
    subst this;have e:¬ ((s.length:Int)<s.length):=by omega
    simp only[wD,dE,gA,e,gQ,cR,rK,List.all_nil,gE,HB]
 have:=j n 0 0 (by omega) (by omega) (by omega);simpa[val] using this
def vf{s:cq}(x:2^41<=n):na n s=some (eB s):=by
 unfold na eB;rw[sk];simp only[cw,gA]
 by_cases y:(1:Int)<=s.length/\(s.length:Int)<=12
 ·have a:1<=s.length/\s.length<=12:=by omega
  simp only[y,a,uG,gi,dT,eW,cR,nJ,dE]
  by_cases A:1<s.length
  ·have j:(1:Int)<s.length:=by omega
   have e:iG s 0=some (s[0].toNat:Int):=vr (i:=0) (by omega);simp only[A,j,gi,cP,e,cw,ez,eW,ZE];have C:s.head?=some s[0]:=by rw[ajj,eN (by omega)]
   by_cases u:s[0]=48
   ·have:(s[0].toNat:Int)=48:=by rw[u];rfl
    rw[C];simp[u,this]
   ·have:¬ (s[0].toNat:Int)=48:=λe=>u (ZR.1 (by have:(48:UInt8).toNat=48:=rfl;omega));rw[C];simp only[this,gQ,cR,di,u,hY,nJ];exact XR a.2 x
  ·have j:¬ (1:Int)<s.length:=by omega
   simp only[A,j,gQ,cR,hY,ZH,nJ];exact XR a.2 x
 ·have a:¬ (1<=s.length/\s.length<=12):=by omega
  simp[y,a,dT]
def ru(s:cq):Int×Bool:=if s.head?=some 45 then(gG .i64 (eB (s.drop 1)),decide (0<eB (s.drop 1))) else(eB s,decide (0<=eB s))
def KW{s:cq}(j:2^41<=n):CM n s=some (ru s):=by
 unfold CM ru;simp only[gA]
 by_cases h:0<s.length
 ·have u:(0:Int)<s.length:=by omega
  have e:iG s 0=some (s[0].toNat:Int):=vr (i:=0) (by omega);have x:s.head?=some s[0]:=by rw[ajj,eN h]
  simp only[dE,gR,u,gi,cP,e,cw,ez]
  by_cases a:s[0]=45
  ·have:(s[0].toNat:Int)=45:=by rw[a];rfl
   have y:fF s 1 s.length=some (s.drop 1):=by
    unfold fF;rw[cM (by omega)];congr 1
    rw[AE (by simp)];rfl
   rw[x];simp only[this,gi,cP,y,cw,vf j];rw[a,cM rfl]
  ·have:¬ (s[0].toNat:Int)=45:=λe=>a (ZR.1 (by have:(45:UInt8).toNat=45:=rfl;omega));rw[x,cN (by simpa using a)];simp only[this,gQ,cR,cw,vf j]
 ·have u:¬ (0:Int)<s.length:=by omega
  have:s=[]:=og.1 (by omega);subst this;simp only[dE,gR,u,gQ,cR,vf j,cw];rfl
end
end
end Go.Ev
namespace Go.Ev
open Go
section
def GN(a:Int):IntKind.u32.wrap a=a % 4294967296:=IntKind.wrap_u32 a
def agb(k:IntKind)(a b:Int):l5 k a b=l5 k b a:=by unfold l5;rw[BitVec.or_comm]
def JS{i:Nat}{x y:Int}(a:0<=x)(hx:x % 2^i=0)(e:x<2^32)(j:0<=y)(A:y<2^i)(C:i<=32):l5 .u32 x y=x+y:=by
 have u:y<2^32:=by
  have:(2:Int)^i<=2^32:=by exact_mod_cast v8 (by omega:0<2) C
  omega
 exact bits_join .u32 32 (by decide) (λn D E=>by rw[GN];omega) i x y a hx e j A u
def rr(x:Int)(k:Nat):Int:=l5 .u32 (x.fdiv (2^k)) (IntKind.u32.wrap (x*2^(32-k)))
def sh(x:Int)(k:Nat):Int:=x.fdiv (2^k)
section
variable{n:Nat}
def su{kd:IntKind}{x:Int}{k:Nat}(h:k<=kd.bits):kL kd x k=some (sh x k):=by
 unfold kL sh;rw[cN (by omega),fH,Nat.min_eq_left h]
def C0{x:Int}{k:Nat}(h:k<=32):pH .u32 x k=some (IntKind.u32.wrap (x*2^k)):=by
 unfold pH;rw[cN (by omega),fH,Nat.min_eq_left (show k<=IntKind.u32.bits from h)]
def tL{x:Int}{k:Nat}(h:k<=32):kT n x k=some (rr x k):=by
 unfold kT rr;have e:cX .i64 32 (k:Int)=((32-k:Nat):Int):=by rw[iE];omega
 rw[su (kd:=.u32) h,e,C0 (by omega)];rfl
def tw{x:Int}{k:Nat}(h:k∈[7,18,17,19,6,11,25,2,13,22]):kU n x k=some (rr x k):=by
 have e:iw .u64 (eY .u64 (gG .i64 k)) 31=((32-k:Nat):Int)/\cX .u64 32 ((32-k:Nat):Int)=k/\k<=32:=by
  simp only[eG,mq,l8] at h
  rcases h with rfl|rfl|rfl|rfl|rfl|rfl|rfl|rfl|rfl|rfl<;>decide
 unfold kU Mo rr;rw[e.1,e.2.1,C0 (by omega),su (kd:=.u32) e.2.2];simp only[cw];rw[agb];rfl
def w4(a b c d:Int):Int:=a*16777216+b*65536+c*256+d
def P4(w:List Int):Int:=
 let i:=w.length
 let x:=gI w (i-15)
 let y:=gI w (i-2)
 cz .u32 (cz .u32 (cz .u32 (gI w (i-16)) (fe .u32 (fe .u32 (rr x 7) (rr x 18)) (sh x 3))) (gI w (i-7))) (fe .u32 (fe .u32 (rr y 17) (rr y 19)) (sh y 10))
def xH:Nat->List Int->List Int|0,w=>w|k+1,w=>xH k (w++[P4 w])
def j6(b:List Int)(k:Nat):List Int:=(List.range k).map λi=>w4 (gI b (4*i)) (gI b (4*i+1)) (gI b (4*i+2)) (gI b (4*i+3))
def words(b:List Int):List Int:=xH 48 (j6 b 16)
def sY:List Int:=[1116352408,1899447441,3049323471,3921009573,961987163,1508970993,2453635748,2870763221,3624381080,310598401,607225278,1426881987,1925078388,2162078206,2614888103,3248222580,3835390401,4022224774,264347078,604807628,770255983,1249150122,1555081692,1996064986,2554220882,2821834349,2952996808,3210313671,3336571891,3584528711,113926993,338241895,666307205,773529912,1294757372,1396182291,1695183700,1986661051,2177026350,2456956037,2730485921,2820302411,3259730800,3345764771,3516065817,3600352804,4094571909,275423344,430227734,506948616,659060556,883997877,958139571,1322822218,1537002063,1747873779,1955562222,2024104815,2227730452,2361852424,2428436474,2756734187,3204031479,3329325298]
def abM:M6 n=some sY:=rfl
def Mc(j u:Int)(s:List Int):List Int:=
 let e:=gI s 4
 let a:=gI s 0
 let t:=cz .u32 (cz .u32 (cz .u32 (cz .u32 (gI s 7) (fe .u32 (fe .u32 (rr e 6) (rr e 11)) (rr e 25))) (fe .u32 (iw .u32 e (gI s 5)) (iw .u32 (tY .u32 e) (gI s 6)))) j) u
 [cz .u32 (cz .u32 t (fe .u32 (fe .u32 (rr a 2) (rr a 13)) (rr a 22))) (fe .u32 (fe .u32 (iw .u32 a (gI s 1)) (iw .u32 a (gI s 2))) (iw .u32 (gI s 1) (gI s 2))),a,gI s 1,gI s 2,cz .u32 (gI s 3) t,e,gI s 5,gI s 6]
def vG(w:List Int):Nat->Nat->List Int->List Int|0,_,s=>s|m+1,i,s=>vG w m (i+1) (Mc (gI sY i) (gI w i) s)
def blk(h b:List Int):List Int:=
 let s:=vG (words b) 64 0 h
 (List.range 8).map λi=>cz .u32 (gI h i) (gI s i)
def SU:∀(k:Nat)(w:List Int),(xH k w).length=w.length+k
 |0,w=>rfl
 |k+1,w=>by rw[xH,SU k];simp;omega
def SV(b:List Int):(words b).length=64:=by rw[words,SU];simp[j6]
def Oi(w:List Int):∀(m i:Nat)(s:List Int),s.length=8->(vG w m i s).length=8|0,_,_,h=>h|m+1,i,s,_=>Oi w m (i+1) _ rfl
def GO{i:Nat}(h:i<2^31)(j:Nat)(a:j<2^31):cz .i64 (i:Int) j=((i+j:Nat):Int):=by rw[vd];omega
def xI{i:Nat}(h:i<2^31)(j:Nat)(a:j<=i):cX .i64 (i:Int) j=((i-j:Nat):Int):=by rw[iE];omega
def jr{l:List Int}{i:Nat}(h:i<l.length):cm l (i:Int)=some (gI l i):=eP h 0
end
section spec
variable{n:Nat}
def rF(b:List Int):Prop:=∀x∈b,0<=x/\x<256
def xo{b:List Int}(h:rF b)(i:Nat):0<=gI b i/\gI b i<256:=by
 by_cases c:i<b.length
 ·exact h _ (PC c)
 ·simp[gI,iT,nI (show b.length<=i by omega)]
def ae4{a b c d:Int}(e:0<=a/\a<256)(j:0<=b/\b<256)(u:0<=c/\c<256)(A:0<=d/\d<256):
  l5 .u32 (l5 .u32 (l5 .u32 (IntKind.u32.wrap (eY .u32 a*2^24)) (IntKind.u32.wrap (eY .u32 b*2^16))) (IntKind.u32.wrap (eY .u32 c*2^8))) (eY .u32 d)=w4 a b c d:=by
 simp only[eY,GN,w4];rw[show a % 4294967296*2^24 % 4294967296=a*16777216 by omega,show b % 4294967296*2^16 % 4294967296=b*65536 by omega,show c % 4294967296*2^8 % 4294967296=c*256 by omega,show d % 4294967296=d by omega];rw[JS (i:=24) (x:=a*16777216) (y:=b*65536) (by omega) (by omega) (by omega) (by omega) (by omega) (by omega),JS (i:=16) (x:=a*16777216+b*65536) (y:=c*256) (by omega) (by omega) (by omega) (by omega) (by omega) (by omega),JS (i:=8) (x:=a*16777216+b*65536+c*256) (y:=d) (by omega) (by omega) (by omega) (by omega) (by omega) (by omega)]
def VP{b:List Int}(a:rF b)(e:b.length=64){k:List Int->Option (List Int)}:∀m i:Nat,i<=16->16<m+i->Bf n m b (j6 b i) i k=k (j6 b 16)
 |0,i,h,j=>by omega
 |m+1,i,h,j=>by
  by_cases H:i<16
  ·have c:(i:Int)<16:=by omega
   have u:eM .i64 4 (i:Int)=((4*i:Nat):Int):=by rw[ny (by omega)];omega
   have y:cz .i64 ((4*i:Nat):Int) 1=((4*i+1:Nat):Int):=GO (by omega) 1 (by omega);have A:cz .i64 ((4*i:Nat):Int) 2=((4*i+2:Nat):Int):=GO (by omega) 2 (by omega);have C:cz .i64 ((4*i:Nat):Int) 3=((4*i+3:Nat):Int):=GO (by omega) 3 (by omega);have D:∀x,pH .u32 x 24=some (IntKind.u32.wrap (x*2^24)):=λx=>C0 (k:=24) (by omega);have E:∀x,pH .u32 x 16=some (IntKind.u32.wrap (x*2^16)):=λx=>C0 (k:=16) (by omega);have F:∀x,pH .u32 x 8=some (IntKind.u32.wrap (x*2^8)):=λx=>C0 (k:=8) (by omega);simp only[Bf,dE,c,gi,cP,u,y,A,C,jr (l:=b) (show 4*i<b.length by omega),jr (l:=b) (show 4*i+1<b.length by omega),jr (l:=b) (show 4*i+2<b.length by omega),jr (l:=b) (show 4*i+3<b.length by omega),cw,D,E,F];rw[fW (by simp[j6];omega) (by omega),cw,ae4 (xo a _) (xo a _) (xo a _) (xo a _),dO (by omega)];have:j6 b i++[w4 (gI b (4*i)) (gI b (4*i+1)) (gI b (4*i+2)) (gI b (4*i+3))]=j6 b (i+1):=by
    simp[j6,QY]
   rw[this];exact VP a e m (i+1) (by omega) (by omega)
  ·have:i=16:=by omega
   subst this;simp only[Bf,dE];rfl
def VQ{k:List Int->Option (List Int)}:∀(m j:Nat)(w:List Int),w.length+j=64->16<=w.length->j<m->yO n m w w.length k=k (xH j w)
 |0,j,w,h,a,e=>by omega
 |m+1,j,w,h,a,e=>by
  match j with
  |0=>
   have c:¬ ((w.length:Int)<64):=by omega
   simp only[yO,dE,c,gQ,cR,xH]
  |j+1=>
   have c:(w.length:Int)<64:=by omega
   have u:cX .i64 (w.length:Int) 15=((w.length-15:Nat):Int):=xI (by omega) 15 (by omega);have y:cX .i64 (w.length:Int) 2=((w.length-2:Nat):Int):=xI (by omega) 2 (by omega);have A:cX .i64 (w.length:Int) 16=((w.length-16:Nat):Int):=xI (by omega) 16 (by omega);have C:cX .i64 (w.length:Int) 7=((w.length-7:Nat):Int):=xI (by omega) 7 (by omega);have t1:∀x,kT n x 7=some (rr x 7):=λx=>tL (k:=7) (by omega);have t2:∀x,kT n x 18=some (rr x 18):=λx=>tL (k:=18) (by omega);have t3:∀x,kT n x 17=some (rr x 17):=λx=>tL (k:=17) (by omega);have t4:∀x,kT n x 19=some (rr x 19):=λx=>tL (k:=19) (by omega);have t5:∀x,kL .u32 x 3=some (sh x 3):=λx=>su (kd:=.u32) (k:=3) (by decide);have t6:∀x,kL .u32 x 10=some (sh x 10):=λx=>su (kd:=.u32) (k:=10) (by decide);simp only[yO,dE,c,gi,cP,u,y,A,C,jr (l:=w) (show w.length-15<w.length by omega),jr (l:=w) (show w.length-2<w.length by omega),jr (l:=w) (show w.length-16<w.length by omega),jr (l:=w) (show w.length-7<w.length by omega),cw,t1,t2,t3,t4,t5,t6];rw[fW (by simp;omega) (by omega),cw,dO (by omega)];have:=VQ (k:=k) m j (w++[P4 w]) (by simp;omega) (by simp;omega) (by omega);rw[fg,uE] at this;exact this
def ado{b:List Int}(y:rF b)(A:b.length=64)(D:2^41<=n):I8 n b=some (words b):=by
 unfold I8;have e:xU 4 0 64 (0:Int)=some []:=by
  unfold xU;rw[cM (by omega)];rfl
 rw[e,cw];have x:=VP (n:=n) (k:=λj=>yO n n j 16 λu=>some u) y A n 0 (by omega) (by omega);have C:j6 b 0=[]:=rfl;rw[C] at x;refine x.trans ?_;have a:(j6 b 16).length=16:=by simp[j6]
 have:=VQ (n:=n) (k:=some) n 48 (j6 b 16) (by omega) (by omega) (by omega);rw[a] at this;exact this
def eight{s:List Int}(h:s.length=8):s=[gI s 0,gI s 1,gI s 2,gI s 3,gI s 4,gI s 5,gI s 6,gI s 7]:=by
 match s,h with
 |[a,b,c,d,e,f,g,h],_=>rfl
def agc{h w k1:List Int}{i t a Zg e j u x y A C D:Int}{k:List Int->List Int->List Int->List Int->Int->Int->Int->Int->Option (List Int)}(E:2^41<=n):HW n n h w k1 [e,j,u,x,y,A,C,D] i t a Zg 7 k=k h w k1 [e,e,j,u,x,y,A,C] i t a Zg:=by
 obtain⟨m,rfl⟩:∃m,n=m+8:=⟨n-8,by omega⟩;rfl
def ae5(a b c:Int):cz .u32 (cz .u32 a b) c=cz .u32 a (cz .u32 b c):=by
 unfold cz;simp only[GN];omega
def Xj{h w:List Int}(u:w.length=64)(a:2^41<=n){k:List Int->List Int->Option (List Int)}:∀(m j i:Nat)(s:List Int),s.length=8->i+j=64->j<m->Bg n m h w sY s i k=k h (vG w j i s)
 |0,j,i,s,e,A,C=>by omega
 |m+1,j,i,s,e,A,C=>by
  match j with
  |0=>
   have c:¬ ((i:Int)<64):=by omega
   simp only[Bg,dE,c,gQ,cR,vG]
  |j+1=>
   have c:(i:Int)<64:=by omega
   have D:i<sY.length:=by show i<64;omega
   have t1:∀x,kT n x 6=some (rr x 6):=λx=>tL (k:=6) (by omega);have t2:∀x,kT n x 11=some (rr x 11):=λx=>tL (k:=11) (by omega);have t3:∀x,kT n x 25=some (rr x 25):=λx=>tL (k:=25) (by omega);have t4:∀x,kT n x 2=some (rr x 2):=λx=>tL (k:=2) (by omega);have t5:∀x,kT n x 13=some (rr x 13):=λx=>tL (k:=13) (by omega);have t6:∀x,kT n x 22=some (rr x 22):=λx=>tL (k:=22) (by omega);rw[vG];refine QZ ?_ (Xj (k:=k) (h:=h) u a m j (i+1) (Mc (gI sY i) (gI w i) s) rfl (by omega) (by omega));rw[eight e];generalize gI s 0=x0;generalize gI s 1=x1;generalize gI s 2=x2;generalize gI s 3=x3;generalize gI s 4=x4;generalize gI s 5=x5;generalize gI s 6=x6;generalize gI s 7=x7;have E:cm [x0,x1,x2,x3,x4,x5,x6,x7] 0=some x0:=rfl;have F:cm [x0,x1,x2,x3,x4,x5,x6,x7] 1=some x1:=rfl;have H:cm [x0,x1,x2,x3,x4,x5,x6,x7] 2=some x2:=rfl;have I:cm [x0,x1,x2,x3,x4,x5,x6,x7] 4=some x4:=rfl;have J:cm [x0,x1,x2,x3,x4,x5,x6,x7] 5=some x5:=rfl;have M:cm [x0,x1,x2,x3,x4,x5,x6,x7] 6=some x6:=rfl;have N:cm [x0,x1,x2,x3,x4,x5,x6,x7] 7=some x7:=rfl;have P:cm [x0,x0,x1,x2,x3,x4,x5,x6] 4=some x3:=rfl;have Q:∀y,cm (du [x0,x0,x1,x2,x3,x4,x5,x6] 4 y) 0=some x0:=λy=>rfl;simp only[Bg,dE,c,gi,cP,E,F,H,I,J,M,N,cw,t1,t2,t3,t4,t5,t6,jr D,jr (l:=w) (show i<w.length by omega),agc a,P,Q];rw[dO (by omega)];rfl
def ahL{h s:List Int}(a:h.length=8)(e:s.length=8)(j:2^41<=n){k:List Int->Option (List Int)}:Eg n n h s [] 0 k=k ((List.range 8).map λi=>cz .u32 (gI h i) (gI s i)):=by
 obtain⟨m,rfl⟩:∃m,n=m+9:=⟨n-9,by omega⟩;rw[eight a,eight e];rfl
def adp{h b:List Int}(u:h.length=8)(y:rF b)(A:b.length=64)(x:2^41<=n):I9 n h b=some (blk h b):=by
 unfold I9;rw[ado y A x,abM,fW (by simp;omega) (by omega)];simp only[cw,iC];have:=Xj (n:=n) (h:=h) (w:=words b) (k:=λe j=>Eg n n e j [] 0 λa=>some a) (SV b) x n 64 0 h u (by omega) (by omega);refine this.trans ?_;exact ahL u (Oi _ _ _ _ u) x
end spec
end
section
section
variable{n:Nat}
def uW{a e:Type}{f:a->List e}{c:Nat}(h:∀x,(f x).length=c):∀l:List a,(l.map f).flatten.length=c*l.length
 |[]=>rfl
 |x::l=>by rw[lz,Q0,fg,h,uW h l,gy,Nat.mul_succ];omega
def qF(a:Nat):Nat:=(119-a % 64) % 64
def pS(x:Int):Nat->List Int|0=>[]|j+1=>eY .u8 (sh x (8*j))::pS x j
def nB(text:cq):List Int:=dL text++128::List.replicate (qF text.length) 0++pS (text.length*8) 8
def ui:Nat->List Int->List Int->List Int|0,h,_=>h|q+1,h,b=>ui q (blk h (b.take 64)) (b.drop 64)
def Hv:List Int:=[1779033703,3144134277,1013904242,2773480762,1359893119,2600822924,528734635,1541459225]
def Lv(text:cq):List Int:=ui ((nB text).length/64) Hv (nB text)
def Lw(x:Int):eY .u8 x=x % 256:=by unfold eY;rw[IntKind.wrap_u8]
def Oj(x:Int):∀j,rF (pS x j)
 |0=>by simp[pS,rF]
 |j+1=>λy a=>by
  rcases eG.1 a with rfl|a
  ·rw[Lw];omega
  ·exact Oj x j y a
def Uo(x:Int):∀j,(pS x j).length=j
 |0=>rfl
 |j+1=>by simp[pS,Uo x j]
def Se(s:cq):rF (dL s):=λx hx=>by
 simp only[dL,ik] at hx;obtain⟨c,_,rfl⟩:=hx;have:=c.toNat_lt;omega
def adq(text:cq):rF (nB text):=λx hx=>by
 simp only[nB,eJ,eG,List.mem_replicate] at hx;rcases hx with(hx|rfl|hx)|hx
 ·exact Se _ x hx
 ·omega
 ·omega
 ·exact Oj _ _ x hx
def Up(text:cq):(nB text).length % 64=0/\64<=(nB text).length/\(nB text).length<=text.length+73:=by
 simp only[nB,fg,gy,Zr,Uo,dL,o8,qF];omega
def PE{a:Nat}:kg (a:Int) 64=some ((a % 64:Nat):Int):=by
 unfold kg;rw[cN (by omega),QU (by omega)];exact congrArg some (by omega)
def Xk{text:cq}{k:cq->List Int->Option (List Int)}:∀(m j:Nat)(b:List Int),(b.length+j) % 64=56->j<64->j<m->b.length+j<2^31->D3 n m text b k=k text (b++List.replicate j 0)
 |0,j,b,h,a,u,x=>by omega
 |m+1,j,b,h,a,u,x=>by
  rw[D3,cW,PE,cw]
  match j with
  |0=>
   have e:((b.length % 64:Nat):Int)=56:=by omega
   rw[e];simp[dT,ez]
  |j+1=>
   have e:¬ ((b.length % 64:Nat):Int)=56:=by omega
   simp only[dT,ez,e,gQ,hY,cP];rw[fW (by simp;omega) (by omega),cw,Xk m j _ (by simp;omega) (by omega) (by omega) (by simp;omega)];simp[DK]
def Xl{x:Int}{k:List Int->Option (List Int)}:∀(m j:Nat)(b:List Int),j<=8->j<m->b.length+j<2^31->yC n m b x ((j:Int)-1) k=k (b++pS x j)
 |0,j,b,h,a,u=>by omega
 |m+1,0,b,h,a,u=>by
  simp only[yC,gR];simp[pS]
 |m+1,j+1,b,h,a,u=>by
  have e:((j+1:Nat):Int)-1=j:=by omega
  have y:eM .i64 8 (j:Int)=((8*j:Nat):Int):=by rw[ny (by omega)];omega
  have A:kL .i64 x ((8*j:Nat):Int)=some (sh x (8*j)):=su (kd:=.i64) (by show 8*j<=64;omega);have C:cX .i64 (j:Int) 1=(j:Int)-1:=by rw[iE];omega
  rw[e];have c:(0:Int)<=j:=by omega
  simp only[yC,gR,c,gi,cP,y,A,C,cw];rw[fW (by simp;omega) (by omega),cw,Xl m j _ (by omega) (by omega) (by simp;omega)];simp[pS]
def abN{text:cq}(E:text.length<2^30)(F:2^41<=n):It n text=some (nB text):=by
 have j:(dL text).length=text.length:=by simp[dL]
 have c:((text.length:Nat):Int)<=1152921504606846976:=by omega
 unfold It;simp only[gA,gR,c,gi,tV,gE,cw];rw[fW (by simp;omega) (by omega),cw];have e:eM .i64 (text.length:Int) 8=text.length*8:=ny (by omega);have y:qF text.length<64:=by unfold qF;omega
 have A:=Xk (n:=n) (text:=text) (k:=λa C=>yC n n C (eM .i64 (eF a) 8) 7 λu=>some u) n (qF text.length) (dL text++[128]) (by rw[fg,j];unfold qF;simp;omega) y (by omega) (by rw[fg,j];simp;omega);refine A.trans ?_;rw[gA,e];have D:=Xl (n:=n) (x:=text.length*8) (k:=some) n 8 (dL text++[128]++List.replicate (qF text.length) 0) (by omega) (by omega) (by simp[j];omega);refine QZ D ?_;simp[nB]
def Ky(h b:List Int):(blk h b).length=8:=by simp[blk]
def Xm{k:List Int->Option cq}{b:List Int}(j:rF b)(A:b.length<2^31)(u:2^41<=n):∀(m q i:Nat)(h:List Int),h.length=8->i+64*q=b.length->q<m->BU n m h b i k=k (ui q h (b.drop i))
 |0,q,i,h,y,C,D=>by omega
 |m+1,q,i,h,y,C,D=>by
  match q with
  |0=>
   have c:¬ ((i:Int)<b.length):=by omega
   simp only[BU,dE,cW,c,gQ,cR,ui]
  |q+1=>
   have c:((i:Int)<b.length):=by omega
   have e:cz .i64 (i:Int) 64=((i+64:Nat):Int):=GO (by omega) 64 (by omega);have E:kM (i:Int) ((i+64:Nat):Int) b.length=true:=by unfold kM;simp;omega
   have F:ff b (i:Int) ((i+64:Nat):Int)=some ((b.drop i).take 64):=by
    unfold ff
    rw[cM (by omega),fH,fH,show i+64-i=64 by omega]
   have a:rF ((b.drop i).take 64):=λx hx=>j x (HK (uH hx));simp only[BU,dE,cW,c,gi,cP,e,E,tV,gE,cw,F,adp y a (by simp;omega) u];rw[Xm j A u m q (i+64) _ (Ky _ _) (by omega) (by omega),ui,rL]
def w8(x:Int):List Int:=[eY .u8 (sh x 24),eY .u8 (sh x 16),eY .u8 (sh x 8),eY .u8 x]
def vH(x:Int):UInt8:=([48,49,50,51,52,53,54,55,56,57,97,98,99,100,101,102]:cq).getD x.toNat 0
def lK(b:Int):cq:=[vH (b/16),vH (b % 16)]
def lX(text:cq):cq:=(((List.range 8).map λi=>w8 (gI (Lv text) i)).flatten.map lK).flatten
def Ol:∀(q:Nat)(h b:List Int),h.length=8->(ui q h b).length=8|0,_,_,h=>h|q+1,h,b,_=>Ol q _ _ (Ky _ _)
def adr(text:cq):(Lv text).length=8:=Ol _ _ _ rfl
def ag5{h:List Int}(C:h.length=8)(D:2^41<=n):wE n n h [] 0 (λa=>some (je a))=some (je ((List.range 8).map λi=>w8 (gI h i)).flatten):=by
 have e:∀m i:Nat,i<=8->8<m+i->wE n m h (((List.range i).map λi=>w8 (gI h i)).flatten) i (λa=>some (je a))=some (je ((List.range 8).map λi=>w8 (gI h i)).flatten):=by
  intro m
  induction m with
  |zero=>intro i j u;omega
  |succ m y=>
   intro i j u
   by_cases E:i<8
   ·have c:(i:Int)<8:=by omega
    have t1:∀x,kL .u32 x 24=some (sh x 24):=λx=>su (kd:=.u32) (k:=24) (by decide);have t2:∀x,kL .u32 x 16=some (sh x 16):=λx=>su (kd:=.u32) (k:=16) (by decide);have t3:∀x,kL .u32 x 8=some (sh x 8):=λx=>su (kd:=.u32) (k:=8) (by decide);have A:(((List.range i).map λi=>w8 (gI h i)).flatten).length=4*i:=by
     rw[uW (c:=4) (λ_=>rfl),Q1]
    simp only[wE,dE,c,gi,cP,jr (l:=h) (show i<h.length by omega),cw,t1,t2,t3];rw[fW (by rw[A];simp;omega) (by omega),cw,dO (by omega)];have:((List.range i).map λi=>w8 (gI h i)).flatten++[eY .u8 (sh (gI h i) 24),eY .u8 (sh (gI h i) 16),eY .u8 (sh (gI h i) 8),eY .u8 (gI h i)]=((List.range (i+1)).map λi=>w8 (gI h i)).flatten:=by
     rw[QY,nq,Q2];simp[w8]
    rw[this];exact y (i+1) (by omega) (by omega)
   ·have:i=8:=by omega
    subst this;simp only[wE,dE];rfl
 exact e n 0 (by omega) (by omega)
def agd{text:cq}(j:text.length<2^30)(e:2^41<=n):Kk n text=some (je ((List.range 8).map λi=>w8 (gI (Lv text) i)).flatten):=by
 unfold Kk;rw[abN j e,cw];have x:=Up text;have:=Xm (n:=n) (k:=λu=>wE n n u [] 0 λa=>some (je a)) (adq text) (by omega) e n ((nB text).length/64) 0 Hv rfl (by omega) (by omega);refine QZ this ?_;exact ag5 (adr text) e
def XS{x:Nat}(h:x<16):iG [48,49,50,51,52,53,54,55,56,57,97,98,99,100,101,102] (x:Int)=some ((vH x).toNat:Int):=by
 have:∀x:Fin 16,iG [48,49,50,51,52,53,54,55,56,57,97,98,99,100,101,102] ((x.val:Nat):Int)=some ((vH x.val).toNat:Int):=by decide
 exact this ⟨x,h⟩
def agf{s:cq}(E:s.length<2^28)(F:2^41<=n):Kl n s=some ((s.map λc=>lK (c.toNat:Int)).flatten):=by
 have j:∀m i:Nat,i<=s.length->s.length<m+i->BV n m s (((s.take i).map λc=>(lK (c.toNat:Int)).map λ(c:UInt8)=>(c.toNat:Int)).flatten) i (λa=>some (je a))=some ((s.map λc=>lK (c.toNat:Int)).flatten):=by
  intro m
  induction m with
  |zero=>intro i x y;omega
  |succ m A=>
   intro i x y
   have e:(((s.take i).map λc=>(lK (c.toNat:Int)).map λ(c:UInt8)=>(c.toNat:Int)).flatten).length=2*i:=by
    rw[uW (c:=2) (λ_=>rfl),kI];omega
   by_cases u:i<s.length
   ·have c:(i:Int)<s.length:=by omega
    have H:=s[i].toNat_lt;have C:jT .u8 (s[i].toNat:Int) 16=some ((s[i].toNat/16:Nat):Int):=by
     unfold jT
     rw[cN (by omega),IntKind.wrap_u8,ZO (by omega)]
     exact congrArg some (by omega)
    have D:kg (s[i].toNat:Int) 16=some ((s[i].toNat % 16:Nat):Int):=by
     unfold kg
     rw[cN (by omega),QU (by omega)]
     exact congrArg some (by omega)
    simp only[BV,dE,gA,c,gi,cP,vr u,cw,C,D,XS (show s[i].toNat/16<16 by omega),XS (show s[i].toNat % 16<16 by omega)];rw[fW (by rw[e];simp;omega) (by omega),cw,dO (by omega)];have:((s.take i).map λc=>(lK (c.toNat:Int)).map λ(c:UInt8)=>(c.toNat:Int)).flatten++[((vH ((s[i].toNat/16:Nat):Int)).toNat:Int),((vH ((s[i].toNat % 16:Nat):Int)).toNat:Int)]=((s.take (i+1)).map λc=>(lK (c.toNat:Int)).map λ(c:UInt8)=>(c.toNat:Int)).flatten:=by
     rw[mU u,nq,Q2]
     simp[lK]
    rw[this];exact A (i+1) (by omega) (by omega)
   ·have:i=s.length:=by omega
    subst this;have c:¬ ((s.length:Int)<s.length):=by omega
    simp only[BV,dE,gA,c,gQ,cR,s8]
    congr 1
    unfold je;rw[List.map_flatten,DO]
    congr 1
    refine yo λc _=>?_;simp[lK]
 have:=j n 0 (by omega) (by omega);unfold Kl;simpa using this
def aaQ{text:cq}(j:text.length<2^30)(e:2^41<=n):Ja n text=some (lX text):=by
 unfold Ja;rw[agd j e,cw,agf (by unfold je;rw[o8,uW (c:=4) (λ_=>rfl),Q1];omega) e,cw];unfold lX
 congr 2
 unfold je;rw[DO];refine yo λb a=>?_;have:0<=b/\b<256:=by
  simp only[List.mem_flatten,ik] at a
  obtain⟨l,⟨i,_,rfl⟩,a⟩:=a
  simp only[w8,eG,mq,l8] at a
  rcases a with rfl|rfl|rfl|rfl<;>rw[Lw]<;>omega
 simp only[QN];rw[ZQ]
 congr 1
 omega
def Ju(text:cq):(lX text).length=64:=by
 unfold lX;rw[uW (c:=2) (λ_=>rfl),uW (c:=4) (λ_=>rfl),Q1]
end
end
end Go.Ev
namespace Go.Ev
open Go Go.Lib
section
section
variable{n:Nat}
def lR{a:Type}(l:List a)(i:Int)(x:a):(du l i x).length=l.length:=by simp[du]
def ads{l:List Int}{i:Nat}(h:i<l.length)(x:Int):cm (du l i x) (i:Int)=some x:=by
 simp[cm,du,h]
def adt{l:List Int}(i:Nat)(x y:Int):du (du l i x) (i:Int) y=du l i y:=by simp[du]
def Uq{a r:List Int}{x y:Int}:du (a++x::r) (a.length:Int) y=a++y::r:=by simp[du]
def oP{R:Type}{b:Bool}(h:b=true)(f:Unit->Option R):ck (dV b) f=f ():=by subst h;rfl
def Lx{x b:Int}(a:0<=x)(e:x<16777216)(j:0<=b/\b<256):l5 .u32 (IntKind.u32.wrap (x*2^8)) (eY .u32 b)=x*256+b:=by
 simp only[eY,GN];rw[show x*2^8 % 4294967296=x*256 by omega,show b % 4294967296=b by omega,JS (i:=8) (by omega) (by omega) (by omega) (by omega) (by omega) (by omega)]
def agh{text:cq}{i:Nat}{h a w:List Int}{k:cq->Int->List Int->List Int->List Int->Option (List Int)}{b0 b1 b2 b3:Int}(hi:i<64)(hw:w.length=64)(e:cm w (i:Int)=some 0)(j:0<=b0/\b0<256)(u:0<=b1/\b1<256)(y:0<=b2/\b2<256)(A:0<=b3/\b3<256)(hn:2^41<=n):
  EK n n text i i [b0,b1,b2,b3] 4 0 h a w k=k text i h a (du w i (w4 b0 b1 b2 b3)):=by
 obtain⟨m,rfl⟩:∃m,n=m+5:=⟨n-5,by omega⟩;have c:cC (i:Int) 64=true:=by rw[dE];simp;omega
 have C:∀x,pH .u32 x 8=some (IntKind.u32.wrap (x*2^8)):=λx=>C0 (k:=8) (by omega);have g:∀x,cm (du w i x) (i:Int)=some x:=λx=>ads (by omega) x;have D:l5 .u32 (IntKind.u32.wrap (0*2^8)) (eY .u32 b0)=b0:=by rw[Lx (by omega) (by omega) j];omega
 have E:l5 .u32 (IntKind.u32.wrap (b0*2^8)) (eY .u32 b1)=b0*256+b1:=Lx (by omega) (by omega) u;have F:l5 .u32 (IntKind.u32.wrap ((b0*256+b1)*2^8)) (eY .u32 b2)=b0*65536+b1*256+b2:=by rw[Lx (by omega) (by omega) y];omega
 have H:l5 .u32 (IntKind.u32.wrap ((b0*65536+b1*256+b2)*2^8)) (eY .u32 b3)=w4 b0 b1 b2 b3:=by rw[Lx (by omega) (by omega) A];unfold w4;omega
 have I:cz .i64 0 1=1:=rfl;have J:cz .i64 1 1=2:=rfl;have M:cz .i64 2 1=3:=rfl;have N:cz .i64 3 1=4:=rfl;have P:cC 0 4=true:=rfl;have Q:cC 1 4=true:=rfl;have R:cC 2 4=true:=rfl;have S:cC 3 4=true:=rfl;have U:cC 4 4=false:=rfl;have Y:cm [b0,b1,b2,b3] 0=some b0:=rfl;have Z:cm [b0,b1,b2,b3] 1=some b1:=rfl;have l2:cm [b0,b1,b2,b3] 2=some b2:=rfl;have l3:cm [b0,b1,b2,b3] 3=some b3:=rfl;simp only[EK,c,oP,e,C,g,D,E,F,H,I,J,M,N,P,Q,R,S,U,Y,Z,l2,l3,cw,cP,cR,adt]
def XT{text:cq}{h v4:List Int}{k:List Int->List Int->List Int->Option (List Int)}(J:64<=text.length)(M:text.length<2^31)(I:2^41<=n):∀m i:Nat,i<=16->16<m+i->
  BY n m text i h v4 (j6 ((dL text).take 64) i++List.replicate (64-i) 0) k=k h v4 (j6 ((dL text).take 64) 16++List.replicate 48 0)
 |0,i,N,P=>by omega
 |m+1,i,N,P=>by
  by_cases hi:i<16
  ·have c:cC (i:Int) 16=true:=by rw[dE];simp;omega
   have Q:eM .i64 4 (i:Int)=((4*i:Nat):Int):=by rw[ny (by omega)];omega
   have R:cz .i64 ((4*i:Nat):Int) 4=((4*i+4:Nat):Int):=GO (by omega) 4 (by omega);have S:fF text ((4*i:Nat):Int) ((4*i+4:Nat):Int)=some ((text.drop (4*i)).take 4):=by
    unfold fF
    rw[cM (by omega),fH,fH,show 4*i+4-4*i=4 by omega]
   have e:((text.drop (4*i)).take 4).length=4:=by simp;omega
   have U:dI (eF ((text.drop (4*i)).take 4)) 1152921504606846976=true:=by rw[gR,gA,e];rfl
   have Y:dL ((text.drop (4*i)).take 4)=[gI ((dL text).take 64) (4*i),gI ((dL text).take 64) (4*i+1),gI ((dL text).take 64) (4*i+2),gI ((dL text).take 64) (4*i+3)]:=by
    have C:∀j,j<4->gI ((dL text).take 64) (4*i+j)=gI (dL ((text.drop (4*i)).take 4)) j:=λj Z=>by
     have F:4*i+j<64:=by omega
     simp[gI,iT,dL,o5,F,Z,vW]
    have H:(dL ((text.drop (4*i)).take 4)).length=4:=by unfold dL;rw[o8];exact e
    have h4:∀u:List Int,u.length=4->u=[gI u 0,gI u 1,gI u 2,gI u 3]:=λu hx=>by
     match u,hx with
     |[a,b,c,d],_=>rfl
    rw[h4 _ H,C 1 (by omega),C 2 (by omega),C 3 (by omega),<-C 0 (by omega)]
    rw[<-C 1 (by omega),<-C 2 (by omega),<-C 3 (by omega)]
    rfl
   have hw:(j6 ((dL text).take 64) i++List.replicate (64-i) 0).length=64:=by simp[j6];omega
   have E:rF ((dL text).take 64):=λx hx=>Se _ x (uH hx);have D:(j6 ((dL text).take 64) i).length=i:=by simp[j6]
   have A:List.replicate (64-i) (0:Int)=0::List.replicate (63-i) 0:=by rw[show 64-i=(63-i)+1 by omega];rfl
   have h0:cm (j6 ((dL text).take 64) i++List.replicate (64-i) 0) (i:Int)=some 0:=by
    rw[A,jr (by simp[D])]
    simp[gI,iT,D]
   have ll:cA [gI ((dL text).take 64) (4*i),gI ((dL text).take 64) (4*i+1),gI ((dL text).take 64) (4*i+2),gI ((dL text).take 64) (4*i+3)]=4:=rfl;simp only[BY,c,cP,Q,R,S,cw,oP U,Y,ll];rw[agh (by omega) hw h0 (xo E _) (xo E _) (xo E _) (xo E _) I,dO (by omega)];have:du (j6 ((dL text).take 64) i++List.replicate (64-i) 0) i (w4 (gI ((dL text).take 64) (4*i)) (gI ((dL text).take 64) (4*i+1)) (gI ((dL text).take 64) (4*i+2)) (gI ((dL text).take 64) (4*i+3)))=j6 ((dL text).take 64) (i+1)++List.replicate (64-(i+1)) 0:=by
    rw[A]
    have:=Uq (a:=j6 ((dL text).take 64) i) (r:=List.replicate (63-i) 0) (x:=0) (y:=w4 (gI ((dL text).take 64) (4*i)) (gI ((dL text).take 64) (4*i+1)) (gI ((dL text).take 64) (4*i+2)) (gI ((dL text).take 64) (4*i+3)))
    rw[D] at this
    rw[this,show 64-(i+1)=63-i by omega]
    simp[j6,QY]
   rw[this];exact XT J M I m (i+1) (by omega) (by omega)
  ·have:i=16:=by omega
   subst this;simp only[BY];rfl
def ae6{w r:List Int}{i:Nat}(h:i<w.length):gI (w++r) i=gI w i:=by
 simp[gI,iT,o7 h]
def Xn{h v:List Int}{k:List Int->List Int->List Int->Option (List Int)}:∀(m j:Nat)(w:List Int),w.length+j=64->16<=w.length->j<m->BZ n m w.length h v (w++List.replicate j 0) k=k h v (xH j w)
 |0,j,w,u,A,C=>by omega
 |m+1,0,w,u,A,C=>by
  have c:cC (w.length:Int) 64=false:=by rw[dE];simp;omega
  simp only[BZ,c,cR,xH,List.replicate_zero,HJ]
 |m+1,j+1,w,u,A,C=>by
  have c:cC (w.length:Int) 64=true:=by rw[dE];simp;omega
  have D:cX .i64 (w.length:Int) 15=((w.length-15:Nat):Int):=xI (by omega) 15 (by omega);have E:cX .i64 (w.length:Int) 2=((w.length-2:Nat):Int):=xI (by omega) 2 (by omega);have F:cX .i64 (w.length:Int) 16=((w.length-16:Nat):Int):=xI (by omega) 16 (by omega);have H:cX .i64 (w.length:Int) 7=((w.length-7:Nat):Int):=xI (by omega) 7 (by omega);have I:cC ((w.length-15:Nat):Int) 64=true:=by rw[dE];simp;omega
  have g2:cC ((w.length-2:Nat):Int) 64=true:=by rw[dE];simp;omega
  have J:cC ((w.length-16:Nat):Int) 64=true:=by rw[dE];simp;omega
  have g4:cC ((w.length-7:Nat):Int) 64=true:=by rw[dE];simp;omega
  have a:∀i,i<w.length->cm (w++List.replicate (j+1) 0) ((i:Nat):Int)=some (gI w i):=λi M=>by rw[jr (by simp;omega),ae6 M]
  have N:cm (w++List.replicate (j+1) 0) (w.length:Int)=some 0:=by
   rw[jr (by simp)]
   simp[gI,iT,DK]
  have t1:∀x,kU n x 7=some (rr x 7):=λx=>tw (k:=7) (by decide);have t2:∀x,kU n x 18=some (rr x 18):=λx=>tw (k:=18) (by decide);have t3:∀x,kU n x 17=some (rr x 17):=λx=>tw (k:=17) (by decide);have t4:∀x,kU n x 19=some (rr x 19):=λx=>tw (k:=19) (by decide);have t5:∀x,kL .u32 x 3=some (sh x 3):=λx=>su (kd:=.u32) (k:=3) (by decide);have t6:∀x,kL .u32 x 10=some (sh x 10):=λx=>su (kd:=.u32) (k:=10) (by decide);simp only[BZ,c,cP,D,E,F,H,oP I,oP g2,oP J,oP g4,oP c,a _ (show w.length-15<w.length by omega),a _ (show w.length-2<w.length by omega),a _ (show w.length-16<w.length by omega),a _ (show w.length-7<w.length by omega),N,cw,t1,t2,t3,t4,t5,t6];rw[dO (by omega)];have e:∀y,du (w++List.replicate (j+1) 0) (w.length:Int) y=(w++[y])++List.replicate j 0:=λy=>by
   rw[DK,Uq];simp
  rw[e];have:=Xn (h:=h) (v:=v) (k:=k) m j (w++[P4 w]) (by simp;omega) (by simp;omega) (by omega);rw[fg,uE] at this;exact this
def Xo{h v4 w:List Int}(C:w.length=64){k:List Int->List Int->List Int->Option (List Int)}:∀(m j i:Nat)(s:List Int),s.length=8->i+j=64->j<m->B0 n m i h v4 w s k=k h v4 (vG w j i s)
 |0,j,i,s,u,y,A=>by omega
 |m+1,0,i,s,u,y,A=>by
  have c:cC (i:Int) 64=false:=by rw[dE];simp;omega
  simp only[B0,c,cR,vG]
 |m+1,j+1,i,s,u,y,A=>by
  have c:cC (i:Int) 64=true:=by rw[dE];simp;omega
  have D:i<sY.length:=by show i<64;omega
  have t1:∀x,kU n x 6=some (rr x 6):=λx=>tw (k:=6) (by decide);have t2:∀x,kU n x 11=some (rr x 11):=λx=>tw (k:=11) (by decide);have t3:∀x,kU n x 25=some (rr x 25):=λx=>tw (k:=25) (by decide);have t4:∀x,kU n x 2=some (rr x 2):=λx=>tw (k:=2) (by decide);have t5:∀x,kU n x 13=some (rr x 13):=λx=>tw (k:=13) (by decide);have t6:∀x,kU n x 22=some (rr x 22):=λx=>tw (k:=22) (by decide);rw[vG];refine QZ ?_ (Xo (k:=k) (h:=h) (v4:=v4) C m j (i+1) (Mc (gI sY i) (gI w i) s) rfl (by omega) (by omega));rw[eight u];generalize gI s 0=x0;generalize gI s 1=x1;generalize gI s 2=x2;generalize gI s 3=x3;generalize gI s 4=x4;generalize gI s 5=x5;generalize gI s 6=x6;generalize gI s 7=x7;have E:cm [x0,x1,x2,x3,x4,x5,x6,x7] 0=some x0:=rfl;have F:cm [x0,x1,x2,x3,x4,x5,x6,x7] 1=some x1:=rfl;have H:cm [x0,x1,x2,x3,x4,x5,x6,x7] 2=some x2:=rfl;have I:cm [x0,x1,x2,x3,x4,x5,x6,x7] 3=some x3:=rfl;have J:cm [x0,x1,x2,x3,x4,x5,x6,x7] 4=some x4:=rfl;have M:cm [x0,x1,x2,x3,x4,x5,x6,x7] 5=some x5:=rfl;have N:cm [x0,x1,x2,x3,x4,x5,x6,x7] 6=some x6:=rfl;have P:cm [x0,x1,x2,x3,x4,x5,x6,x7] 7=some x7:=rfl;have Q:cm [1116352408,1899447441,3049323471,3921009573,961987163,1508970993,2453635748,2870763221,3624381080,310598401,607225278,1426881987,1925078388,2162078206,2614888103,3248222580,3835390401,4022224774,264347078,604807628,770255983,1249150122,1555081692,1996064986,2554220882,2821834349,2952996808,3210313671,3336571891,3584528711,113926993,338241895,666307205,773529912,1294757372,1396182291,1695183700,1986661051,2177026350,2456956037,2730485921,2820302411,3259730800,3345764771,3516065817,3600352804,4094571909,275423344,430227734,506948616,659060556,883997877,958139571,1322822218,1537002063,1747873779,1955562222,2024104815,2227730452,2361852424,2428436474,2756734187,3204031479,3329325298] (i:Int)=some (gI sY i):=jr D;have R:cC 0 8=true:=rfl;have S:cC 1 8=true:=rfl;have U:cC 2 8=true:=rfl;have Y:cC 3 8=true:=rfl;have Z:cC 4 8=true:=rfl;have i5:cC 5 8=true:=rfl;have i6:cC 6 8=true:=rfl;have i7:cC 7 8=true:=rfl;have ie:∀a b c d e f g h:Int,cp (cA [a,b,c,d,e,f,g,h]) 8=true:=λ_ _ _ _ _ _ _ _=>rfl;have ib:fP true true=true:=rfl;have ct:dV true=some ():=rfl;simp only[B0,c,cP,R,S,U,Y,Z,i5,i6,i7,ie,ib,ct,E,F,H,I,J,M,N,P,Q,cw,t1,t2,t3,t4,t5,t6,jr (l:=w) (show i<w.length by omega)];rw[dO (by omega)];have er:Mc (gI sY i) (gI w i) [x0,x1,x2,x3,x4,x5,x6,x7]=[cz .u32 (cz .u32 (cz .u32 (cz .u32 (cz .u32 (cz .u32 x7 (fe .u32 (fe .u32 (rr x4 6) (rr x4 11)) (rr x4 25))) (fe .u32 (iw .u32 x4 x5) (iw .u32 (tY .u32 x4) x6))) (gI sY i)) (gI w i)) (fe .u32 (fe .u32 (rr x0 2) (rr x0 13)) (rr x0 22))) (fe .u32 (fe .u32 (iw .u32 x0 x1) (iw .u32 x0 x2)) (iw .u32 x1 x2)),x0,x1,x2,cz .u32 x3 (cz .u32 (cz .u32 (cz .u32 (cz .u32 x7 (fe .u32 (fe .u32 (rr x4 6) (rr x4 11)) (rr x4 25))) (fe .u32 (iw .u32 x4 x5) (iw .u32 (tY .u32 x4) x6))) (gI sY i)) (gI w i)),x4,x5,x6]:=rfl;rw[er];simp only[ae5]
def ahM{h v4 s:List Int}(a:h.length=8)(e:s.length=8)(j:2^41<=n){k:List Int->List Int->Option (List Int)}:Iv n n 0 h v4 s k=k ((List.range 8).map λi=>cz .u32 (gI h i) (gI s i)) v4:=by
 obtain⟨m,rfl⟩:∃m,n=m+9:=⟨n-9,by omega⟩;rw[eight a,eight e];rfl
def abO{h:List Int}{text:cq}(a:h.length=8)(y:64<=text.length)(A:text.length<2^31)(j:2^41<=n):Ks n h text=some (blk h ((dL text).take 64)):=by
 unfold Ks;have C:tZ 64 (0:Int)=j6 ((dL text).take 64) 0++List.replicate (64-0) 0:=rfl;rw[C];have D:=λk=>XT (n:=n) (h:=h) (v4:=tZ 8 0) (k:=k) y A j n 0 (by omega) (by omega);refine(D _).trans ?_;have e:(j6 ((dL text).take 64) 16).length=16:=by simp[j6]
 have u:=λk=>Xn (n:=n) (h:=h) (v:=tZ 8 0) (k:=k) n 48 (j6 ((dL text).take 64) 16) (by omega) (by omega) (by omega);rw[e] at u;refine(u _).trans ?_;have x:cp (cA h) 8=true:=by rw[ez,cW,a];rfl
 refine(oP x _).trans ?_;refine(oP (by rw[x];rfl) _).trans ?_;have E:=λk=>Xo (n:=n) (h:=h) (v4:=tZ 8 0) (k:=k) (SV ((dL text).take 64)) n 64 0 h a (by omega) (by omega);refine(E _).trans ?_;refine(ahM a (Oi _ _ _ _ a) j).trans ?_;rfl
end
end
section
section
variable{n:Nat}
def Ds(text:cq):cq:=text++128::List.replicate (qF text.length) 0++je (pS (text.length*8) 8)
def ae7{l:List Int}(h:rF l):dL (je l)=l:=by
 unfold dL je;rw[DO];refine(yo λx hx=>?_).trans (QO l);have:=h x hx;simp only[QN,ZQ,id];omega
def WI(a b:cq):dL (a++b)=dL a++dL b:=by simp[dL]
def VR(text:cq):dL (Ds text)=nB text:=by
 unfold Ds nB;rw[WI,WI,ae7 (Oj _ _)];simp[dL]
def XU(x:UInt8):∀c,repeatL [x] c=List.replicate c x
 |0=>rfl
 |c+1=>by rw[repeatL,XU x c];rfl
def Sf{x:UInt8}{c:Nat}(h:c<=1000):wX n [x] (c:Int)=some (List.replicate c x):=by
 unfold wX;rw[cM (by simp;omega),fH,XU]
def XV{sz:Nat}(x:sz<2^40){k:cq->Option cq}:∀(m j:Nat)(b:cq),j<=8->j<m->b.length+j<2^31->Bm n m b (sz:Int) (8*(j:Int)-8) k=k (b++je (pS sz j))
 |0,j,b,h,a,u=>by omega
 |m+1,0,b,h,a,u=>by
  simp only[Bm,gR];simp[pS,je]
 |m+1,j+1,b,h,a,u=>by
  have e:8*(((j+1:Nat):Int))-8=((8*j:Nat):Int):=by omega
  have y:kL .u64 (sz:Int) ((8*j:Nat):Int)=some (sh sz (8*j)):=su (kd:=.u64) (by show 8*j<=64;omega);have A:cX .i64 ((8*j:Nat):Int) 8=8*(j:Int)-8:=by rw[iE];omega
  rw[e];have c:(0:Int)<=((8*j:Nat):Int):=by omega
  simp only[Bm,gR,c,gi,cP,y,A,cw];rw[fR (by simp[je];omega),cw,XV x m j _ (by omega) (by omega) (by simp[je];omega)];simp[pS,je]
def Xp{k:List Int->Option cq}(y:2^41<=n):∀(m q:Nat)(h:List Int)(b:cq),h.length=8->64*q=b.length->b.length<2^31->q<m->Bn n m b h k=k (ui q h (dL b))
 |0,q,h,b,a,j,u,A=>by omega
 |m+1,0,h,b,a,j,u,A=>by
  have:b=[]:=og.1 (by omega);subst this;simp only[Bn];rfl
 |m+1,q+1,h,b,a,j,u,A=>by
  have D:cF (dz b [])=true:=by
   have:b≠[]:=by rintro rfl;simp at j
   simp[dT,kX,this]
  have C:cp (cA h) 8=true:=by rw[ez,cW,a];rfl
  have g2:∀x,fP (cp (cA (blk h x)) 8) (cp (cA h) 8)=true:=λx=>by rw[C,ez,cW,Ky];rfl
  have e:fF b 64 (eF b)=some (b.drop 64):=by
   unfold fF
   rw[gA,cM (by omega)]
   congr 1
   rw[AE (by simp)]
   rfl
  simp only[Bn,D,cP,oP C,abO a (show 64<=b.length by omega) u y,cw,oP (g2 _),e];rw[Xp y m q _ _ (Ky _ _) (by simp;omega) (by simp;omega) (by omega),ui];simp[dL,List.map_drop]
abbrev dg(x:Nat):UInt8:=([48,49,50,51,52,53,54,55,56,57,97,98,99,100,101,102]:cq).getD x 0
def hx:Nat->Nat->cq|0,_=>[]|k+1,x=>hx k (x/16)++[dg (x % 16)]
def VT:∀k,hx k 0=List.replicate k 48
 |0=>rfl
 |k+1=>by
  rw[hx,Nat.zero_div,VT k,ajl];rfl
def adu:∀(k f x:Nat),x<16^(k+1)->k+1<=f->List.replicate (k+1-(hexDs f x).length) 48++hexDs f x=hx (k+1) x/\(hexDs f x).length<=k+1:=by
 intro k;induction k with
 |zero=>
  intro f x e j;obtain⟨g,rfl⟩:∃g,f=g+1:=⟨f-1,by omega⟩;have a:x<16:=by simpa using e
  rw[hexDs,cM a];constructor
  ·simp[hx,AA a]
  ·simp
 |succ k u=>
  intro f x e j;obtain⟨g,rfl⟩:∃g,f=g+1:=⟨f-1,by omega⟩
  by_cases a:x<16
  ·rw[hexDs,cM a];constructor
   ·rw[hx,QI a,VT,AA a];rfl
   ·simp
  ·have y:x/16<16^(k+1):=by rw[uF] at e;omega
   obtain⟨A,C⟩:=u g (x/16) y (by omega);rw[hexDs,cN a];constructor
   ·rw[hx,<-A,fg,uE,show k+1+1-((hexDs g (x/16)).length+1)=k+1-(hexDs g (x/16)).length by omega,ke]
   ·simp;omega
def ag6(x k:Nat):(x:Int).fdiv (2^k)=((x/2^k:Nat):Int):=by
 rw[Int.fdiv_eq_ediv_of_nonneg _ (by exact_mod_cast yi _)]
 exact_mod_cast rfl
def Ur(x:Nat):vH (x:Int)=dg x:=rfl
def adv{x:Nat}(h:x<4294967296):((w8 (x:Int)).map lK).flatten=hx 8 x:=by
 have e:∀k,eY .u8 (sh (x:Int) k)=((x/2^k % 256:Nat):Int):=λk=>by rw[Lw,sh,ag6];omega
 have j:eY .u8 (x:Int)=((x % 256:Nat):Int):=by rw[Lw];omega
 simp only[w8,e,j,lz,s7,Q0,List.flatten_nil,lK,hx];have d:∀a:Nat,vH ((a:Int)/16)=dg (a/16):=λa=>by rw[<-Ur];congr 1
 have m:∀a:Nat,vH ((a:Int) % 16)=dg (a % 16):=λa=>by rw[<-Ur];congr 1
 simp only[d,m];simp only[iC,o9,HJ]
 congr 1
 ·congr 1;omega
 congr 1
 ·congr 1;omega
 congr 1
 ·congr 1;omega
 congr 1
 ·congr 1;omega
 congr 1
 ·congr 1;omega
 congr 1
 ·congr 1;omega
 congr 1
 ·congr 1;omega
 congr 1
 ·congr 1;omega
def ag7{x:Int}(y:0<=x)(D:x<4294967296){R:Type}(f:cq->Option R):(ck (yJ n (eY .u64 x) 16) λj=>ck (wX n [48] (cX .i64 8 (eF j))) λu=>ck (da u j) f)=f ((w8 x).map lK).flatten:=by
 obtain⟨a,rfl⟩:=hV y;have A:a<4294967296:=by omega
 have e:eY .u64 (a:Int)=a:=by
  unfold eY;rw[show IntKind.u64.wrap (a:Int)=(a:Int) % 18446744073709551616 by simp[IntKind.wrap,IntKind.bits,IntKind.signed]];omega
 obtain⟨C,E⟩:=adu 7 16 a (by omega) (by omega);rw[show yJ n (eY .u64 (a:Int)) 16=some (hexDs 16 a) by
  rw[e];unfold yJ;rw[cM ⟨rfl,by omega,by omega⟩];rfl];simp only[cw,gA];rw[show cX .i64 8 ((hexDs 16 a).length:Int)=((8-(hexDs 16 a).length:Nat):Int) by rw[iE];omega,Sf (by omega),cw,fR (by simp;omega),cw,adv A,<-C]
def ag8{h:List Int}(F:h.length=8)(y:∀x∈h,0<=x/\x<4294967296)(H:2^41<=n){k:cq->Option cq}:yU n n h 0 [] k=k ((List.range 8).map λi=>((w8 (gI h i)).map lK).flatten).flatten:=by
 have e:∀j,(((List.range j).map λi=>((w8 (gI h i)).map lK).flatten).flatten).length=8*j:=λj=>by
  rw[uW (c:=8) (λx=>by rw[uW (c:=2) (λ_=>rfl)];rfl),Q1]
 have u:∀m i:Nat,i<=8->8<m+i->yU n m h i (((List.range i).map λi=>((w8 (gI h i)).map lK).flatten).flatten) k=k (((List.range 8).map λi=>((w8 (gI h i)).map lK).flatten).flatten):=by
  intro m
  induction m with
  |zero=>intro i A C;omega
  |succ m D=>
   intro i A C
   by_cases I:i<8
   ·have c:cC (i:Int) 8=true:=by rw[dE];simp;omega
    have hx:=y _ (PC (l:=h) (i:=i) (by omega));have E:(((w8 (gI h i)).map lK).flatten).length=8:=by rw[uW (c:=2) (λ_=>rfl)];rfl
    have a:=e i;simp only[yU,c,cP,oP c,jr (l:=h) (show i<h.length by omega),cw];rw[ag7 hx.1 hx.2];unfold FC;rw[cM (by rw[a,E];omega),cw,dO (by omega)];have:((List.range i).map λi=>((w8 (gI h i)).map lK).flatten).flatten++((w8 (gI h i)).map lK).flatten=((List.range (i+1)).map λi=>((w8 (gI h i)).map lK).flatten).flatten:=by
     rw[QY,nq,Q2];simp
    rw[this];exact D (i+1) (by omega) (by omega)
   ·have:i=8:=by omega
    subst this;simp only[yU];rfl
 exact u n 0 (by omega) (by omega)
def ae8{h b:List Int}:∀x∈blk h b,0<=x/\x<4294967296:=λx hx=>by
 simp only[blk,ik] at hx;obtain⟨i,_,rfl⟩:=hx;unfold cz;rw[GN];omega
def Us:∀(q:Nat)(h b:List Int),(∀x∈h,0<=x/\x<4294967296)->∀x∈ui q h b,0<=x/\x<4294967296|0,_,_,h=>h|q+1,h,b,_=>Us q _ _ ae8
def abP(l:List (List Int)):(l.map λw=>(w.map lK).flatten).flatten=(l.flatten.map lK).flatten:=by
 induction l with
 |nil=>rfl
 |cons x l a=>rw[lz,Q0,a,Q0,nq,Q2]
def adw{text:cq}(H:text.length<2^30)(j:2^41<=n):Jm n text=some (lX text):=by
 unfold Jm;have y:cX .i64 119 ((text.length % 64:Nat):Int)=((119-text.length % 64:Nat):Int):=by rw[iE];omega
 have I:qF text.length<64:=by unfold qF;omega
 rw[gA,PE,cw,y,PE,cw];rw[show((119-text.length % 64) % 64)=qF text.length from rfl,Sf (by omega),cw,fR (by simp;omega),cw,fR (by simp;omega),cw];have A:eM .u64 (eY .u64 (text.length:Int)) 8=((text.length*8:Nat):Int):=by
  have w:∀x,IntKind.u64.wrap x=x % 18446744073709551616:=λx=>by simp[IntKind.wrap,IntKind.bits,IntKind.signed]
  unfold eM eY
  rw[w,w];omega
 rw[A];have C:=λk=>XV (n:=n) (sz:=text.length*8) (by omega) (k:=k) n 8 (text++([128]++List.replicate (qF text.length) 0)) (by omega) (by omega) (by simp;omega);refine(C _).trans ?_;have a:text++([128]++List.replicate (qF text.length) 0)++je (pS ((text.length*8:Nat):Int) 8)=Ds text:=by simp[Ds]
 rw[a];have D:(Ds text).length=(nB text).length:=by rw[<-VR];simp[dL]
 have E:=Up text;refine(oP rfl _).trans ?_;refine(oP rfl _).trans ?_;have F:=λk=>Xp (n:=n) (k:=k) j n ((nB text).length/64) Hv (Ds text) rfl (by omega) (by omega) (by omega);refine(F _).trans ?_;rw[VR];have u:(ui ((nB text).length/64) Hv (nB text)).length=8:=Ol _ _ _ rfl;refine(oP (by rw[ez,cW,u];rfl) _).trans ?_;have e:∀x∈Hv,0<=x/\x<4294967296:=by decide
 refine(ag8 u (Us _ _ _ e) j).trans ?_;show some _=_;unfold lX Lv;rw[<-abP,DO];rfl
end
end
section
def vS(x:UInt8):List cq->List cq|[]=>[[x]]|h::t=>(x::h)::t
def dB(c:UInt8):cq->List cq
 |[]=>[[]]
 |x::a=>if x=c then[]::dB c a else vS x (dB c a)
def F9(c:UInt8):∀s,dB c s≠[]
 |[]=>by simp[dB]
 |x::a=>by
  unfold dB;split
  ·simp
  ·cases dB c a<;>simp[vS]
def JT(c:UInt8):∀s,(dB c s).length<=s.length+1
 |[]=>by simp[dB]
 |x::a=>by
  have:=JT c a;unfold dB;split
  ·simp;omega
  ·cases h:dB c a with
   |nil=>simp[vS]
   |cons y e=>rw[h] at this;simp[vS] at this⊢;omega
def Ah(a:cq):List cq->List cq|[]=>[a]|h::t=>(a++h)::t
def adx(a:cq)(x:UInt8)(l:List cq):Ah a (vS x l)=Ah (a++[x]) l:=by
 cases l<;>simp[Ah,vS]
def Ut{l:List cq}(h:l≠[]):Ah [] l=l:=by
 cases l with
 |nil=>exact absurd rfl h
 |cons x l=>rfl
def Nz{c:UInt8}:∀{s:cq},c∉s->dB c s=[s]
 |[],_=>rfl
 |x::a,h=>by
  simp only[eG,DM] at h;rw[dB,cN (oY h.1),Nz h.2];rfl
def Pe{c:UInt8}{b:cq}:∀{a:cq},c∉a->dB c (a++c::b)=a::dB c b
 |[],_=>by rw[iC,dB,cM rfl]
 |x::e,h=>by
  simp only[eG,DM] at h;rw[o9,dB,cN (oY h.1),Pe h.2];rfl
def MG{c:UInt8}:∀{s:cq},c∈s->∃a b,s=a++c::b/\c∉a
 |[],h=>by simp at h
 |x::j,h=>by
  by_cases hx:x=c
  ·exact⟨[],j,by rw[hx];rfl,by simp⟩
  ·rcases eG.1 h with e|h
   ·exact absurd e.symm hx
   ·obtain⟨a,b,e,u⟩:=MG h;exact⟨x::a,b,by rw[e];rfl,by simp[oY hx,u]⟩
def SW(c:UInt8)(s:cq):(c∉s/\dB c s=[s])\/∃a b,s=a++c::b/\c∉a/\dB c s=a::dB c b:=by
 by_cases h:c∈s
 ·obtain⟨a,b,e,j⟩:=MG h;exact .inr ⟨a,b,e,j,by rw[e];exact Pe j⟩
 ·exact .inl ⟨h,Nz h⟩
def uR{c:UInt8}:∀{s w:cq},w∈dB c s->w.length<=s.length:=by
 intro s;induction h:s.length using Nat.strongRecOn generalizing s with
 |_ k u=>
  intro w j;rcases SW c s with⟨x,e⟩|⟨a,b,e,x,y⟩
  ·rw[e,gf] at j;subst j;omega
  ·rw[y] at j;have A:s.length=a.length+b.length+1:=by rw[e];simp;omega
   rcases eG.1 j with rfl|j
   ·omega
   ·have:=u b.length (by omega) rfl j;omega
def eX(c:UInt8):List cq->cq|[]=>[]|[a]=>a|a::b::l=>a++c::eX c (b::l)
def w7{c:UInt8}:∀{l:List cq},l≠[]->(∀w∈l,c∉w)->dB c (eX c l)=l
 |[],h,_=>absurd rfl h
 |[a],_,h=>Nz (h a (by simp))
 |a::b::l,_,h=>by
  rw[eX,Pe (h a (by simp)),w7 (by simp) λw e=>h w (by simp[eG.1 e])]
def ady(c:UInt8):∀s:cq,eX c (dB c s)=s:=by
 intro s;induction h:s.length using Nat.strongRecOn generalizing s with
 |_ k u=>
  rcases SW c s with⟨y,e⟩|⟨a,b,e,y,A⟩
  ·rw[e];rfl
  ·rw[A];have:=u b.length (by rw[<-h,e];simp;omega) b rfl;cases j:dB c b with
   |nil=>exact absurd j (F9 c b)
   |cons x l=>rw[eX,<-j,this,e]
def abQ{c b:UInt8}(h:b≠c)(l:cq):∀k,splitK [c] 0 k (b::l)=vS b (splitK [c] 0 k l)
 |0=>rfl
 |k+1=>by
  have x:([c]:List UInt8).isPrefixOf (b::l)=false:=by simp[List.isPrefixOf,oY h]
  have a:index (b::l) [c]=if index l [c]==-1 then-1 else index l [c]+1:=by rw[index,x];simp
  have y:=index_ge l [c];unfold splitK
  by_cases u:index l [c]=-1
  ·have:(index l [c]==-1)=true:=p9.2 u;rw[a,this];simp[vS]
  ·have A:(index l [c]==-1)=false:=by rw[ZS];exact u
   have j:(index l [c]+1==-1)=false:=by rw[ZS];omega
   rw[a,A];simp only[iS,iO,j,vS,rI];have e:(index l [c]+1).toNat=(index l [c]).toNat+1:=by omega
   rw[e,ZT];simp
def Om(c:UInt8):∀s:cq,Lib.split s [c]=dB c s
 |[]=>by rw[Lib.split,count_one];rfl
 |x::a=>by
  by_cases h:x=c
  ·subst h;rw[Lib.split,count_cons_eq,vY,splitK];have:index (x::a) [x]=0:=by rw[index];simp[List.isPrefixOf]
   rw[this];simp only[dB,gE];have:=Om x a;rw[Lib.split] at this;simp[this]
  ·rw[Lib.split,count_cons_ne x c a h,abQ h,dB,cN h];have:=Om c a;rw[Lib.split] at this;rw[this]
section
variable{n:Nat}
def JU{c:UInt8}{s:cq}(a:s.length<2^31):q7 n s [c]=some (dB c s):=by
 unfold q7;rw[cM (by simp;omega),Om]
def PF{a b:UInt8}:((a.toNat:Int)=b.toNat)↔a=b:=by
 constructor
 ·intro h;exact ZR.1 (by omega)
 ·rintro rfl;rfl
def Md:cq->List cq->Int->Option (List cq):=λu e a=>ck (fF u a (eF u)) λx=>ck (cZ 16 e [x]) λj=>some j
def Qm{s:cq}{c:UInt8}(x:s.length<2^30):∀(m i f:Nat)(a:List cq),i<=s.length->f<=i->s.length<m+i->a.length<=i->zd n m s (c.toNat:Int) a f i Md=some (a++Ah ((s.drop f).take (i-f)) (dB c (s.drop i)))
 |0,i,f,a,C,D,E,F=>by omega
 |m+1,i,f,a,C,D,E,F=>by
  by_cases y:i<s.length
  ·have j:(i:Int)<s.length:=by omega
   simp only[zd,dE,gA,j,gi,cP,vr y,cw,ez,PF,dO (show i<2^31 by omega)];have H:∀k,k=i-f->(s.drop f).take k++[s[i]]=(s.drop f).take (k+1):=λk I=>by
    subst I
    have u:i-f<(s.drop f).length:=by rw[nn];omega
    rw[mU u,ZJ]
    congr 3;omega
   rw[ly y,dB]
   by_cases A:s[i]=c
   ·have e:fF s (f:Int) (i:Int)=some ((s.drop f).take (i-f)):=by
      unfold fF
      rw[cM (by omega),fH,fH]
    simp only[A,gi,cP,e,cw,gE];rw[fW (by simp;omega) (by omega),cw,Qm x m (i+1) (i+1) _ (by omega) (by omega) (by omega) (by simp;omega)];rw[vX,Ay,Ut (F9 c _)];simp[Ah]
   ·simp only[A,gQ,cR,iO];rw[Qm x m (i+1) f a (by omega) (by omega) (by omega) (by omega),adx,H _ rfl,show i+1-f=i-f+1 by omega]
  ·have:i=s.length:=by omega
   subst this;have j:¬ ((s.length:Int)<s.length):=by omega
   have e:fF s (f:Int) (s.length:Int)=some ((s.drop f).take (s.length-f)):=by
    unfold fF
    rw[cM (by omega),fH,fH]
   simp only[zd,dE,gA,j,gQ,cR,Md,e,cw];rw[fW (by simp;omega) (by omega),cw,rK];simp[dB,Ah]
def CP{s:cq}{c:UInt8}(a:s.length<2^30)(e:2^41<=n):oz n s (c.toNat:Int)=some (dB c s):=by
 unfold oz;have:=Qm (n:=n) (c:=c) a n 0 0 [] (by omega) (by omega) (by omega) (by simp);refine this.trans ?_;rw[vX,Ay,Ut (F9 c _)];rfl
def e9(c:UInt8):cq->cq×cq×Bool
 |[]=>([],[],false)
 |x::a=>if x=c then([],a,true) else(x::(e9 c a).1,(e9 c a).2)
def VU{c:UInt8}:∀{s:cq},c∉s->e9 c s=(s,[],false)
 |[],_=>rfl
 |x::a,h=>by
  simp only[eG,DM] at h;rw[e9,cN (oY h.1),VU h.2]
def CA{c:UInt8}{b:cq}:∀{a:cq},c∉a->e9 c (a++c::b)=(a,b,true)
 |[],_=>by rw[iC,e9,cM rfl]
 |x::e,h=>by
  simp only[eG,DM] at h;rw[o9,e9,cN (oY h.1),CA h.2]
def II(c:UInt8)(s:cq):(c∉s/\e9 c s=(s,[],false))\/∃a b,s=a++c::b/\c∉a/\e9 c s=(a,b,true):=by
 by_cases h:c∈s
 ·obtain⟨a,b,e,j⟩:=MG h;exact .inr ⟨a,b,e,j,by rw[e];exact CA j⟩
 ·exact .inl ⟨h,VU h⟩
def VV(c:UInt8):∀s:cq,Lib.cut s [c]=e9 c s
 |[]=>by unfold Lib.cut;rw[index];rfl
 |x::a=>by
  have y:=VV c a;have A:=index_ge a [c]
  by_cases h:x=c
  ·subst h;have:index (x::a) [x]=0:=by rw[index];simp[List.isPrefixOf]
   unfold Lib.cut;rw[this];simp[e9]
  ·have C:([c]:List UInt8).isPrefixOf (x::a)=false:=by simp[List.isPrefixOf,oY h]
   have j:index (x::a) [c]=if index a [c]==-1 then-1 else index a [c]+1:=by rw[index,C];simp
   rw[e9,cN h,<-y];unfold Lib.cut;rw[j]
   by_cases u:index a [c]=-1
   ·have:(index a [c]==-1)=true:=p9.2 u;rw[this,u];simp
   ·have D:(index a [c]==-1)=false:=by rw[ZS];exact u
    rw[D];simp only[iS,iO];rw[cM (by omega),cM (by omega)];have e:(index a [c]+1).toNat=(index a [c]).toNat+1:=by omega
    rw[e,ZT];simp
def VW{s:cq}{c:UInt8}(a:s.length<2^31):zZ n s [c]=some (e9 c s):=by
 unfold zZ;rw[cM (by omega),VV]
end
end
section
def Sg(c:UInt8):∀(l:cq)(a:Nat),parseUint10 a (l++[c])=match parseUint10 a l with|.ok v=>parseUint10 v [c]|e=>e
 |[],a=>by simp[parseUint10]
 |x::l,a=>by
  rw[o9,parseUint10,parseUint10];split
  ·split
   ·rfl
   ·split
    ·rfl
    ·exact Sg c l _
  ·rfl
def SX:∀u:Nat,u<1000000000000000000->parseUint10 0 (decDigits u)=.ok u:=by
 intro u;induction u using Nat.strongRecOn with
 |_ u a=>
  intro e
  by_cases h:u<10
  ·rw[po h];simp only[parseUint10,zN h];rw[cM (by omega),cN (by omega),cN (by omega)]
   congr 1;omega
  ·rw[sq h,Sg,a _ (by omega) (by omega)];simp only[parseUint10,zN (show u % 10<10 by omega)];rw[cM (by omega),cN (by omega),cN (by omega)]
   congr 1;omega
def adz{u:Nat}(h:u<1000000000000000000):atoiAll (decDigits u)=.ok u:=by
 have e:parseMag (decDigits u)=.ok u:=by unfold parseMag;rw[cN (ve u),SX u h]
 cases a:decDigits u with
 |nil=>exact absurd a (ve u)
 |cons c r=>
  have:=wH u c (by rw[a];simp);rw[atoiAll_plain c r (by omega) (by omega),<-a,e];unfold signless;simp only;rw[cN (by omega)]
def NA{x:Int}(e:-1000000000000000000<x)(j:x<1000000000000000000):atoiAll (itoa x)=.ok x:=by
 by_cases c:0<=x
 ·obtain⟨u,rfl⟩:=hV c;rw[nO,adz (by omega)]
 ·obtain⟨u,rfl⟩:∃u:Nat,x=-(u:Int):=⟨x.natAbs,by omega⟩;rw[itoa_neg (by omega),atoiAll_minus];have a:parseMag (decDigits u)=.ok u:=by unfold parseMag;rw[cN (ve u),SX u (by omega)]
  rw[a];unfold signed;simp only;rw[cN (by omega)]
section
variable{n:Nat}
def Eo{s:cq}(y:s.length<2^40):∃v b,w6 n s=some (v,b)/\(b=true->s=itoa v/\-9223372036854775808<=v/\v<=9223372036854775807)/\∀u:Int,-1000000000000000000<u->u<1000000000000000000->s=itoa u->b=true/\v=u:=by
 unfold w6 Gu;rw[cM (by omega),cw];cases h:atoiAll s with
 |ok v=>
  have x:=atoiAll_bounds h;refine⟨v,dz (itoa v) s,?_,λe=>?_,λu a j e=>?_⟩
  ·simp only[dT,hY,cP];unfold oB;rw[cM (by omega),cw]
  ·simp only[kX,dQ] at e;exact⟨e.symm,x⟩
  ·rw[e,NA a j] at h;cases h;exact⟨by simp[kX,e],rfl⟩
 |range=>exact⟨atoiSat s,false,rfl,λe=>(by cases e),λu a j e=>by rw[e,NA a j] at h;cases h⟩
 |_=>exact⟨0,false,rfl,λe=>(by cases e),λu a j e=>by rw[e,NA a j] at h;cases h⟩
def j3(i:Nat)(r:cq):cq:=decDigits i++[58]++decDigits r.length++[58]++r
def eL(i:Nat)(r:cq):cq:=j3 i r++(lX (j3 i r)).take 12++[59]
def SY(i:Nat)(r x:cq):j3 i r++x=decDigits i++58::(decDigits r.length++58::(r++x)):=by simp[j3]
def rZ(i:Nat)(r:cq):(eL i r).length=(decDigits i).length+(decDigits r.length).length+r.length+15:=by
 simp[eL,j3,Ju];omega
def Li(u:Nat):(58:UInt8)∉decDigits u:=λh=>by
 have:=wH u _ h;have:(58:UInt8).toNat=58:=rfl;omega
def tq{u:Nat}(h:u<1000000000000):(decDigits u).length<=12:=B6 12 u (by omega) (by omega)
def Uu{i:Nat}{r:cq}(a:i<1000000000000)(x:r.length<2^29)(e:2^41<=n):EB n i r=some (eL i r):=by
 have y:=tq a;have A:=tq (u:=r.length) (by omega);have C:=Ju (j3 i r);have j:(j3 i r).length<2^30:=by simp[j3];omega
 unfold EB;rw[PD (by omega) (by omega) (by omega),nO,cw,fR (by simp;omega),cw,gA,PD (by omega) (by omega) (by omega),nO,cw,fR (by simp;omega),cw,fR (by simp;omega),cw,fR (by simp;omega),cw];rw[show decDigits i++[58]++decDigits r.length++[58]++r=j3 i r from rfl,aaQ j e,cw];rw[show fF (lX (j3 i r)) 0 12=some ((lX (j3 i r)).take 12) by unfold fF;rw[cM (by omega)];rfl,cw,fR (by simp;omega),cw,fR (by simp;omega),cw];rfl
def Uv{i:Nat}{r:cq}(a:i<1000000000000)(y:r.length<2^29)(j:2^41<=n):F6 n i r=some (eL i r):=by
 have A:=tq a;have C:=tq (u:=r.length) (by omega);have D:=Ju (j3 i r);have x:(j3 i r).length<2^30:=by simp[j3];omega
 have e:∀u:Nat,u<1000000000000->oB n (u:Int)=some (decDigits u):=λu E=>by unfold oB;rw[cM (by omega),nO]
 unfold F6;rw[e i a,cw,fR (by simp;omega),cw,gA,e _ (by omega),cw,fR (by simp;omega),cw,fR (by simp;omega),cw,fR (by simp;omega),cw];rw[show decDigits i++[58]++decDigits r.length++[58]++r=j3 i r from rfl,adw x j,cw];rw[show fF (lX (j3 i r)) 0 12=some ((lX (j3 i r)).take 12) by unfold fF;rw[cM (by omega)];rfl,cw,fR (by simp;omega),cw,fR (by simp;omega),cw];rfl
def jc(i:Nat)(s:cq):Option cq:=
 let a:=e9 58 s
 let b:=e9 58 a.2.1
 if a.2.2=true/\b.2.2=true/\0<=eB b.1/\eB b.1<=b.2.1.length/\eL i (b.2.1.take (eB b.1).toNat)<+:s then some (b.2.1.take (eB b.1).toNat) else none
def zB{i:Nat}{s r:cq}(a:s.length<1000000000000):jc i s=some r↔eL i r<+:s:=by
 constructor
 ·intro h;unfold jc at h;simp only at h;split at h
  ·rename_i j;cases h;exact j.2.2.2.2
  ·cases h
 ·rintro⟨y,rfl⟩;have u:r.length<1000000000000:=by
   have:=rZ i r
   simp at a;omega
  have e:eL i r++y=decDigits i++58::(decDigits r.length++58::(r++((lX (j3 i r)).take 12++[59]++y))):=by
   rw[eL,ke,ke,SY];simp
  have x:e9 58 (eL i r++y)=(decDigits i,decDigits r.length++58::(r++((lX (j3 i r)).take 12++[59]++y)),true):=by rw[e];exact CA (Li i)
  have A:e9 58 (decDigits r.length++58::(r++((lX (j3 i r)).take 12++[59]++y)))=(decDigits r.length,r++((lX (j3 i r)).take 12++[59]++y),true):=CA (Li _);have C:eB (decDigits r.length)=r.length:=Cz u;have D:(r++((lX (j3 i r)).take 12++[59]++y)).take r.length=r:=by simp
  unfold jc;simp only[x,A,C,fH,D];rw[cM ⟨trivial,trivial,by omega,by simp;omega,⟨y,rfl⟩⟩]
def zD{i:Nat}{s r:cq}(a:s.length<1000000000000)(h:jc i s=some r):(eL i r).length<=s.length/\r.length+15<=s.length:=by
 have:=((zB a).1 h).length_le;have:=rZ i r;omega
def fX:Nat->Nat->cq->List cq×Nat
 |0,_,_=>([],0)
 |k+1,i,s=>match jc i s with
  |none=>([],0)
  |some r=>(r::(fX k (i+1) (s.drop (eL i r).length)).1,(eL i r).length+(fX k (i+1) (s.drop (eL i r).length)).2)
def eC(s:cq):List cq×Nat:=fX (s.length+1) 0 s
def IJ:∀(k a i:Nat)(s:cq),s.length<1000000000000->s.length<k->s.length<a->fX k i s=fX a i s
 |0,_,_,_,_,h,_=>by omega
 |_,0,_,_,_,_,h=>by omega
 |k+1,a+1,i,s,e,j,u=>by
  unfold fX;cases h:jc i s with
  |none=>rfl
  |some r=>
   have:=zD e h;have:=rZ i r;simp only;rw[IJ k a (i+1) _ (by simp;omega) (by simp;omega) (by simp;omega)]
def SZ:∀(k i:Nat)(s:cq),s.length<1000000000000->(fX k i s).2<=s.length/\15*(fX k i s).1.length<=(fX k i s).2
 |0,_,_,_=>by simp[fX]
 |k+1,i,s,a=>by
  unfold fX;cases h:jc i s with
  |none=>simp
  |some r=>
   have e:=zD a h;have j:=rZ i r;have:=SZ k (i+1) (s.drop (eL i r).length) (by simp;omega);simp only[nn,gy] at this⊢;omega
def uX{s:cq}(a:s.length<1000000000000):(eC s).2<=s.length/\15*(eC s).1.length<=(eC s).2:=SZ _ _ _ a
def S0:∀(k i:Nat)(s x:cq),(s++x).length<1000000000000->(fX k i s).1<+:(fX k i (s++x)).1
 |0,_,_,_,_=>by simp[fX]
 |k+1,i,s,x,a=>by
  have e:s.length<1000000000000:=by simp at a;omega
  unfold fX;cases h:jc i s with
  |none=>simp
  |some r=>
   have j:=(zB e).1 h;have u:jc i (s++x)=some r:=(zB a).2 (j.trans (s5 s x));rw[u];simp only;have y:=j.length_le;rw[ajm y];exact List.cons_prefix_cons.2 ⟨rfl,S0 k (i+1) _ x (by simp at a⊢;omega)⟩
def adA(s x:cq)(e:(s++x).length<1000000000000):(eC s).1<+:(eC (s++x)).1:=by
 unfold eC;have a:s.length<1000000000000:=by simp at e;omega
 rw[IJ (s.length+1) ((s++x).length+1) 0 s a (by omega) (by simp;omega)];exact S0 _ _ _ _ e
def S1:∀(k i:Nat)(s r:cq),(s++eL (i+(fX k i s).1.length) r).length<1000000000000->s.length<k->(fX k i s).2=s.length->fX (k+(eL (i+(fX k i s).1.length) r).length) i (s++eL (i+(fX k i s).1.length) r)=((fX k i s).1++[r],s.length+(eL (i+(fX k i s).1.length) r).length)
 |0,_,_,_,_,h,_=>by omega
 |k+1,i,s,r,a,I,x=>by
  have u:s.length<1000000000000:=by simp at a;omega
  cases h:jc i s with
  |none=>
   have e:fX (k+1) i s=([],0):=by unfold fX;rw[h]
   rw[e] at x a⊢;have:s=[]:=og.1 x.symm;subst this;simp only[jP,rI,iC,iB] at a⊢;have D:=rZ i r;have y:jc i (eL i r)=some r:=(zB a).2 (ta _);rw[show k+1+(eL i r).length=(k+(eL i r).length)+1 by omega,fX,y];simp only[rK];have E:∀m j,fX m j []=([],0):=λm j=>by
    cases m with
    |zero=>rfl
    |succ m=>
     unfold fX
     have:jc j []=none:=rfl
     rw[this]
   rw[E];rfl
  |some q=>
   have F:=zD u h;have D:=rZ i q;have e:fX (k+1) i s=(q::(fX k (i+1) (s.drop (eL i q).length)).1,(eL i q).length+(fX k (i+1) (s.drop (eL i q).length)).2):=by
    conv=>lhs;unfold fX
    rw[h]
   generalize A:fX k (i+1) (s.drop (eL i q).length)=R at e;rw[e] at x a⊢;simp only[gy] at x a⊢;have H:i+(R.1.length+1)=i+1+R.1.length:=by omega
   rw[H] at a⊢;have C:=S1 k (i+1) (s.drop (eL i q).length) r (by rw[A];simp at a⊢;omega) (by simp;omega) (by rw[A];simp;omega);rw[A] at C;have y:jc i (s++eL (i+1+R.1.length) r)=some q:=(zB a).2 (((zB u).1 h).trans (s5 _ _));rw[show k+1+(eL (i+1+R.1.length) r).length=(k+(eL (i+1+R.1.length) r).length)+1 by omega]
   conv=>lhs;unfold fX
   rw[y];simp only;rw[ajm F.1,C];simp only[o9,eS,vV,nn];omega
def adB{s r:cq}(a:(s++eL (eC s).1.length r).length<1000000000000)(e:(eC s).2=s.length):eC (s++eL (eC s).1.length r)=((eC s).1++[r],s.length+(eL (eC s).1.length r).length):=by
 unfold eC at*;have:=S1 (s.length+1) 0 s r (by simpa using a) (by omega) e;simp only[iB] at this;rw[<-this,fg]
 congr 1
 omega
end
end
section
section
variable{n:Nat}
def Lj{i j:Nat}(h:i+j<4611686018427387904):cz .i64 (i:Int) j=((i+j:Nat):Int):=by rw[vd];omega
def Gw(s:cq)(a:Nat):Int×Int:=if(e9 58 (s.drop a)).2.2=true then(eB (e9 58 (s.drop a)).1,((a+(e9 58 (s.drop a)).1.length+1:Nat):Int)) else(-1,(s.length:Int))
def WJ{s:cq}(I:s.length<2^30)(D:2^41<=n):∀(m f i:Nat),f<=i->i<=s.length->s.length<m+i->A2 n m s i f (λE a e=>cond (cp a (eF E)) (some (-1,a)) (ck (fF E e a) λJ=>ck (na n J) λM=>some (M,cz .i64 a 1)))=some (if(e9 58 (s.drop i)).2.2=true then(eB ((s.drop f).take (i-f)++(e9 58 (s.drop i)).1),((i+(e9 58 (s.drop i)).1.length+1:Nat):Int)) else(-1,(s.length:Int)))
 |0,f,i,N,P,Q=>by omega
 |m+1,f,i,N,P,Q=>by
  by_cases F:i<s.length
  ·have j:cC (i:Int) (eF s)=true:=by rw[dE,gA];simp;omega
   have R:(s.drop f).take (i-f)++[s[i]]=(s.drop f).take (i+1-f):=by
    have u:i-f<(s.drop f).length:=by rw[nn];omega
    rw[show i+1-f=i-f+1 by omega,mU u,ZJ]
    congr 3;omega
   rw[A2,j,cP,vr F,cw,ly F,e9];have x:cp (s[i].toNat:Int) 58=decide (s[i]=58):=by
    rw[ez]
    have:=@PF s[i] 58
    have y:((58:UInt8).toNat:Int)=58:=rfl
    rw[y] at this
    simp[this]
   rw[x]
   by_cases H:s[i]=58
   ·have A:cp (i:Int) (eF s)=false:=by rw[ez,gA];simp;omega
    have S:fF s (f:Int) (i:Int)=some ((s.drop f).take (i-f)):=by
     unfold fF
     rw[cM (by omega),fH,fH]
    simp only[H,gi,dT,eW,cR,A,S,cw,vf D,gE,dO (show i<2^31 by omega)];simp
   ·simp only[H,gQ,dT,hY,cP,iO];rw[dO (by omega),WJ I D m f (i+1) (by omega) (by omega) (by omega),<-R];simp only[gy,ke,ym];split
    ·congr 3;omega
    ·rfl
  ·have:i=s.length:=by omega
   subst this;have j:cC (s.length:Int) (eF s)=false:=by rw[dE,gA];simp
   have C:cp (s.length:Int) (eF s)=true:=by rw[ez,gA];simp
   rw[A2,j,cR,C,cP,rK];rfl
def On{s:cq}{i:Nat}(a:s.length<2^30)(e:i<=s.length)(j:2^41<=n):EA n s i=some (Gw s i):=by
 unfold EA Gw;have:=WJ (n:=n) a j n i i (by omega) e (by omega);rw[vX,Ay,iC] at this;exact this
def ae9{s:cq}{at' i:Nat}(hl:s.length<2^28)(ha:at'<=s.length)(hi:i<1000000000000)(P:2^41<=n):Jb n s at' i=some (match jc i (s.drop at') with|some r=>(r,((at'+(eL i r).length:Nat):Int),true)|none=>([],(at':Int),false)):=by
 unfold Jb;rw[On (by omega) ha P,cw];unfold Gw;have S:(s.drop at').length=s.length-at':=by simp
 rcases II 58 (s.drop at') with⟨U,Y⟩|⟨a,b,U,Y,I⟩
 ·have C:jc i (s.drop at')=none:=by unfold jc;simp[Y]
  rw[Y,C];simp only[iS,iO];have hU:=On (n:=n) (s:=s) (i:=s.length) (by omega) (by omega) P;rw[hU,cw];unfold Gw;rw[rK];rfl
 ·rw[I];simp only[gE];have af:a.length+b.length+1=s.length-at':=by rw[<-S,U];simp;omega
  have J:s.drop (at'+a.length+1)=b:=by
   rw[show at'+a.length+1=at'+(a.length+1) by omega,<-rL,U]
   simp
  rw[On (by omega) (by omega) P,cw];unfold Gw;rw[J];rcases II 58 b with⟨Z,g2⟩|⟨d,body,Z,g2,Q⟩
  ·have C:jc i (s.drop at')=none:=by unfold jc;simp[I,g2]
   rw[g2,C];rfl
  ·rw[Q];simp only[gE];have aa:d.length+body.length+1=b.length:=by rw[Z];simp;omega
   have ah:=Kx d
   by_cases c1:eB d<0
   ·have C:jc i (s.drop at')=none:=by
      unfold jc
      simp only[I,Q]
      rw[cN (by omega)]
    rw[C,dE,show decide (eB d<0)=true by simpa using c1];rfl
   obtain⟨v,hv⟩:=hV (show 0<=eB d by omega);have ai:s.drop at'=decDigits v++58::body\/True:=.inr trivial;have cf:cC (eB d) 0=false:=by rw[dE];simp;omega
   rw[cf,cR];have D:cz .i64 (cz .i64 (((at'+a.length+1)+d.length+1:Nat):Int) (eB d)) 13=(((at'+a.length+1)+d.length+1+v+13:Nat):Int):=by
    rw[hv,Lj (j:=v) (by omega)];exact Lj (j:=13) (by omega)
   rw[D]
   by_cases c2:s.length<(at'+a.length+1)+d.length+1+v+13
   ·have C:jc i (s.drop at')=none:=by
      cases h:jc i (s.drop at') with
      |none=>rfl
      |some r=>
       exfalso
       have x:=(zB (by omega)).1 h
       obtain⟨y,hy⟩:=x
       have e:eL i r++y=decDigits i++58::(decDigits r.length++58::(r++((lX (j3 i r)).take 12++[59]++y))):=by
        rw[eL,ke,ke,SY];simp
       have R:e9 58 (s.drop at')=(decDigits i,decDigits r.length++58::(r++((lX (j3 i r)).take 12++[59]++y)),true):=by rw[<-hy,e];exact CA (Li i)
       rw[I] at R
       have hb:b=decDigits r.length++58::(r++((lX (j3 i r)).take 12++[59]++y)):=by injection R with _ R;injection R
       have A:e9 58 b=(decDigits r.length,r++((lX (j3 i r)).take 12++[59]++y),true):=by rw[hb];exact CA (Li _)
       rw[Q] at A
       have hd:d=decDigits r.length:=by injection A
       have ab:body=r++((lX (j3 i r)).take 12++[59]++y):=by injection A with _ A;injection A
       have aj:=(zD (by omega) h).2
       rw[hd,Cz (by omega)] at hv
       have:body.length=r.length+(12+1+y.length):=by rw[ab];simp[Ju];omega
       omega
    have ct:cC (eF s) (((at'+a.length+1)+d.length+1+v+13:Nat):Int)=true:=by rw[dE,gA];simp;omega
    rw[ct,C];rfl
   have ct:cC (eF s) (((at'+a.length+1)+d.length+1+v+13:Nat):Int)=false:=by rw[dE,gA];simp;omega
   rw[ct,cR];have E:s.drop ((at'+a.length+1)+d.length+1)=body:=by
    rw[show(at'+a.length+1)+d.length+1=(at'+a.length+1)+(d.length+1) by omega,<-rL,J,Z]
    simp
   have M:fF s (((at'+a.length+1)+d.length+1:Nat):Int) (cz .i64 (((at'+a.length+1)+d.length+1:Nat):Int) (eB d))=some (body.take v):=by
    rw[hv,jb (by omega) (by omega) (by omega) (by omega)]
    unfold fF
    rw[cM (by omega),fH,E]
    congr 2
    omega
   rw[M,cw,Uu hi (by simp;omega) P,cw];have ak:=rZ i (body.take v);have am:=tq hi;have an:=tq (u:=(body.take v).length) (by simp;omega);have ao:(body.take v).length=v:=by simp;omega
   have ht:((eB d).toNat)=v:=by omega
   have ad:jc i (s.drop at')=if eL i (body.take v)<+:s.drop at' then some (body.take v) else none:=by
    unfold jc
    simp only[I,Q,ht]
    by_cases x:eL i (body.take v)<+:s.drop at'
    ·rw[cM ⟨trivial,trivial,by omega,by omega,x⟩,cM x]
    ·rw[cN (λh=>x h.2.2.2.2),cN x]
   rw[ad];simp only[gA];have N:cz .i64 (at':Int) ((eL i (body.take v)).length:Int)=((at'+(eL i (body.take v)).length:Nat):Int):=by
    rw[jb (by omega) (by omega) (by omega) (by omega)];omega
   rw[N]
   by_cases c3:s.length<at'+(eL i (body.take v)).length
   ·have ae:¬ eL i (body.take v)<+:s.drop at':=λh=>by have:=h.length_le;omega
    have F:cC (s.length:Int) ((at'+(eL i (body.take v)).length:Nat):Int)=true:=by rw[dE];simp;omega
    rw[F,cN ae];rfl
   have F:cC (s.length:Int) ((at'+(eL i (body.take v)).length:Nat):Int)=false:=by rw[dE];simp;omega
   have H:fF s (at':Int) ((at'+(eL i (body.take v)).length:Nat):Int)=some ((s.drop at').take (eL i (body.take v)).length):=by
    unfold fF
    rw[cM (by omega),fH,fH]
    congr 2;omega
   rw[F,cR,H,cw,kX]
   by_cases x:eL i (body.take v)<+:s.drop at'
   ·have:(s.drop at').take (eL i (body.take v)).length=eL i (body.take v):=(ajn.1 x).symm;rw[this,cM x];simp[dT]
   ·have:¬ (s.drop at').take (eL i (body.take v)).length=eL i (body.take v):=λh=>x (ajn.2 h.symm);rw[cN x];simp[dT,this]
def Xq{s:cq}(x:s.length<2^28)(y:2^41<=n){k:Option (List cq×Int)}:∀(m a:Nat)(j:List cq),a<=s.length->s.length<m+a->15*j.length<=a->Eh n m s j a k=some (j++(fX (s.length-a+1) j.length (s.drop a)).1,((a+(fX (s.length-a+1) j.length (s.drop a)).2:Nat):Int))
 |0,a,j,A,C,D=>by omega
 |m+1,a,j,A,C,D=>by
  rw[Eh,cW,ae9 x A (by omega) y,cw];unfold fX;cases h:jc j.length (s.drop a) with
  |none=>simp[dT]
  |some r=>
   have u:=zD (by simp;omega) h;have E:=rZ j.length r;simp only[dT,eW,cR];rw[fW (by simp;omega) (by omega),cw,Xq x y m _ _ (by simp at u;omega) (by omega) (by simp;omega)];have e:fX (s.length-(a+(eL j.length r).length)+1) (j++[r]).length (s.drop (a+(eL j.length r).length))=fX (s.length-a) (j.length+1) ((s.drop a).drop (eL j.length r).length):=by
    rw[rL,fg,uE]
    exact IJ _ _ _ _ (by simp;omega) (by simp) (by simp at u⊢;omega)
   rw[e];simp only[ke,ym,o6]
def IK{s:cq}(a:s.length<2^28)(e:2^41<=n):zl n s=some ((eC s).1,((eC s).2:Int)):=by
 unfold zl eC;have:=Xq (n:=n) (k:=none) a e n 0 [] (by omega) (by omega) (by simp);simpa using this
def qG(s r:cq):Option cq:=if(eC s).2=s.length/\s.length+(eL (eC s).1.length r).length<=9000 then some (s++eL (eC s).1.length r) else none
def NB{s r:cq}(C:s.length<2^28)(F:r.length<2^28)(j:2^41<=n):w5 n s r=some (match qG s r with|some x=>(x,true)|none=>(s,false)):=by
 have H:=uX (s:=s) (by omega);have I:=rZ (eC s).1.length r;have D:=tq (u:=(eC s).1.length) (by omega);have E:=tq (u:=r.length) (by omega);unfold w5 qG;rw[IK C j,cw];dsimp only;rw[cW,Uu (by omega) (by omega) j,cw,fR (by omega),cw];simp only[ez,gA,dT,dE,fg]
 by_cases y:(eC s).2=s.length
 ·have a:((eC s).2:Int)=s.length:=by omega
  by_cases A:s.length+(eL (eC s).1.length r).length<=9000
  ·have e:¬ (9000:Int)<((s.length+(eL (eC s).1.length r).length:Nat):Int):=by omega
   rw[cM ⟨y,A⟩];simp only[a,gi,eW,cR,e,gQ]
  ·have e:(9000:Int)<((s.length+(eL (eC s).1.length r).length:Nat):Int):=by omega
   rw[cN (λh=>A h.2)];simp only[a,gi,eW,cR,e,cP]
 ·have a:¬ ((eC s).2:Int)=s.length:=by omega
  rw[cN (λh=>y h.1)];simp only[a,gQ,hY,cP]
def WK{s:cq}(hl:s.length<2^28)(hn:2^41<=n){k:List cq->Int->Option (List cq×Int)}:∀(m at':Nat)(x:List cq),at'<=s.length->s.length<m+at'->15*x.length<=at'->Ei n m s x at' k=k (x++(fX (s.length-at'+1) x.length (s.drop at')).1) ((at'+(fX (s.length-at'+1) x.length (s.drop at')).2:Nat):Int)
 |0,at',x,H,P,Q=>by omega
 |m+1,at',x,H,P,Q=>by
  have R:fF s (at':Int) (eF s)=some (s.drop at'):=by
   unfold fF
   rw[gA,cM (by omega),fH,fH,AE (by simp)]
  have ad:(s.drop at').length=s.length-at':=by simp
  have y:jc x.length (s.drop at')=none->k x (at':Int)=k (x++(fX (s.length-at'+1) x.length (s.drop at')).1) ((at'+(fX (s.length-at'+1) x.length (s.drop at')).2:Nat):Int):=λh=>by
   unfold fX
   rw[h]
   simp
  rw[Ei,R,cw,VW (by omega),cw];have ab:(e9 58 (s.drop at')).2.1.length<=(s.drop at').length/\(e9 58 (e9 58 (s.drop at')).2.1).1.length<=(s.drop at').length/\(e9 58 (e9 58 (s.drop at')).2.1).2.1.length<=(s.drop at').length:=by
   rcases II 58 (s.drop at') with⟨_,P⟩|⟨a,b,H,_,Q⟩
   ·rw[P];simp[e9]
   ·rw[Q];simp only;have:(s.drop at').length=a.length+b.length+1:=by rw[H];simp;omega
    rcases II 58 b with⟨_,g2⟩|⟨d,j,g1,_,g3⟩
    ·rw[g2];simp;omega
    ·rw[g3];have:b.length=d.length+j.length+1:=by rw[g1];simp;omega
     simp only;omega
  rw[VW (by omega),cw];obtain⟨v,b,I,S,U⟩:=Eo (n:=n) (s:=(e9 58 (e9 58 (s.drop at')).2.1).1) (by omega);rw[I,cw];simp only[dT];cases Y:(e9 58 (s.drop at')).2.2 with
  |false=>
   simp only[hY,cP];exact y (by unfold jc;simp[Y])
  |true=>
   cases cb:(e9 58 (e9 58 (s.drop at')).2.1).2.2 with
   |false=>
    simp only[hY,eW,cR,cP];exact y (by unfold jc;simp[Y,cb])
   |true=>
    simp only[eW,cR];have ae:=Kx (e9 58 (e9 58 (s.drop at')).2.1).1;have A:(b=true/\0<=v/\v<=(e9 58 (e9 58 (s.drop at')).2.1).2.1.length->eB (e9 58 (e9 58 (s.drop at')).2.1).1=v)/\(0<=eB (e9 58 (e9 58 (s.drop at')).2.1).1->b=true/\v=eB (e9 58 (e9 58 (s.drop at')).2.1).1):=by
     constructor
     ·rintro⟨hb,F,H⟩;obtain⟨u,rfl⟩:=hV F;have e:=(S hb).1;rw[nO] at e;rw[e,Cz (by omega)]
     ·intro F;rcases ER (e9 58 (e9 58 (s.drop at')).2.1).1 with⟨u,e,_,e2,hu⟩|⟨e,_⟩
      ·have:=U u (by omega) (by omega) (by rw[nO];exact e);exact⟨this.1,by rw[this.2,e2]⟩
      ·omega
    have C:jc x.length (s.drop at')=if 0<=eB (e9 58 (e9 58 (s.drop at')).2.1).1/\eB (e9 58 (e9 58 (s.drop at')).2.1).1<=(e9 58 (e9 58 (s.drop at')).2.1).2.1.length/\eL x.length ((e9 58 (e9 58 (s.drop at')).2.1).2.1.take (eB (e9 58 (e9 58 (s.drop at')).2.1).1).toNat)<+:s.drop at' then some ((e9 58 (e9 58 (s.drop at')).2.1).2.1.take (eB (e9 58 (e9 58 (s.drop at')).2.1).1).toNat) else none:=by
     unfold jc
     simp only[Y,cb,vV]
    generalize hd:(e9 58 (e9 58 (s.drop at')).2.1).1=d at*;generalize af:(e9 58 (e9 58 (s.drop at')).2.1).2.1=j at*;cases b with
    |false=>
     simp only[hY,cP];refine y ?_;rw[C,cN];rintro⟨F,_⟩;have:=(A.2 F).1;cases this
    |true=>
     simp only[eW,cR];have Z:lZ n v 0 (eF j)=some (decide (0<=v/\v<=j.length)):=by
      unfold lZ
      simp only[gR,gA]
      by_cases h:0<=v<;>simp[h]
     rw[Z,cw]
     by_cases E:0<=v/\v<=j.length
     ·obtain⟨u,rfl⟩:=hV E.1;have aa:=A.1 ⟨rfl,E.1,E.2⟩;rw[aa,fH] at C;have J:fF j 0 (u:Int)=some (j.take u):=by
       unfold fF
       rw[cM (by omega)]
       simp
      have ah:(j.take u).length=u:=by simp;omega
      simp only[E,uG,gi,eW,cR,J,cw,cW];rw[Uv (by omega) (by omega) hn,cw];unfold MM;rw[cw]
      by_cases N:eL x.length (j.take u)<+:s.drop at'
      ·have D:Lib.hasPrefix (s.drop at') (eL x.length (j.take u))=true:=by unfold Lib.hasPrefix;rw[ajo];exact N
       have hN:jc x.length (s.drop at')=some (j.take u):=by rw[C,cM ⟨E.1,E.2,N⟩]
       have ai:=zD (by omega) hN;have aj:=rZ x.length (j.take u);simp only[D,eW,cR];rw[fW (by simp;omega) (by omega),cw,gA];have M:cz .i64 (at':Int) ((eL x.length (j.take u)).length:Int)=((at'+(eL x.length (j.take u)).length:Nat):Int):=by
        rw[jb (by omega) (by omega) (by omega) (by omega)];omega
       rw[M,WK hl hn m _ _ (by omega) (by omega) (by simp;omega)]
       conv=>rhs;unfold fX
       rw[hN];have e:fX (s.length-(at'+(eL x.length (j.take u)).length)+1) (x++[j.take u]).length (s.drop (at'+(eL x.length (j.take u)).length))=fX (s.length-at') (x.length+1) ((s.drop at').drop (eL x.length (j.take u)).length):=by
        rw[rL,fg,uE]
        exact IJ _ _ _ _ (by simp;omega) (by simp) (by simp;omega)
       rw[e];simp only[ke,ym,o6]
      ·have D:Lib.hasPrefix (s.drop at') (eL x.length (j.take u))=false:=by
         unfold Lib.hasPrefix
         rw[<-qd,ajo];exact N
       simp only[D,hY,cP];exact y (by rw[C,cN (λh=>N h.2.2)])
     ·simp only[E,gQ,hY,cP];refine y ?_;rw[C,cN];rintro⟨F,H,_⟩;have:=(A.2 F).2;omega
def RH{s:cq}(a:s.length<2^28)(e:2^41<=n):Fg n s=some ((eC s).1,((eC s).2:Int)):=by
 unfold Fg eC;have:=λk=>WK (n:=n) (k:=k) a e n 0 [] (by omega) (by omega) (by simp);refine(this _).trans ?_;simp only[iC,jP,iB,QT,s9];have j:∀l:List cq,Jn n l=some l:=λl=>by
  unfold Jn
  simp[kM,pJ,fP,cp,cA,tV,cw]
 rw[j,cw]
def aaR{s r:cq}(D:s.length<2^28)(H:r.length<2^28)(y:2^41<=n):JP n s r=some (match qG s r with|some x=>(x,true)|none=>(s,false)):=by
 have I:=uX (s:=s) (by omega);have J:=rZ (eC s).1.length r;have E:=tq (u:=(eC s).1.length) (by omega);have F:=tq (u:=r.length) (by omega);unfold JP qG;rw[RH D y,cw];dsimp only;rw[cW,Uv (by omega) (by omega) y,cw];simp only[gA,dE];have e:cz .i64 (s.length:Int) ((eL (eC s).1.length r).length:Int)=((s.length+(eL (eC s).1.length r).length:Nat):Int):=by
  rw[jb (by omega) (by omega) (by omega) (by omega)];omega
 by_cases A:(eC s).2=s.length
 ·have a:¬ ((eC s).2:Int)<s.length:=by omega
  by_cases C:s.length+(eL (eC s).1.length r).length<=9000
  ·have j:¬ (9000:Int)<((s.length+(eL (eC s).1.length r).length:Nat):Int):=by omega
   rw[cM ⟨A,C⟩];simp only[a,gQ,cR,e,j];rw[fR (by omega),cw]
  ·have j:(9000:Int)<((s.length+(eL (eC s).1.length r).length:Nat):Int):=by omega
   rw[cN (λh=>C h.2)];simp only[a,gQ,cR,e,j,gi,cP]
 ·have a:((eC s).2:Int)<s.length:=by omega
  rw[cN (λh=>A h.1)];simp only[a,gi,cP]
end
end
section
section
variable{n:Nat}
abbrev gO(l:List dt)(i:Nat):dt:=l.getD i ⟨[],0,0,0⟩
def z7{l:List dt}{i:Nat}(h:i<l.length):gO l i=l[i]:=by
 rw[gO,iT,eN h];rfl
def nH(o:dt):Bool:=gY o.dx&&(decide (0<=o.dh/\o.dh<=2)&&(decide (-4<=o.cV/\o.cV<=4)&&(!decide (o.cV=0)&&decide (0<=o.eU/\o.eU<=1000000000000))))
def DG(a:List dt)(j:Nat):Bool:=nH (gO a j)&&gh j λk=>!decide ((gO a k).dx=(gO a j).dx)
def jg(a:List dt):Bool:=gh a.length (DG a)&&decide (1<=(a.length:Int)/\(a.length:Int)<=3)
def xS(a:List dt):Prop:=a.length<2^29/\∀o∈a,o.dx.length<2^29
def ag9{o:dt}(h:o.dx.length<2^30)(a:2^41<=n):Km n o=some (nH o):=by
 unfold Km nH;rw[rY h a];simp only[sk,cw,dT,ez];generalize decide (0<=o.dh/\o.dh<=2)=e;generalize decide (-4<=o.cV/\o.cV<=4)=j;generalize decide (o.cV=0)=u;generalize decide (0<=o.eU/\o.eU<=1000000000000)=x;cases gY o.dx<;>cases e<;>cases j<;>cases u<;>rfl
def WL{a:List dt}(h:xS a)(x:2^41<=n):FM n a=some (jg a):=by
 have A:=h.1;have u:∀i,i<a.length->∀k,yX n n a (i:Int) 0 k=if gh i (λj=>!decide ((gO a j).dx=(gO a i).dx))=true then k a i else some false:=λi e k=>
  kV (N:=i) (by omega) (L:=λm j=>yX n m a i j k) (P:=λj=>!decide ((gO a j).dx=(gO a i).dx)) (λm=>by simp[go_sem,yX]) (λm j C=>by
   have c:(j:Int)<i:=by omega
   simp only[go_sem,yX,eP (show j<a.length by omega) ⟨[],0,0,0⟩,eP e ⟨[],0,0,0⟩,c]
   grind) (by omega)
 have:=λk=>kV (N:=a.length) (by omega) (L:=λm i=>BG n m a i k) (P:=DG a) (k:=k a) (r:=some false) (λm=>by simp[go_sem,BG]) (λm i e=>by
  have y:(gO a i).dx.length<2^30:=by rw[z7 e];have:=h.2 _ (dM e);omega
  simp only[go_sem,BG,eP e ⟨[],0,0,0⟩,e,ag9 y x,DG,u i e]
  cases nH (gO a i)<;>simp) (m:=n) (by omega);unfold FM jg;rw[this];cases gh a.length (DG a)<;>simp[go_sem]
def tP(a b c:Int):lZ n a b c=some (decide (b<=a/\a<=c)):=by
 simp only[lZ,gR]
 by_cases h:b<=a<;>simp[h]
def IL{t:cq}(a:t.length<2^30)(u:2^41<=n):zy n t=some (gY t):=by
 have:=λk=>P1 a (L:=λm i=>BI n m t i k) (G:=λe=>if e.all low=true then k t else some false) (λm=>by simp[go_sem,BI]) (λm i h j=>by
  simp only[go_sem,BI,vr h,j,low,h];grind) (m:=n) (by omega);simp only[go_sem,zy,gY,tP] at this⊢;rw[this]
 grind
def abR{l:List cq}{s:cq}(u:l.length<2^30)(D:2^41<=n):HR n l s=some (decide (s∈l)):=by
 have y:MS n l s=some (lG (λx=>decide (s=x)) 0 l):=
  u4 u (L:=λm i=>A1 n m l s (cA l) i (some (-1))) (f:=some) (λm=>by simp[go_sem,A1]) (λm i h=>by simp only[go_sem,A1,dA h,h]) (by omega);unfold HR;rw[y,cw,gR]
 congr 1
 rcases qV (p:=λx=>decide (s=x)) (xs:=l) (i:=0) with⟨e,a⟩|⟨j,A,e,a,_⟩
 ·rw[e];have:s∉l:=λC=>by simpa using a s C
  simp[this]
 ·rw[e];have:s∈l:=by
   have:=fG a
   rw[this];exact dM A
  simp[this]
abbrev gS(l:List cq)(i:Nat):cq:=l.getD i []
def P5{l:List cq}{i:Nat}(h:i<l.length):gS l i=l[i]:=by
 rw[gS,iT,eN h];rfl
def afa{l:List cq}(y:l.length<2^29)(h:∀s∈l,s.length<2^29)(u:2^41<=n):D7 n l=some (gh l.length λj=>gY (gS l j)&&!decide (gS l j∈l.take j)):=by
 have:=kV (N:=l.length) (by omega) (L:=λm i=>AT n m l l (cA l) i (some true)) (P:=λj=>gY (gS l j)&&!decide (gS l j∈l.take j)) (k:=some true) (r:=some false) (λm=>by simp[go_sem,AT]) (λm i a=>by
  have x:(gS l i).length<2^30:=by rw[P5 a];have:=h _ (dM a);omega
  have e:ff l 0 (i:Int)=some (l.take i):=by unfold ff;rw[cM (by omega)];simp
  simp only[go_sem,AT,eP a [],a,IL x u,e,abR (show(l.take i).length<2^30 by simp;omega) u]
  cases gY (gS l i)<;>simp) (m:=n) (by omega);unfold D7;rw[this];cases gh l.length (λj=>gY (gS l j)&&!decide (gS l j∈l.take j))<;>simp
def ed(o:dt):Bool:=decide (0<=o.dh/\o.dh<=2)&&(decide (-4<=o.cV/\o.cV<=4)&&(!decide (o.cV=0)&&decide (0<=o.eU/\o.eU<=1000000000000)))
def abS{ops:List dt}(h:xS ops)(Z:2^41<=n):CN n ops=some (jg ops):=by
 have hl:=h.1;have J:∀k:List dt->List cq->Option Bool,∀m i:Nat,i<=ops.length->ops.length<m+i->B1 n m ops ((ops.take i).map (·.dx)) ops (cA ops) i k=if(ops.drop i).all ed=true then k ops (ops.map (·.dx)) else some false:=by
  intro k m
  induction m with
  |zero=>intro i C E;omega
  |succ m ih=>
   intro i C E
   by_cases M:i<ops.length
   ·have y:cC (i:Int) (cA ops)=true:=by rw[dE,cW];simp;omega
    rw[B1,y,cP,dA M,cw,ly M,Hz];unfold Fe;simp only[tP,cw,dT,ez,ed]
    by_cases F:0<=ops[i].dh/\ops[i].dh<=2
    ·by_cases I:-4<=ops[i].cV/\ops[i].cV<=4
     ·by_cases N:ops[i].cV=0
      ·simp[F,I,N]
      ·by_cases S:0<=ops[i].eU/\ops[i].eU<=1000000000000
       ·simp only[F,I,N,S,uG,gi,gQ,eW,hY,cR,nJ];rw[fW (by simp;omega) (by omega),cw,dO (by omega)];have:(ops.take i).map (·.dx)++[ops[i].dx]=(ops.take (i+1)).map (·.dx):=by
         rw[mU M,nq];rfl
        rw[this];exact ih (i+1) (by omega) (by omega)
       ·simp[F,I,N,S]
     ·simp[F,I]
    ·simp[F]
   ·have:i=ops.length:=by omega
    subst this;have y:cC (ops.length:Int) (cA ops)=false:=by rw[dE,cW];simp
    rw[B1,y,cR];simp
 unfold CN;have:=J (λA x=>ck (lZ n (cA A) 1 3) λP=>cond P (ck (D7 n x) λQ=>some Q) (some false)) n 0 (by omega) (by omega);refine this.trans ?_;rw[s9,tP,cW];simp only[cw];rw[afa (by simp;omega) (λs hs=>by
  obtain⟨o,R,rfl⟩:=ik.1 hs
  exact h.2 o R) Z,cw];have H:(ops.all ed&&decide (1<=(ops.length:Int)/\(ops.length:Int)<=3)&&gh (ops.map (·.dx)).length (λj=>gY (gS (ops.map (·.dx)) j)&&!decide (gS (ops.map (·.dx)) j∈(ops.map (·.dx)).take j)))=jg ops:=by
  rw[HI]
  unfold jg DG nH
  have U:∀j,j<ops.length->gS (ops.map (·.dx)) j=(gO ops j).dx:=λj u=>by rw[P5 (by simpa using u),z7 u];simp
  have Y:∀j,j<ops.length->((gO ops j).dx∈(ops.map (·.dx)).take j↔∃k,k<j/\(gO ops k).dx=(gO ops j).dx):=λj u=>by
   rw[List.mem_take_iff_getElem]
   constructor
   ·rintro⟨k,D,e⟩;simp only[o8] at D;exact⟨k,by omega,by rw[<-e,z7 (by omega)];simp⟩
   ·rintro⟨k,D,e⟩;exact⟨k,by simp;omega,by rw[<-e,z7 (by omega)];simp⟩
  have ha:ops.all ed=true↔∀j,j<ops.length->ed (gO ops j)=true:=by
   rw[jC]
   constructor
   ·intro h j u;rw[z7 u];exact h _ (dM u)
   ·intro h o R;obtain⟨j,u,rfl⟩:=p8 R;rw[<-z7 u];exact h j u
  simp only[dF,ha,mY,o8,lO,lA,dQ];constructor
  ·rintro⟨⟨C,E⟩,h3⟩;refine⟨λj u=>?_,E⟩;have a:=C j u;have b:=h3 j u;rw[U j u,Y j u] at b;simp only[ed,dF,lO,lA,dQ] at a;exact⟨⟨b.1,a⟩,λk D e=>b.2 ⟨k,D,e⟩⟩
  ·rintro⟨C,E⟩;refine⟨⟨λj u=>?_,E⟩,λj u=>?_⟩
   ·have a:=C j u;simp only[ed,dF,lO,lA,dQ];exact a.1.2
   ·have a:=C j u;rw[U j u,Y j u];exact⟨a.1.1,λ⟨k,D,e⟩=>a.2 k D e⟩
 rw[<-H];generalize gh (ops.map (·.dx)).length (λj=>gY (gS (ops.map (·.dx)) j)&&!decide (gS (ops.map (·.dx)) j∈(ops.map (·.dx)).take j))=b1;generalize decide (1<=(ops.length:Int)/\(ops.length:Int)<=3)=b2;cases ops.all ed<;>cases b2<;>rfl
def kc(o:dt):cq:=o.dx++[58]++itoa o.dh++[58]++itoa o.cV++[58]++itoa o.eU
def ia(a:List dt):cq:=eX 44 (a.map kc)
def ow{a:List dt}(h:jg a=true):(∀o∈a,nH o=true)/\1<=a.length/\a.length<=3:=by
 simp only[jg,DG,dF,mY,dQ] at h;refine⟨λo u=>?_,by omega,by omega⟩;obtain⟨j,e,rfl⟩:=p8 u;have:=(h.1 j e).1;rwa[z7 e] at this
def xg{o:dt}(h:nH o=true):gY o.dx=true/\(0<=o.dh/\o.dh<=2)/\(-4<=o.cV/\o.cV<=4)/\o.cV≠0/\0<=o.eU/\o.eU<=1000000000000:=by
 simp only[nH,dF,lO,lA,dQ] at h;exact h
def lS{t:cq}(h:gY t=true):(∀c∈t,97<=c.toNat/\c.toNat<=122)/\1<=t.length/\t.length<=8:=by
 simp only[gY,dF,jC,dQ,low] at h;exact⟨λc a=>by have:=h.1 c a;omega,by omega,by omega⟩
def afb{o:dt}(h:nH o=true):(kc o).length<=100:=by
 obtain⟨e,j,u,y,A⟩:=xg h;have:=lS e;have a:=ku (x:=o.dh) (by omega) (by omega);have b:=ku (x:=o.cV) (by omega) (by omega);have c:=ku (x:=o.eU) (by omega) (by omega);simp[kc];omega
def ES(c:UInt8)(x:cq):∀l:List cq,l≠[]->eX c (l++[x])=eX c l++[c]++x
 |[],h=>absurd rfl h
 |[a],_=>by simp[eX]
 |a::b::l,_=>by
  rw[o9,o9,eX,<-o9,ES c x (b::l) (by simp),eX];simp
def nC{x:Int}(a:2^41<=n)(h:-9000000000000000000<=x/\x<=9000000000000000000):fb n x=some (itoa x):=PD (by omega) (by omega) (by omega)
def Lk{x:Int}(h:-9000000000000000000<=x/\x<=9000000000000000000):oB n x=some (itoa x):=by unfold oB;rw[cM (by omega)]
def Jv{l:List dt}(h:∀o∈l,nH o=true):(ia l).length<=101*l.length:=by
 induction l with
 |nil=>simp[ia,eX]
 |cons o l a=>
  have u:=afb (h o (by simp));have j:=a λx hx=>h x (by simp[hx]);cases l with
  |nil=>simp[ia,eX];omega
  |cons p l=>
   have e:ia (o::p::l)=kc o++44::ia (p::l):=rfl;rw[e];simp only[fg,gy] at j⊢;omega
def RI{ops:List dt}(h:xS ops)(j:2^41<=n):EE n ops=some (if jg ops=true then ia ops else[]):=by
 unfold EE;rw[WL h j,cw];cases I:jg ops with
 |false=>rfl
 |true=>
  obtain⟨F,J,M⟩:=ow I;simp only[dT,eW,cR,gE];have C:∀m i:Nat,i<=ops.length->ops.length<m+i->yF n m ops (ia (ops.take i)) i some=some (ia ops):=by
   intro m
   induction m with
   |zero=>intro i N P;omega
   |succ m H=>
    intro i N P
    by_cases y:i<ops.length
    ·have u:cC (i:Int) (cA ops)=true:=by rw[dE,cW];simp;omega
     have D:=F _ (dM y);obtain⟨Q,Y,Z,q4,q5⟩:=xg D;have R:=lS Q;have a:=ku (x:=ops[i].dh) (by omega) (by omega);have b:=ku (x:=ops[i].cV) (by omega) (by omega);have c:=ku (x:=ops[i].eU) (by omega) (by omega);have S:=Jv (l:=ops.take i) λo D=>F o (uH D);have U:(ia (ops.take i)).length<=400:=by simp at S;omega
     have A:cz .i64 (i:Int) 1=((i+1:Nat):Int):=dO (by omega);rw[yF,u,cP]
     by_cases h0:0<i
     ·have e:cC 0 (i:Int)=true:=by rw[dE];simp;omega
      rw[e,cP];simp only[dA y,cw,nC j (show-9000000000000000000<=ops[i].dh/\ops[i].dh<=9000000000000000000 by omega),nC j (show-9000000000000000000<=ops[i].cV/\ops[i].cV<=9000000000000000000 by omega),nC j (show-9000000000000000000<=ops[i].eU/\ops[i].eU<=9000000000000000000 by omega)]
      iterate 8 rw[fR (by simp;omega),cw]
      rw[A];have:ia (ops.take i)++([44]:cq)++ops[i].dx++([58]:cq)++itoa ops[i].dh++([58]:cq)++itoa ops[i].cV++([58]:cq)++itoa ops[i].eU=ia (ops.take (i+1)):=by
       rw[mU y]
       unfold ia
       rw[nq,lz,s7,ES _ _ _ (by simp;exact⟨by omega,by rintro rfl;simp at y⟩)]
       simp[kc]
      rw[this];exact H (i+1) (by omega) (by omega)
     ·have e:cC 0 (i:Int)=false:=by rw[dE];simp;omega
      rw[e,cR];simp only[dA y,cw,nC j (show-9000000000000000000<=ops[i].dh/\ops[i].dh<=9000000000000000000 by omega),nC j (show-9000000000000000000<=ops[i].cV/\ops[i].cV<=9000000000000000000 by omega),nC j (show-9000000000000000000<=ops[i].eU/\ops[i].eU<=9000000000000000000 by omega)]
      iterate 7 rw[fR (by simp;omega),cw]
      rw[A];have E:i=0:=by omega
      subst E;have:ia (ops.take 0)++ops[0].dx++([58]:cq)++itoa ops[0].dh++([58]:cq)++itoa ops[0].cV++([58]:cq)++itoa ops[0].eU=ia (ops.take (0+1)):=by
       rw[mU y]
       simp[ia,eX,kc]
      rw[this];exact H (0+1) (by omega) (by omega)
    ·have:i=ops.length:=by omega
     subst this;have u:cC (ops.length:Int) (cA ops)=false:=by rw[dE,cW];simp
     rw[yF,u,cR,s8]
  have:=C n 0 (by omega) (by omega);exact this
def join_eq(c:UInt8):∀l:List cq,Lib.join l [c]=eX c l
 |[]=>rfl
 |[a]=>by rw[join_one];rfl
 |a::b::l=>by
  rw[join_cons,eX,<-join_eq c (b::l),join_cons];simp[joinTail]
def aae{ops:List dt}(h:xS ops)(E:2^41<=n):th n ops=some (if jg ops=true then ia ops else[]):=by
 unfold th;rw[abS h E,cw];cases F:jg ops with
 |false=>rfl
 |true=>
  obtain⟨D,H,I⟩:=ow F;simp only[dT,eW,cR,gE];have S:=Jv D;have u:∀m i:Nat,i<=ops.length->ops.length<m+i->A5 n m ((ops.take i).map kc) ops (cA ops) i (λe=>ck (CZ n e [44]) λy=>some y)=some (ia ops):=by
   intro m
   induction m with
   |zero=>intro i J M;omega
   |succ m N=>
    intro i J M
    by_cases A:i<ops.length
    ·have j:cC (i:Int) (cA ops)=true:=by rw[dE,cW];simp;omega
     have P:=D _ (dM A);obtain⟨Q,U,Y,Z,q5⟩:=xg P;have R:=lS Q;have a:=ku (x:=ops[i].dh) (by omega) (by omega);have b:=ku (x:=ops[i].cV) (by omega) (by omega);have c:=ku (x:=ops[i].eU) (by omega) (by omega);have C:cz .i64 (i:Int) 1=((i+1:Nat):Int):=dO (by omega);rw[A5,j,cP];simp only[dA A,cw,Lk (n:=n) (show-9000000000000000000<=ops[i].dh/\ops[i].dh<=9000000000000000000 by omega),Lk (n:=n) (show-9000000000000000000<=ops[i].cV/\ops[i].cV<=9000000000000000000 by omega),Lk (n:=n) (show-9000000000000000000<=ops[i].eU/\ops[i].eU<=9000000000000000000 by omega)]
     iterate 6 rw[fR (by simp;omega),cw]
     rw[fW (by simp;omega) (by omega),cw,C];have:(ops.take i).map kc++[ops[i].dx++[58]++itoa ops[i].dh++[58]++itoa ops[i].cV++[58]++itoa ops[i].eU]=(ops.take (i+1)).map kc:=by
      rw[mU A,nq];rfl
     rw[this];exact N (i+1) (by omega) (by omega)
    ·have:i=ops.length:=by omega
     subst this;have j:cC (ops.length:Int) (cA ops)=false:=by rw[dE,cW];simp
     rw[A5,j,cR,s8];unfold CZ;rw[join_eq,cM ⟨by simp;omega,by show(ia ops).length<=_;omega⟩];rfl
  have:=u n 0 (by omega) (by omega);exact this
end
end
section
section
variable{n:Nat}
def wQ{x:Int}:∀c∈itoa x,c.toNat=45\/(48<=c.toNat/\c.toNat<=57):=λc a=>by
 unfold itoa at a;split at a
 ·rcases eG.1 a with rfl|a
  ·exact .inl rfl
  ·exact .inr (wH _ c a)
 ·exact .inr (wH _ c a)
def adC{o:dt}(h:nH o=true):(44:UInt8)∉kc o:=λa=>by
 have e:=(lS (xg h).1).1;have j:(44:UInt8).toNat=44:=rfl;have u:(58:UInt8).toNat=58:=rfl;simp only[kc,eJ,gf] at a;rcases a with(((((a|a)|a)|a)|a)|a)|a
 ·have:=e _ a;omega
 ·cases a
 ·have:=wQ _ a;omega
 ·cases a
 ·have:=wQ _ a;omega
 ·cases a
 ·have:=wQ _ a;omega
def PG(x:Int):(58:UInt8)∉itoa x:=λa=>by
 have e:(58:UInt8).toNat=58:=rfl;have:=wQ _ a;omega
def Ga{o:dt}(h:nH o=true):dB 58 (kc o)=[o.dx,itoa o.dh,itoa o.cV,itoa o.eU]:=by
 have u:=(lS (xg h).1).1;have a:(58:UInt8)∉o.dx:=λx=>by
  have y:(58:UInt8).toNat=58:=rfl
  have:=u _ x;omega
 have e:kc o=eX 58 [o.dx,itoa o.dh,itoa o.cV,itoa o.eU]:=by simp[kc,eX]
 rw[e];refine w7 (by simp) λw j=>?_;simp only[eG,mq,l8] at j;rcases j with rfl|rfl|rfl|rfl
 ·exact a
 ·exact PG _
 ·exact PG _
 ·exact PG _
def Jw{ops:List dt}(a:ops≠[])(h:∀o∈ops,nH o=true):dB 44 (ia ops)=ops.map kc:=
 w7 (by simpa using a) λw e=>by
  obtain⟨o,j,rfl⟩:=ik.1 e;exact adC (h o j)
def agi(o:dt):kc o≠[]:=by simp[kc]
def adD{a:List dt}(e:a≠[]):ia a≠[]:=by
 match a,e with
 |[o],_=>exact agi o
 |o::p::l,_=>simp[ia,eX]
def Ce{x:Int}(a:0<=x)(e:x<1000000000000):eB (itoa x)=x:=by
 obtain⟨u,rfl⟩:=hV a;rw[nO,Cz (by omega)]
def abT{x:Int}(A:-1000000<=x)(e:x<1000000000000):(ru (itoa x)).1=x:=by
 by_cases c:0<=x
 ·obtain⟨u,rfl⟩:=hV c;have:(itoa (u:Int)).head?≠some 45:=by
   rw[nO]
   cases j:decDigits u with
   |nil=>simp
   |cons y l=>
    have C:=wH u y (by rw[j];simp)
    simp only[Mm,Mn,di]
    rintro rfl
    have:(45:UInt8).toNat=45:=rfl
    omega
  unfold ru;rw[cN this];exact Ce (by omega) e
 ·obtain⟨u,rfl⟩:∃u:Nat,x=-(u:Int):=⟨x.natAbs,by omega⟩;rw[itoa_neg (by omega)];have a:(45::decDigits u:cq).head?=some 45:=rfl;unfold ru;rw[cM a];simp only[ajp,s9];rw[Cz (by omega),wG (by omega) (by omega)]
def vT(w:cq):Option dt:=match dB 58 w with
 |[a,b,c,d]=>some ⟨a,eB b,(ru c).1,eB d⟩
 |_=>none
def n5:List cq->Option (List dt)
 |[]=>some []
 |w::a=>match vT w with
  |none=>none
  |some o=>match n5 a with
   |none=>none
   |some l=>some (o::l)
def afc{o:dt}(h:nH o=true)(a:o.eU<1000000000000):vT (kc o)=some o:=by
 obtain⟨e,j,u,x,y⟩:=xg h;unfold vT;rw[Ga h];simp only;rw[Ce (by omega) (by omega),abT (by omega) (by omega),Ce (by omega) (by omega)]
def Uw:∀{a:List dt},(∀o∈a,nH o=true/\o.eU<1000000000000)->n5 (a.map kc)=some a
 |[],_=>rfl
 |o::a,h=>by
  rw[lz,n5,afc (h o (by simp)).1 (h o (by simp)).2,Uw λx hx=>h x (by simp[hx])]
def NC:∀{u:List cq}{l:List dt},n5 u=some l->l.length=u.length/\∀o∈l,(∃w∈u,o.dx.length<=w.length)/\o.eU<1000000000000
 |[],l,h=>by simp only[n5,di] at h;subst h;simp
 |w::u,l,h=>by
  unfold n5 at h;cases j:vT w with
  |none=>rw[j] at h;cases h
  |some o=>
   rw[j] at h;cases A:n5 u with
   |none=>rw[A] at h;cases h
   |some I=>
    rw[A] at h;cases h;obtain⟨C,D⟩:=NC A;refine⟨by simp[C],λx hx=>?_⟩;rcases eG.1 hx with rfl|hx
    ·unfold vT at j;split at j
     ·rename_i a b c d e;cases j;exact⟨⟨w,by simp,uR (by rw[e];simp)⟩,(Kx d).2⟩
     ·cases j
    ·obtain⟨⟨y,E,F⟩,H⟩:=D x hx;exact⟨⟨y,by simp[E],F⟩,H⟩
def four{l:List cq}(h:l.length=4):l=[gS l 0,gS l 1,gS l 2,gS l 3]:=by
 match l,h with
 |[a,b,c,d],_=>rfl
def WM{text:cq}{ws:List cq}(H:ws.length<2^29)(h:∀w∈ws,w.length<2^29)(C:2^41<=n){k:cq->List dt->Option (List dt×Bool)}:∀(m i:Nat)(a:List dt),i<=4->i<=ws.length->4<m+i->a.length=i->Bi n m text ws a i k=match n5 ((ws.drop i).take (4-i)) with|none=>some ([],false)|some l=>k text (a++l)
 |0,i,a,I,J,M,N=>by omega
 |m+1,i,a,I,J,M,N=>by
  by_cases E:i<ws.length
  ·have x:cC (i:Int) (cA ws)=true:=by rw[dE,cW];simp;omega
   rw[Bi,x,cP]
   by_cases P:i<4
   ·have y:dI (i:Int) 3=true:=by rw[gR];simp;omega
    have D:oz n ws[i] 58=some (dB 58 ws[i]):=CP (c:=58) (by have:=h _ (dM E);omega) C;rw[y,cP,dA E];simp only[cw,D];rw[ly E,show 4-i=(4-(i+1))+1 by omega,ZT,n5]
    by_cases u:(dB 58 ws[i]).length=4
    ·have Q:=four u;have F:vT ws[i]=some ⟨gS (dB 58 ws[i]) 0,eB (gS (dB 58 ws[i]) 1),(ru (gS (dB 58 ws[i]) 2)).1,eB (gS (dB 58 ws[i]) 3)⟩:=by
      unfold vT
      rw[Q]
      rfl
     rw[F];have q:∀j,j<4->cm (dB 58 ws[i]) ((j:Nat):Int)=some (gS (dB 58 ws[i]) j):=λj R=>eP (by omega) [];have A:cp (cA (dB 58 ws[i])) 4=true:=by rw[ez,cW,u];rfl
     simp only[A,dT,eW,cR];rw[show(2:Int)=((2:Nat):Int) from rfl,q 2 (by omega)];simp only[cw,KW C];rw[show(0:Int)=((0:Nat):Int) from rfl,q 0 (by omega)];simp only[cw];rw[show(1:Int)=((1:Nat):Int) from rfl,q 1 (by omega)];simp only[cw,vf C];rw[show(3:Int)=((3:Nat):Int) from rfl,q 3 (by omega)];simp only[cw,vf C];rw[fW (by simp;omega) (by omega),cw];rw[show cz .i64 (i:Int) ((1:Nat):Int)=((i+1:Nat):Int) from dO (by omega)];rw[WM H h C m (i+1) _ (by omega) (by omega) (by omega) (by simp;omega)];cases n5 ((ws.drop (i+1)).take (4-(i+1))) with
     |none=>rfl
     |some l=>simp
    ·have F:vT ws[i]=none:=by
       unfold vT
       split
       ·rename_i e;rw[e] at u;simp at u
       ·rfl
     have A:cp (cA (dB 58 ws[i])) 4=false:=by rw[ez,cW];simp;omega
     rw[F];simp only[A,dT,hY,cP]
   ·have:i=4:=by omega
    subst this;have y:dI ((4:Nat):Int) 3=false:=by rfl
    rw[y,cR];simp[n5]
  ·have:i=ws.length:=by omega
   subst this;have x:cC (ws.length:Int) (cA ws)=false:=by rw[dE,cW];simp
   rw[Bi,x,cR,rK];simp[n5]
def jS(text:cq):List dt×Bool:=match n5 ((dB 44 text).take 4) with
 |none=>([],false)
 |some a=>if text=[] then([],false) else if(if jg a=true then ia a else[])=text then(a,true) else([],false)
def aaS{text:cq}(H:text.length<2^28)(e:2^41<=n):Jf n text=some (jS text):=by
 unfold Jf jS;rw[show oz n text 44=some (dB 44 text) from CP (c:=44) (by omega) e,cw];have y:=JT 44 text;have a:∀w∈dB 44 text,w.length<2^29:=λw j=>by have:=uR j;omega
 have:=λk=>WM (n:=n) (text:=text) (k:=k) (ws:=dB 44 text) (by omega) a e n 0 [] (by omega) (by omega) (by omega) rfl;refine(this _).trans ?_;rw[s9,QT];cases A:n5 ((dB 44 text).take 4) with
 |none=>rfl
 |some out=>
  obtain⟨C,D⟩:=NC A;have E:xS out:=⟨by simp at C;omega,λo F=>by
   obtain⟨⟨w,j,I⟩,_⟩:=D o F
   have:=a w (uH j)
   omega⟩;simp only[iC,kX,RI E e,cw,dT]
  by_cases u:text=[]
  ·simp[u]
  ·by_cases x:(if jg out=true then ia out else[])=text
   ·simp[u,x]
   ·simp[u,x]
def S2{a:List dt}(h:jg a=true)(x:∀o∈a,o.eU<1000000000000):jS (ia a)=(a,true):=by
 obtain⟨e,y,A⟩:=ow h;have j:a≠[]:=by rintro rfl;simp at y
 unfold jS;rw[Jw j e,AE (by simp;omega),Uw λo u=>⟨e o u,x o u⟩];simp only;rw[cN (adD j),h,cM rfl,cM rfl]
def ET{text:cq}(h:(jS text).2=true):jg (jS text).1=true/\text=ia (jS text).1/\∀o∈(jS text).1,o.eU<1000000000000:=by
 unfold jS at h⊢;cases j:n5 ((dB 44 text).take 4) with
 |none=>rw[j] at h;cases h
 |some a=>
  rw[j] at h;simp only at h⊢
  by_cases u:text=[]
  ·rw[cM u] at h;cases h
  ·rw[cN u] at h⊢
   by_cases e:(if jg a=true then ia a else[])=text
   ·rw[cM e]
    by_cases x:jg a=true
    ·rw[cM x] at e;exact⟨x,e.symm,λo y=>((NC j).2 o y).2⟩
    ·rw[cN x] at e;exact absurd e.symm u
   ·rw[cN e] at h;cases h
def aat{text:cq}(h:(jS text).2=false):jS text=([],false):=by
 unfold jS at h⊢;cases u:n5 ((dB 44 text).take 4) with
 |none=>rfl
 |some a=>
  rw[u] at h;simp only at h⊢
  by_cases e:text=[]
  ·rw[cM e]
  ·rw[cN e] at h⊢
   by_cases j:(if jg a=true then ia a else[])=text
   ·rw[cM j] at h;cases h
   ·rw[cN j]
def WN{text:cq}{ws:List cq}(hw:ws.length<2^29)(h:∀w∈ws,w.length<2^29){k:cq->List dt->Option (List dt×Bool)}:∀(m i:Nat)(y:List dt),i<=ws.length->ws.length<m+i->y.length=i->(∀o∈y,o.dx.length<2^29)->
  ((∃D:List dt,(∀o∈D,o.dx.length<2^29)/\D.length=ws.length/\rM n m text y ws (cA ws) i k=k text D)\/rM n m text y ws (cA ws) i k=some ([],false))/\
  ∀a:List dt,(∀o∈a,nH o=true)->ws.drop i=a.map kc->rM n m text y ws (cA ws) i k=k text (y++a)
 |0,i,y,h1,h2,S,Q=>by omega
 |m+1,i,y,h1,h2,S,Q=>by
  by_cases N:i<ws.length
  ·have E:cC (i:Int) (cA ws)=true:=by rw[dE,cW];simp;omega
   have aa:=h _ (dM N);have R:q7 n ws[i] [58]=some (dB 58 ws[i]):=JU (by omega);rw[rM,E,cP,dA N];simp only[cw,R]
   by_cases F:(dB 58 ws[i]).length=4
   ·have H:cp (cA (dB 58 ws[i])) 4=true:=by rw[ez,cW,F];rfl
    have q:∀j,j<4->cm (dB 58 ws[i]) ((j:Nat):Int)=some (gS (dB 58 ws[i]) j):=λj hj=>eP (by omega) [];have P:∀j,j<4->(gS (dB 58 ws[i]) j).length<2^29:=λj hj=>by
     have:=uR (c:=58) (s:=ws[i]) (w:=gS (dB 58 ws[i]) j) (by rw[P5 (by omega)];exact dM _)
     omega
    obtain⟨U,Y,n1,y1,z1⟩:=Eo (n:=n) (s:=gS (dB 58 ws[i]) 1) (by have:=P 1 (by omega);omega);obtain⟨Z,b2,n2,y2,z2⟩:=Eo (n:=n) (s:=gS (dB 58 ws[i]) 2) (by have:=P 2 (by omega);omega);obtain⟨v3,b3,n3,y3,z3⟩:=Eo (n:=n) (s:=gS (dB 58 ws[i]) 3) (by have:=P 3 (by omega);omega);simp only[H,dT,eW,cR];rw[show(2:Int)=((2:Nat):Int) from rfl,show(0:Int)=((0:Nat):Int) from rfl,show(3:Int)=((3:Nat):Int) from rfl,show(1:Int)=((1:Nat):Int) from rfl,q 1 (by omega),q 2 (by omega),q 3 (by omega),q 0 (by omega)];simp only[cw,n1,n2,n3];have C:∀a:List dt,(∀o∈a,nH o=true)->ws.drop i=a.map kc->∃o u,a=o::u/\Y=true/\b2=true/\b3=true/\(⟨gS (dB 58 ws[i]) 0,U,Z,v3⟩:dt)=o/\ws.drop (i+1)=u.map kc:=by
     intro a A e
     rw[ly N] at e
     cases a with
     |nil=>cases e
     |cons o a=>
      rw[lz] at e
      injection e with I e2
      have hb:=A o (by simp)
      have J:=Ga hb
      rw[<-I] at J
      obtain⟨r1,r2,r3,r4,r5⟩:=xg hb
      have g0:gS (dB 58 ws[i]) 0=o.dx:=by rw[J];rfl
      have g1:gS (dB 58 ws[i]) 1=itoa o.dh:=by rw[J];rfl
      have g2:gS (dB 58 ws[i]) 2=itoa o.cV:=by rw[J];rfl
      have g3:gS (dB 58 ws[i]) 3=itoa o.eU:=by rw[J];rfl
      have w1:=z1 o.dh (by omega) (by omega) g1
      have w2:=z2 o.cV (by omega) (by omega) g2
      have w3:=z3 o.eU (by omega) (by omega) g3
      exact⟨o,a,rfl,w1.1,w2.1,w3.1,by rw[g0,w1.2,w2.2,w3.2],e2⟩
    cases Y with
    |false=>
     simp only[hY,cP];refine⟨.inr trivial,λa A e=>?_⟩;obtain⟨o,u,_,M,_⟩:=C a A e;cases M
    |true=>
     cases b2 with
     |false=>
      simp only[hY,eW,cP,cR];refine⟨.inr trivial,λa A e=>?_⟩;obtain⟨o,u,_,_,M,_⟩:=C a A e;cases M
     |true=>
      cases b3 with
      |false=>
       simp only[hY,eW,cP,cR];refine⟨.inr trivial,λa A e=>?_⟩;obtain⟨o,u,_,_,_,M,_⟩:=C a A e;cases M
      |true=>
       simp only[eW,cR];rw[fW (by simp;omega) (by omega),cw];rw[show cz .i64 (i:Int) ((1:Nat):Int)=((i+1:Nat):Int) from dO (by omega)];obtain⟨a1,a2⟩:=WN (text:=text) (k:=k) hw h m (i+1) (y++[⟨gS (dB 58 ws[i]) 0,U,Z,v3⟩]) (by omega) (by omega) (by simp;omega) (λo A=>by
        rcases eJ.1 A with A|A
        ·exact Q o A
        ·rw[gf] at A;subst A;exact P 0 (by omega));refine⟨a1,λa A e=>?_⟩;obtain⟨o,u,I,_,_,_,e5,e6⟩:=C a A e;rw[a2 u (λx hx=>A x (by rw[I];simp[hx])) e6,e5,I];simp
   ·have H:cp (cA (dB 58 ws[i])) 4=false:=by rw[ez,cW];simp;omega
    simp only[H,dT,hY,cP];refine⟨.inr trivial,λa A e=>?_⟩;rw[ly N] at e;cases a with
    |nil=>cases e
    |cons o a=>
     rw[lz] at e;injection e with I e2;rw[I,Ga (A o (by simp))] at F;exact absurd rfl F
  ·have:i=ws.length:=by omega
   subst this;have E:cC (ws.length:Int) (cA ws)=false:=by rw[dE,cW];simp
   rw[rM,E,cR,rK];refine⟨.inl ⟨y,Q,S,rfl⟩,λa A e=>?_⟩;cases a with
   |nil=>simp
   |cons o a=>cases e
def Z7{text:cq}(hl:text.length<2^28)(S:2^41<=n):∃r,Fh n text=some r/\(r.2=true->jg r.1=true/\text=ia r.1)/\(r.2=false->r.1=[])/\∀u,jg u=true->text=ia u->r=(u,true):=by
 unfold Fh;rw[show q7 n text [44]=some (dB 44 text) from JU (by omega),cw];have U:=JT 44 text;have I:∀w∈dB 44 text,w.length<2^29:=λw Y=>by have:=uR Y;omega
 have C:=λk=>WN (n:=n) (text:=text) (k:=k) (ws:=dB 44 text) (by omega) I n 0 [] (by omega) (by omega) rfl (by simp);have D:∀l:List dt,rR n l=some l:=λl=>by
  unfold rR
  simp[kM,pJ,fP,cp,cA,tV,cw]
 have Q:∀j:List dt,(∀o∈j,o.dx.length<2^29)->j.length<2^29->(ck (th n j) λy=>cond (cF (dz y text)) (some ([],false)) (ck (rR n j) λA=>some (A,true)))=some (if(if jg j=true then ia j else[])=text then(j,true) else([],false)):=λj E F=>by
  rw[aae ⟨F,E⟩ S,cw,D,cw,kX,dT]
  by_cases c:(if jg j=true then ia j else[])=text<;>simp[c]
 have R:∀u,jg u=true->text=ia u->(rM n n text [] (dB 44 text) (cA (dB 44 text)) 0 λx a=>ck (th n a) λy=>cond (cF (dz y x)) (some ([],false)) (ck (rR n a) λA=>some (A,true)))=some (u,true):=λu E F=>by
  obtain⟨J,Z,l3⟩:=ow E
  have h0:u≠[]:=by rintro rfl;simp at Z
  refine((C _).2 u J (by rw[s9,F,Jw h0 J])).trans ?_
  rw[iC]
  refine(Q u (λo ho=>by have:=(lS (xg (J o ho)).1).2;omega) (by omega)).trans ?_
  rw[E,cM rfl,cM F.symm]
 rcases(C λx a=>ck (th n a) λy=>cond (cF (dz y x)) (some ([],false)) (ck (rR n a) λA=>some (A,true))).1 with⟨j,E,F,H⟩|H
 ·have M:=H.trans (Q j E (by omega));refine⟨_,M,λe=>?_,λe=>?_,λu N g2=>?_⟩
  ·by_cases c:(if jg j=true then ia j else[])=text
   ·rw[cM c]
    by_cases P:jg j=true
    ·rw[cM P] at c;exact⟨P,c.symm⟩
    ·rw[cN P] at c;exfalso;subst c;have h5:(rM n n ([]:cq) [] (dB 44 []) (cA (dB 44 [])) ((0:Nat):Int) λx a=>ck (th n a) λy=>cond (cF (dz y x)) (some ([],false)) (ck (rR n a) λA=>some (A,true)))=some ([],false):=by
      obtain⟨m,rfl⟩:∃m,n=m+1:=⟨n-1,by omega⟩
      have e1:(dB 44 []:List cq)=[[]]:=rfl
      rw[e1,rM]
      have e2:q7 (m+1) [] [58]=some [[]]:=JU (n:=m+1) (c:=58) (s:=[]) (by simp)
      have e3:cm ([[]]:List cq) ((0:Nat):Int)=some []:=rfl
      have e4:cC ((0:Nat):Int) (cA ([[]]:List cq))=true:=rfl
      rw[e4,cP,e3]
      simp only[cw,e2]
      rfl
     have h6:=gV (h5.symm.trans M);rw[<-h6] at e;cases e
   ·rw[cN c] at e;cases e
  ·by_cases c:(if jg j=true then ia j else[])=text
   ·rw[cM c] at e;cases e
   ·rw[cN c]
  ·exact gV (M.symm.trans (R u N g2))
 ·refine⟨([],false),H,λe=>(by cases e),λ_=>rfl,λu N g2=>?_⟩;exact gV (H.symm.trans (R u N g2))
def P6(text:cq):Prop:=∀a,jg a=true->text=ia a->∀o∈a,o.eU<1000000000000
end
end
section
section
variable{n:Nat}
structure oQ(l:cG):Prop where
 n1:l.name.length<=100
 n2:l.cL.length<=100
 n3:l.to.length<=100
 z1:l.dJ.length<=1000
 z2:l.dD.length<=1000
 z3:l.eH.length<=1000
 z4:l.holds.length<=1000
def il.z{l:cG}(h:il l):oQ l:=⟨by have:=lS h.n1;omega,by have:=lS h.n2;omega,by have:=lS h.n3;omega,by have:=h.l3;omega,by have:=h.s3;omega,by have:=h.b;omega,by have:=h.h6;omega⟩
def oQ.s{l:cG}(h:oQ l):Dr l:=⟨by have:=h.n1;omega,by have:=h.n2;omega,by have:=h.n3;omega⟩
def Gb{l:cG}(h:oQ l):wZ n l=some l:=by
 have:=h.z1;have:=h.z2;have:=h.z3;have:=h.z4;unfold wZ;rw[fW (by simp;omega) (by omega),fW (by simp;omega) (by omega),fW (by simp;omega) (by omega),fW (by simp;omega) (by omega)];simp only[cw,iC]
def Kz{u e R:Type}{xs:List u}{f:u->e}(E:xs.length<2^29){L:Nat->List e->Int->Option R}{k:List e->Option R}(A:∀m a,a.length=xs.length->L (m+1) a xs.length=k a)(x:∀m i a(h:i<xs.length),a.length=i->L (m+1) a i=L m (a++[f xs[i]]) (cz .i64 i 1)){m:Nat}(F:xs.length<m):L m [] 0=k (xs.map f):=by
 have j:∀m i:Nat,i<=xs.length->xs.length<m+i->L m ((xs.take i).map f) i=k (xs.map f):=by
  intro m
  induction m with
  |zero=>intro i x C;omega
  |succ m D=>
   intro i C H
   by_cases y:i<xs.length
   ·rw[x m i _ y (by simp;omega),dO (by omega)];have:(xs.take i).map f++[f xs[i]]=(xs.take (i+1)).map f:=by
     rw[mU y,nq];rfl
    rw[this];exact D (i+1) (by omega) (by omega)
   ·have:i=xs.length:=by omega
    subst this;rw[A _ _ (by simp),s8]
 have:=j m 0 (by omega) (by omega);simpa using this
def ze{cJ:List cG}(u:cJ.length<2^29)(h:∀l∈cJ,oQ l)(x:2^41<=n):rP n cJ=some cJ:=by
 unfold rP;have:=Kz (f:=λl=>l) u (L:=λm a i=>AV n m cJ a i λe=>some e) (k:=some) (λm a _=>by simp[go_sem,AV]) (λm i a j y=>by
  simp only[AV,dE,cW,dA j,Gb (h _ (dM j)),cw,show decide ((i:Int)<cJ.length)=true by simp;omega,cP]
  rw[fW (by simp;omega) (by omega),cw]) (m:=n) (by omega);simpa using this
def kR(a:List cG)(name:cq):Int:=lG (λl=>decide (l.name=name)) 0 a
def pG(a:Int):List cG->List dt->Option (List cG)
 |cJ,[]=>some cJ
 |cJ,o::e=>if kR cJ o.dx<0 then none else if sI (gL cJ (kR cJ o.dx).toNat) ⟨a,o.dh,o.cV⟩ o.eU=true then pG a (cJ.set (kR cJ o.dx).toNat (xG (gL cJ (kR cJ o.dx).toNat) ⟨a,o.dh,o.cV⟩)) e else none
def iK(a:List cG):Prop:=a.length<=1000/\∀l∈a,il l
def sD{l:List cG}{i:Nat}(h:i<l.length):gL l i=l[i]:=by
 rw[gL,iT,eN h];rfl
def xp{l:List cG}{i:Nat}(h:i<l.length):gL l i∈l:=by rw[sD h];exact dM h
def KA{a:List cG}{name:cq}(h:0<=kR a name):∃k,kR a name=((k:Nat):Int)/\k<a.length/\(gL a k).name=name:=by
 unfold kR at*;rcases qV (p:=λl:cG=>decide (l.name=name)) (xs:=a) (i:=0) with⟨e,_⟩|⟨j,u,e,x,_⟩
 ·omega
 ·exact⟨j,by rw[e];simp,u,by rw[sD u];simpa using x⟩
def iK.set{cJ:List cG}(h:iK cJ){i:Nat}{l:cG}(a:il l):iK (cJ.set i l):=by
 refine⟨by have:=h.1;simp;exact this,λx hx=>?_⟩;rcases Ax hx with hx|rfl
 ·exact h.2 x hx
 ·exact a
def VX{y:Int}:∀{A:List dt}{j x:List cG},iK j->pG y j A=some x->iK x/\x.map (·.name)=j.map (·.name)
 |[],j,x,h,e=>by simp only[pG,di] at e;subst e;exact⟨h,rfl⟩
 |o::A,j,x,h,e=>by
  unfold pG at e;split at e
  ·cases e
  ·rename_i H;obtain⟨k,C,u,D⟩:=KA (show 0<=kR j o.dx by omega);rw[C,fH] at e;split at e
   ·rename_i E;have F:=O9 (h.2 _ (xp u)) E;obtain⟨a,b⟩:=VX (h.set F) e;refine⟨a,b.trans ?_⟩;rw[List.map_set];have:(xG (gL j k) ⟨y,o.dh,o.cV⟩).name=(j.map (·.name))[k]'(by simpa using u):=by
     rw[List.getElem_map,<-sD u];rfl
    rw[this,Q3]
   ·cases e
def WO{cJ:List cG}{cu:Int}{ops:List dt}(H:ops.length<2^29)(C:2^41<=n):∀(m i:Nat)(a:List cG),i<=ops.length->ops.length<m+i->iK a->Bj n m cJ cu ops a i (λe=>some (e,true))=some (match pG cu a (ops.drop i) with|some x=>(x,true)|none=>(cJ,false))
 |0,i,a,I,J,y=>by omega
 |m+1,i,a,I,J,y=>by
  have M:=y.1
  by_cases F:i<ops.length
  ·have j:cC (i:Int) (cA ops)=true:=by rw[dE,cW];simp;omega
   have D:nP n a ops[i].dx=some (kR a ops[i].dx):=PB (by omega) C;rw[Bj,j,cP,dA F];simp only[cw,D];rw[ly F,pG]
   by_cases E:kR a ops[i].dx<0
   ·have:cC (kR a ops[i].dx) 0=true:=by rw[dE];simpa using E
    rw[this,cP,cM E]
   ·have N:cC (kR a ops[i].dx) 0=false:=by rw[dE];simp;omega
    obtain⟨k,P,u,Q⟩:=KA (show 0<=kR a ops[i].dx by omega);rw[N,cR,cN E,P,eP u ⟨[],[],[],0,0,0,[],[],[],[]⟩];simp only[cw,fH];rw[ae1 (y.2 _ (xp u)) C];simp only[cw]
    by_cases A:sI (gL a k) ⟨cu,ops[i].dh,ops[i].cV⟩ ops[i].eU=true
    ·rw[cM A,cM A];simp only[dT,eW,cR];rw[dO (by omega),show du a (k:Int) (xG (gL a k) ⟨cu,ops[i].dh,ops[i].cV⟩)=a.set k (xG (gL a k) ⟨cu,ops[i].dh,ops[i].cV⟩) by simp[du]];exact WO H C m (i+1) _ (by omega) (by omega) (y.set (O9 (y.2 _ (xp u)) A))
    ·rw[cN A,cN A];simp only[dT,hY,cP]
  ·have:i=ops.length:=by omega
   subst this;have j:cC (ops.length:Int) (cA ops)=false:=by rw[dE,cW];simp
   rw[Bj,j,cR,rK];simp[pG]
def adE{cJ:List cG}{cu:Int}{a:List dt}(e:a.length<2^29)(h:iK cJ)(j:2^41<=n):Jg n cJ cu a=some (match pG cu cJ a with|some x=>(x,true)|none=>(cJ,false)):=by
 unfold Jg;rw[ze (by have:=h.1;omega) (λl e=>(h.2 l e).z) j,cw];have:=WO (n:=n) (cJ:=cJ) (cu:=cu) e j n 0 cJ (by omega) (by omega) h;rw[s9] at this;exact this
def mh(a:List cG)(e:Int)(j:Bool):List cG:=a.map λl=>if j=true then qs l e else oK l e
def agj{a:List cG}{cu:Int}{e:Bool}(h:iK a)(A:2^41<=n):r9 n a cu e=some (mh a cu e):=by
 have D:=h.1;unfold r9 mh;exact Kz (f:=λl=>if e=true then qs l cu else oK l cu) (by omega) (L:=λm j i=>wA n m a cu e j i λu=>some u) (k:=some) (λm j _=>by simp[go_sem,wA]) (λm i j y E=>by
  have x:=h.2 _ (dM y)
  have C:decide ((i:Int)<a.length)=true:=by simp;omega
  cases e with
  |true=>
   simp only[wA,dE,cW,dA y,ae3 x A,Gb (VL (cu:=cu) x).z,cw,C,cP,gE]
   rw[fW (by simp;omega) (by omega),cw]
  |false=>
   simp only[wA,dE,cW,dA y,VM x A,Gb (Pb (cu:=cu) x).z,cw,C,cP,cR]
   rw[fW (by simp;omega) (by omega),cw]
   rfl) (m:=n) (by omega)
def agk{a:List cG}{e:Int}{j:Bool}(h:iK a):iK (mh a e j):=by
 refine⟨by unfold mh;rw[o8];exact h.1,λl u=>?_⟩;obtain⟨x,hx,rfl⟩:=ik.1 u;split
 ·exact VL (h.2 x hx)
 ·exact Pb (h.2 x hx)
def fy(a:List eD)(e:Int):Int:=lG (λt=>decide (t.cu=e)) 0 a
abbrev gT(l:List eD)(i:Nat):eD:=l.getD i ⟨0,0,[]⟩
def xJ{l:List eD}{i:Nat}(h:i<l.length):gT l i=l[i]:=by
 rw[gT,iT,eN h];rfl
def PH{a:List eD}{e:Int}(j:a.length<2^30)(u:2^41<=n):FL n a e=some (fy a e):=u4 j (L:=λm i=>BF n m a e i (some (-1))) (f:=some) (λm=>by simp[go_sem,BF]) (λm i h=>by simp only[go_sem,BF,dA h,h]) (by omega)
def xh{a:List eD}{cu:Int}(h:0<=fy a cu):∃k,fy a cu=((k:Nat):Int)/\k<a.length/\(gT a k).cu=cu:=by
 unfold fy at*;rcases qV (p:=λt:eD=>decide (t.cu=cu)) (xs:=a) (i:=0) with⟨e,_⟩|⟨j,u,e,x,_⟩
 ·omega
 ·exact⟨j,by rw[e];simp,u,by rw[xJ u];simpa using x⟩
def WQ{a:List eD}{cu:Int}(h:fy a cu<0):fy a cu=-1/\∀t∈a,t.cu≠cu:=by
 unfold fy at*;rcases qV (p:=λt:eD=>decide (t.cu=cu)) (xs:=a) (i:=0) with⟨e,u⟩|⟨j,y,e,u,_⟩
 ·exact⟨e,λt x=>by simpa using u t x⟩
 ·omega
def nD(a:List eD)(k:Nat)(de:Int):List eD:=a.set k {gT a k with de:=de}
def agl{a:List eD}{k:Nat}{e:Int}(u:a.length<2^30)(j:k<a.length):mz n a k e=some (nD a k e):=by
 unfold mz nD;rw[fW (by simp;omega) (by omega),cw,iC,eP j ⟨0,0,[]⟩];simp[cw,du]
def mL(u:List cG)(e:List eD)(j:cq):Option (List cG×List eD):=
 match dB 32 j with
 |[a,b,c]=>if a=[80]/\fy e (eB b)<0/\(1<=eB b/\eB b<=99)/\(jS c).2=true then
    (pG (eB b) u (jS c).1).map λl=>(l,e++[⟨eB b,1,(jS c).1⟩]) else none
 |[a,b]=>if(a=[67]\/a=[65])/\0<=fy e (eB b)/\(gT e (fy e (eB b)).toNat).de=1/\j=a++[32]++itoa (eB b) then
    some (mh u (eB b) (decide (a=[67])),nD e (fy e (eB b)).toNat (if a=[67] then 2 else 3)) else none
 |_=>none
def S3{s:cT}{jl:cq}(hr:jl.length<2^28)(h:iK s.cJ)(ht:s.cB.length<2^29)(H:2^41<=n):match mL s.cJ s.cB jl with
  |some (l,t)=>BH n s jl=some ({s with cJ:=l,cB:=t},true)
  |none=>∃x,BH n s jl=some (x,false):=by
 unfold BH mL;rw[show oz n jl 32=some (dB 32 jl) from CP (c:=32) (by omega) H,cw];have E:∀w∈dB 32 jl,w.length<2^28:=λw Z=>by have:=uR Z;omega
 generalize R:dB 32 jl=ws at E
 match ws with
 |[]=>exact absurd R (F9 32 jl)
 |[a]=>exact⟨s,rfl⟩
 |a::b::j=>
  have S:cC (cA (a::b::j)) 2=false:=by rw[dE,cW];simp;omega
  have l0:cm (a::b::j) 0=some a:=rfl;have l1:cm (a::b::j) 1=some b:=rfl;rw[S,cR];simp only[l1,l0,cw,vf H,PH (show s.cB.length<2^30 by omega) H,sk];have U:=Kx b;have hE:∀(w:cq),(w=[67]\/w=[65])->a=w->j=[]->0<=fy s.cB (eB b)->(gT s.cB (fy s.cB (eB b)).toNat).de=1->jl=a++[32]++itoa (eB b)->True:=λ_ _ _ _ _ _ _=>trivial;have I:da a [32]=some (a++[32]):=fR (by have:=E a (by simp);simp;omega);have Y:(itoa (eB b)).length<=21:=ku (by omega) (by omega);have F:da (a++[32]) (itoa (eB b))=some (a++[32]++itoa (eB b)):=fR (by have:=E a (by simp);simp;omega)
  match j with
  |[]=>
   have J:cp (cA [a,b]) 2=true:=rfl;have M:cp (cA [a,b]) 3=false:=rfl;simp only[J,M,cP,cR,gR,ez,kX]
   by_cases C:0<=fy s.cB (eB b)
   ·obtain⟨k,hk,N,aa⟩:=xh C;rw[hk,eP N ⟨0,0,[]⟩,fH];have P:(0:Int)<=(k:Int):=by omega
    have d1:decide ((0:Int)<=(k:Int))=true:=by simp
    simp only[cw,d1,cP,I,F,nC H (show-9000000000000000000<=eB b/\eB b<=9000000000000000000 by omega),agj h H,agl (show s.cB.length<2^30 by omega) N]
    by_cases y:(gT s.cB k).de=1
    ·by_cases A:jl=a++[32]++itoa (eB b)
     ·by_cases e:a=[67]
      ·rw[cM ⟨.inl e,P,y,A⟩];have u:¬ a=[80]:=by rw[e];decide
       simp only[u,e,y,gi,gQ,cP,cR];rw[<-e,<-A];simp
      ·by_cases u:a=[65]
       ·rw[cM ⟨.inr u,P,y,A⟩];have D:¬ a=[80]:=by rw[u];decide
        simp only[D,e,u,y,gi,gQ,cP,cR];rw[<-u,<-A];simp[e]
       ·rw[cN (λh=>by rcases h.1 with h|h;exact e h;exact u h)]
        by_cases D:a=[80]<;>simp[e,u,D]
     ·have Q:¬ jl=a++32::itoa (eB b):=by simpa using A
      rw[cN (λh=>A h.2.2.2)]
      by_cases e:a=[67]
      ·have u:¬ a=[80]:=by rw[e];decide
       simp only[u,e,y,gi,gQ,cP,cR];rw[<-e];simp[A,Q]
      ·by_cases u:a=[65]
       ·have D:¬ a=[80]:=by rw[u];decide
        simp only[D,e,u,y,gi,gQ,cP,cR];rw[<-u];simp[A,Q]
       ·by_cases D:a=[80]<;>simp[e,u,D]
    ·rw[cN (λh=>y h.2.2.1)]
     by_cases D:a=[80]<;>by_cases e:a=[67]<;>by_cases u:a=[65]<;>simp[y,e,u,D,-List.getD_eq_getElem?_getD]
   ·rw[cN (λh=>C h.2.1)]
    by_cases D:a=[80]<;>by_cases e:a=[67]<;>by_cases u:a=[65]<;>simp[C,e,u,D]
  |[c]=>
   have J:cp (cA [a,b,c]) 2=false:=rfl;have M:cp (cA [a,b,c]) 3=true:=rfl;have l2:cm [a,b,c] 2=some c:=rfl;simp only[J,M,l2,cP,cR,dE,kX,cw,aaS (E c (by simp)) H]
   by_cases C:a=[80]
   ·by_cases y:fy s.cB (eB b)<0
    ·by_cases A:1<=eB b/\eB b<=99
     ·by_cases e:(jS c).2=true
      ·rw[cM ⟨C,y,A,e⟩];have ab:=(ow (ET e).1).2;rw[adE (by omega) h H];simp only[C,y,A,e,uG,gi,cP,dT,eW,cR,cw];rw[fW (by simp;omega) (by omega),cw,fW (by simp;omega) (by omega),cw];cases pG (eB b) s.cJ (jS c).1 with
       |none=>exact⟨_,rfl⟩
       |some x=>simp
      ·rw[cN (λh=>e h.2.2.2)];rw[qd] at e;simp[C,y,A,e,dT]
     ·rw[cN (λh=>A h.2.2.1)];simp[C,y,A]
    ·rw[cN (λh=>y h.2.1)];simp[C,y]
   ·rw[cN (λh=>C h.1)]
    by_cases e:a=[67]<;>by_cases u:a=[65]<;>simp[C,e,u]
  |c::d::j=>
   have J:cp (cA (a::b::c::d::j)) 2=false:=by rw[ez,cW];simp;omega
   have M:cp (cA (a::b::c::d::j)) 3=false:=by rw[ez,cW];simp;omega
   simp only[J,M,cR,kX]
   by_cases C:a=[80]<;>by_cases e:a=[67]<;>by_cases u:a=[65]<;>simp[C,e,u]
end
end
section
section
variable{n:Nat}
structure pT(cB:List eD):Prop where
 t:∀t∈cB,(1<=t.cu/\t.cu<=99)/\jg t.ops=true
 d:(cB.map (·.cu)).Nodup
def Ux{a:List eD}{k:Nat}{e:Int}(j:k<a.length):(nD a k e).map (·.cu)=a.map (·.cu):=by
 unfold nD;rw[List.map_set];have:({gT a k with de:=e}:eD).cu=(a.map (·.cu))[k]'(by simpa using j):=by
  rw[List.getElem_map,xJ j]
 rw[this,Q3]
def agm{a:List eD}{k:Nat}{u:Int}(h:pT a)(e:k<a.length):pT (nD a k u):=by
 refine⟨λt j=>?_,by rw[Ux e];exact h.d⟩;rcases Ax j with j|rfl
 ·exact h.t t j
 ·have:=h.t _ (dM e);rw[xJ e];exact this
def Gx{u l:List cG}{A t:List eD}{r:cq}(H:iK u)(D:pT A)(h:mL u A r=some (l,t)):iK l/\pT t/\t.length<=A.length+1/\l.map (·.name)=u.map (·.name):=by
 unfold mL at h;split at h
 ·rename_i a b c e;split at h
  ·rename_i C;cases E:pG (eB b) u (jS c).1 with
   |none=>rw[E] at h;cases h
   |some x=>
    rw[E] at h;simp only[jx,di,eS] at h;obtain⟨rfl,rfl⟩:=h;obtain⟨J,M⟩:=VX H E;refine⟨J,⟨λt j=>?_,?_⟩,by simp,M⟩
    ·rcases eJ.1 j with j|j
     ·exact D.t t j
     ·rw[gf] at j;subst j;exact⟨C.2.2.1,(ET C.2.2.2).1⟩
    ·rw[nq,List.map_singleton,List.nodup_append];refine⟨D.d,by simp,λx hx y I=>?_⟩;rw[gf] at I;subst I;obtain⟨t,j,rfl⟩:=ik.1 hx;exact(WQ C.2.1).2 t j
  ·cases h
 ·rename_i a b e;split at h
  ·rename_i C;simp only[di,eS] at h;obtain⟨rfl,rfl⟩:=h;obtain⟨k,N,F,P⟩:=xh C.2.1;rw[N,fH];refine⟨agk H,agm D F,by simp[nD],?_⟩;unfold mh;rw[DO];refine yo λl Q=>?_;simp only[QN];split
   ·unfold qs;split<;>rfl
   ·rfl
  ·cases h
 ·cases h
def lj:List cG->List eD->List cq->Option (List cG×List eD)
 |l,t,[]=>some (l,t)
 |l,t,r::a=>match mL l t r with
  |none=>none
  |some x=>lj x.1 x.2 a
def Gy:∀{j:List cq}{a l:List cG}{e t:List eD},iK a->pT e->lj a e j=some (l,t)->iK l/\pT t/\t.length<=e.length+j.length/\l.map (·.name)=a.map (·.name)
 |[],a,l,e,t,u,y,h=>by
  simp only[lj,di,eS] at h;obtain⟨rfl,rfl⟩:=h;exact⟨u,y,by simp,rfl⟩
 |r::j,a,l,e,t,u,y,h=>by
  unfold lj at h;cases A:mL a e r with
  |none=>rw[A] at h;cases h
  |some x=>
   rw[A] at h;obtain⟨C,D,J,E⟩:=Gx u y A;obtain⟨F,H,M,I⟩:=Gy C D h;exact⟨F,H,by simp;omega,I.trans E⟩
def adF{j Zh:List cq}:∀{a:List cG}{e:List eD},lj a e (j++Zh)=(lj a e j).bind λx=>lj x.1 x.2 Zh:=by
 induction j with
 |nil=>intro a e;simp[lj]
 |cons r j u=>
  intro a e;rw[o9,lj,lj];cases mL a e r with
  |none=>rfl
  |some x=>exact u
def Uy{s0:cT}{rs:List cq}(C:∀r∈rs,r.length<2^28)(F:rs.length<2^28)(D:2^41<=n):∀(m i:Nat)(x:cT),i<=rs.length->rs.length<m+i->iK x.cJ->pT x.cB->x.cB.length<=i->A0 n m rs i s0 x (λH=>some (H,true))=some (match lj x.cJ x.cB (rs.drop i) with|some y=>({x with cJ:=y.1,cB:=y.2},true)|none=>(s0,false))
 |0,i,x,I,J,j,E,M=>by omega
 |m+1,i,x,I,J,j,E,M=>by
  by_cases u:i<rs.length
  ·have a:cC (i:Int) (cA rs)=true:=by rw[dE,cW];simp;omega
   rw[A0,a,cP,dA u,cw,ly u,lj];have e:=S3 (n:=n) (s:=x) (jl:=rs[i]) (C _ (dM u)) j (by omega) D;cases A:mL x.cJ x.cB rs[i] with
   |none=>
    rw[A] at e;obtain⟨y,N⟩:=e;rw[N];simp only[cw,dT,hY,cP]
   |some y=>
    obtain⟨l,t⟩:=y;rw[A] at e;simp only at e;obtain⟨P,Q,R,_⟩:=Gx j E A;rw[e];simp only[cw,dT,eW,cR];rw[dO (by omega)];exact Uy C F D m (i+1) _ (by omega) (by omega) P Q (by simp;omega)
  ·have:i=rs.length:=by omega
   subst this;have a:cC (rs.length:Int) (cA rs)=false:=by rw[dE,cW];simp
   rw[A0,a,cR,rK];rfl
def S4:∀(k i:Nat)(s:cq),s.length<1000000000000->∀r∈(fX k i s).1,r.length<=s.length
 |0,_,_,_,r,a=>by simp[fX] at a
 |k+1,i,s,e,r,a=>by
  unfold fX at a;cases h:jc i s with
  |none=>rw[h] at a;simp at a
  |some q=>
   rw[h] at a;have:=zD e h;rcases eG.1 a with rfl|a
   ·omega
   ·have:=S4 k (i+1) _ (by simp;omega) r a;simp at this;omega
def Oo{s r:cq}(a:s.length<1000000000000)(e:r∈(eC s).1):r.length<=s.length:=S4 _ _ _ a r e
def S5{s:cT}(j:s.dw.length<2^27)(a:iK s.base)(e:2^41<=n):En n s=some (match lj s.base [] (eC s.dw).1 with|some y=>(⟨s.id,s.base,s.dw.take (eC s.dw).2,true,y.1,y.2⟩,true)|none=>(s,false)):=by
 have x:=uX (s:=s.dw) (by omega);unfold En;rw[IK (by omega) e,cw];dsimp only;rw[show fF s.dw 0 ((eC s.dw).2:Int)=some (s.dw.take (eC s.dw).2) by unfold fF;rw[cM (by omega)];simp,cw,ze (by have:=a.1;omega) (λl j=>(a.2 l j).z) e,cw];have:=Uy (n:=n) (s0:=s) (rs:=(eC s.dw).1) (λr u=>by have:=Oo (by omega) u;omega) (by omega) e n 0 (cT.mk s.id s.base (s.dw.take (eC s.dw).2) true s.base []) (by omega) (by omega) a ⟨by simp,by simp⟩ (by simp);rw[s9] at this;exact this
def la(a:List Int):cq:=eX 44 (a.map itoa)
abbrev In(x:Int):Prop:=-1000000000000<=x/\x<=1000000000000
def wR{c:UInt8}{b:Nat}:∀{l:List cq},(∀w∈l,w.length<=b)->(eX c l).length<=(b+1)*l.length
 |[],_=>by simp[eX]
 |[a],h=>by have:=h a (by simp);simp[eX];omega
 |a::d::l,h=>by
  have u:=h a (by simp);have e:=wR (c:=c) (l:=d::l) λw j=>h w (by simp[eG.1 j]);rw[eX];simp only[fg,gy,Q4] at e⊢;omega
def Pf{xs:List Int}(J:xs.length<=1000)(h:∀x∈xs,In x)(A:2^41<=n):FO n xs=some (la xs):=by
 have u:∀m i:Nat,i<=xs.length->xs.length<m+i->y7 n m xs (la (xs.take i)) i some=some (la xs):=by
  intro m
  induction m with
  |zero=>intro i D E;omega
  |succ m C=>
   intro i D E
   by_cases j:i<xs.length
   ·have e:cC (i:Int) (cA xs)=true:=by rw[dE,cW];simp;omega
    have hx:=h _ (dM j);have F:=ku (x:=xs[i]) (by omega) (by omega);have H:(la (xs.take i)).length<=22*1000:=by
     have:=wR (c:=44) (b:=21) (l:=(xs.take i).map itoa) (λw I=>by
      obtain⟨x,hx,rfl⟩:=ik.1 I
      have:=h x (uH hx)
      exact ku (by omega) (by omega))
     simp at this
     unfold la
     simp
     omega
    rw[y7,e,cP]
    by_cases M:0<i
    ·have a:cC 0 (i:Int)=true:=by rw[dE];simp;omega
     rw[a,cP];simp only[dA j,cw,nC A (show-9000000000000000000<=xs[i]/\xs[i]<=9000000000000000000 by omega)];rw[fR (by simp;omega),cw,fR (by simp;omega),cw,dO (by omega)];have:la (xs.take i)++([44]:cq)++itoa xs[i]=la (xs.take (i+1)):=by
      rw[mU j]
      unfold la
      rw[nq,lz,s7,ES _ _ _ (by simp;exact⟨by omega,by rintro rfl;simp at j⟩)]
     rw[this];exact C (i+1) (by omega) (by omega)
    ·have a:cC 0 (i:Int)=false:=by rw[dE];simp;omega
     rw[a,cR];simp only[dA j,cw,nC A (show-9000000000000000000<=xs[i]/\xs[i]<=9000000000000000000 by omega)];rw[fR (by omega),cw,dO (by omega)];have y:i=0:=by omega
     subst y;have:la (xs.take 0)++itoa xs[0]=la (xs.take (0+1)):=by
      rw[mU j]
      simp[la,eX]
     rw[this];exact C (0+1) (by omega) (by omega)
   ·have:i=xs.length:=by omega
    subst this;have e:cC (xs.length:Int) (cA xs)=false:=by rw[dE,cW];simp
    rw[y7,e,cR,s8]
 exact u n 0 (by omega) (by omega)
structure sJ(l:cG):Prop extends oQ l where
 b1:(32:UInt8)∉l.name
 b2:(32:UInt8)∉l.cL
 b3:(32:UInt8)∉l.to
 i1:In l.fx
 i2:In l.arr
 i4:∀x∈l.dJ,In x
 i5:∀x∈l.dD,In x
 i6:∀x∈l.eH,In x
def ND{t:cq}(h:gY t=true):(32:UInt8)∉t:=λa=>by
 have e:(32:UInt8).toNat=32:=rfl;have:=(lS h).1 _ a;omega
def il.r{l:cG}(h:il l):sJ l:={h.z with
 b1:=ND h.n1,b2:=ND h.n2,b3:=ND h.n3
 i1:=by have:=h.fx;unfold In;omega
 i2:=by have:=h.arr;have:=h.fx;unfold In;omega
 i4:=λx hx=>by
  obtain⟨j,a,rfl⟩:=p8 hx
  have:=tK h (show j<3 by have:=h.l3;omega)
  rw[GM a] at this
  have:=h.cap
  unfold In;omega
 i5:=λx hx=>by
  obtain⟨j,a,rfl⟩:=p8 hx
  have:=tK h (show j<3 by have:=h.s3;omega)
  rw[GM (l:=l.dD) a] at this
  have:=h.cap
  unfold In;omega
 i6:=λx hx=>by
  obtain⟨j,a,rfl⟩:=p8 hx
  have:=h.p7 j a
  simp only[xR,dF,dQ,GM a] at this
  unfold In;omega}
def G2(l:cG):cq:=eX 32 [l.name,l.cL,l.to,itoa l.fx,itoa l.arr,la l.dJ,la l.dD,la l.eH]
def NF{a:List Int}(j:a.length<=1000)(h:∀x∈a,In x):(la a).length<=22000:=by
 have:=wR (c:=44) (b:=21) (l:=a.map itoa) (λw e=>by
  obtain⟨x,hx,rfl⟩:=ik.1 e
  have:=h x hx
  exact ku (by omega) (by omega));simp at this;unfold la;omega
def Uz{l:cG}(h:sJ l)(a:2^41<=n):Fi n l=some (G2 l):=by
 have e:=h.n1;have j:=h.n2;have u:=h.n3;have d1:=h.i1;have d2:=h.i2;have y:=ku (x:=l.fx) (by omega) (by omega);have A:=ku (x:=l.arr) (by omega) (by omega);have C:=NF h.z1 h.i4;have D:=NF h.z2 h.i5;have E:=NF h.z3 h.i6;unfold Fi;simp only[nC a (show-9000000000000000000<=l.fx/\l.fx<=9000000000000000000 by omega),nC a (show-9000000000000000000<=l.arr/\l.arr<=9000000000000000000 by omega),Pf h.z1 h.i4 a,Pf h.z2 h.i5 a,Pf h.z3 h.i6 a,cw]
 iterate 14 rw[fR (by simp;omega),cw]
 simp[G2,eX]
def JV{x y:Int}(h:itoa x=itoa y):x=y:=by
 have j:∀u:Nat,(decDigits u).head?≠some 45:=λu e=>by
  cases a:decDigits u with
  |nil=>exact ve u a
  |cons c l=>
   rw[a] at e
   have:=wH u c (by rw[a];simp)
   simp only[Mm,di] at e
   subst e
   have:(45:UInt8).toNat=45:=rfl
   omega
 unfold itoa at h;split at h<;>split at h
 ·injection h with _ h;have:=Pc h;omega
 ·exact absurd (by rw[<-h];rfl) (j y.toNat)
 ·exact absurd (by rw[h];rfl) (j x.toNat)
 ·have:=Pc h;omega
def afd(x:Int):itoa x≠[]:=by
 unfold itoa;split
 ·simp
 ·exact ve _
def agn(x:Int):(44:UInt8)∉itoa x:=λa=>by
 have e:(44:UInt8).toNat=44:=rfl;have:=wQ _ a;omega
def Gz(x:Int):(32:UInt8)∉itoa x:=λa=>by
 have e:(32:UInt8).toNat=32:=rfl;have:=wQ _ a;omega
def S6{c x:UInt8}:∀{l:List cq},x∈eX c l->x=c\/∃w∈l,x∈w
 |[],h=>by simp[eX] at h
 |[a],h=>.inr ⟨a,by simp,h⟩
 |a::b::l,h=>by
  rw[eX] at h;rcases eJ.1 h with h|h
  ·exact .inr ⟨a,by simp,h⟩
  ·rcases eG.1 h with h|h
   ·exact .inl h
   ·rcases S6 h with h|⟨w,e,h⟩
    ·exact .inl h
    ·exact .inr ⟨w,by simp[eG.1 e],h⟩
def Pg(xs:List Int):(32:UInt8)∉la xs:=λa=>by
 rcases S6 a with h|⟨w,e,h⟩
 ·cases h
 ·obtain⟨x,_,rfl⟩:=ik.1 e;exact Gz x h
def map_inj{j A:Type}{f:j->A}(u:∀x y,f x=f y->x=y):∀{a e:List j},a.map f=e.map f->a=e
 |[],[],_=>rfl
 |[],y::e,h=>by cases h
 |x::a,[],h=>by cases h
 |x::a,y::e,h=>by
  simp only[lz,lN] at h;rw[u _ _ h.1,map_inj u h.2]
def UA{c:UInt8}{l:List cq}(h:l≠[])(e:∀w∈l,w≠[]):eX c l≠[]:=by
 match l,h with
 |[a],_=>exact e a (by simp)
 |a::b::l,_=>simp[eX]
def NG{e ys:List Int}(h:la e=la ys):e=ys:=by
 have u:∀y:List Int,∀w∈y.map itoa,w≠[]/\(44:UInt8)∉w:=λy w a=>by
  obtain⟨x,_,rfl⟩:=ik.1 a
  exact⟨afd x,agn x⟩
 by_cases hx:e=[]
 ·subst hx
  by_cases j:ys=[]
  ·exact j.symm
  ·exact absurd h.symm (UA (by simpa using j) λw a=>(u ys w a).1)
 ·by_cases j:ys=[]
  ·subst j;exact absurd h (UA (by simpa using hx) λw a=>(u e w a).1)
  ·have A:=w7 (c:=44) (l:=e.map itoa) (by simpa using hx) λw a=>(u e w a).2;have C:=w7 (c:=44) (l:=ys.map itoa) (by simpa using j) λw a=>(u ys w a).2;unfold la at h;rw[h,C] at A;exact map_inj (λ_ _=>JV) A.symm
def adG{a b:cG}(y:sJ a)(A:sJ b)(h:G2 a=G2 b):a.name=b.name/\a.cL=b.cL/\a.to=b.to/\a.fx=b.fx/\a.arr=b.arr/\a.dJ=b.dJ/\a.dD=b.dD/\a.eH=b.eH:=by
 have u:∀l:cG,sJ l->dB 32 (G2 l)=[l.name,l.cL,l.to,itoa l.fx,itoa l.arr,la l.dJ,la l.dD,la l.eH]:=λl e=>by
  refine w7 (by simp) λw x=>?_
  simp only[eG,mq,l8] at x
  rcases x with rfl|rfl|rfl|rfl|rfl|rfl|rfl|rfl
  ·exact e.b1
  ·exact e.b2
  ·exact e.b3
  ·exact Gz _
  ·exact Gz _
  ·exact Pg _
  ·exact Pg _
  ·exact Pg _
 have j:=u a y;rw[h,u b A] at j;simp only[lN,jB] at j;obtain⟨C,D,E,F,H,I,J,M⟩:=j;exact⟨C.symm,D.symm,E.symm,(JV F).symm,(JV H).symm,(NG I).symm,(NG J).symm,(NG M).symm⟩
def uM{e:Type}{a b:List e}(d:e)(h:a.length=b.length):(∀j,j<a.length->a.getD j d=b.getD j d)↔a=b:=by
 constructor
 ·intro x;refine List.ext_getElem h λj u y=>?_;have:=x j u;simpa[iT,u,y] using this
 ·rintro rfl j _;rfl
def RJ{a b:dy}:a=b↔a.cu=b.cu/\a.dh=b.dh/\a.cV=b.cV:=by
 cases a;cases b;simp
def Sh{a b:dt}:a=b↔a.dx=b.dx/\a.dh=b.dh/\a.cV=b.cV/\a.eU=b.eU:=by
 cases a;cases b;simp
def aha{a b:cG}(u:sJ a)(A:sJ b)(C:2^41<=n):Ok (JO n a b) λr=>r=true↔a=b:=by
 unfold JO;rw[Uz u C,Uz A C];simp only[cw];refine eg (oJ (λx=>eg (dr (λD=>eg (dr (λy=>?_) λy=>?_)) λD=>?_)) λx=>?_)
 ·have F:a.holds.length=b.holds.length:=by simp only[go_sem] at y;omega
  have J:=u.z4;have H:=kV (N:=a.holds.length) (by omega) (L:=λm i=>BK n m i a b (some true)) (P:=λj=>decide ((gH a.holds j).cu=(gH b.holds j).cu)&&(decide ((gH a.holds j).dh=(gH b.holds j).dh)&&decide ((gH a.holds j).cV=(gH b.holds j).cV))) (k:=some true) (r:=some false) (λm=>by simp[go_sem,BK]) (λm i I=>by
   have e:decide ((i:Int)<a.holds.length)=true:=by simp;omega
   simp only[BK,dE,cW,e,cP,eP I ⟨0,0,0⟩,eP (show i<b.holds.length by omega) ⟨0,0,0⟩,cw,fP,ez,dT]
   generalize(decide ((gH a.holds i).cu=(gH b.holds i).cu)&&(decide ((gH a.holds i).dh=(gH b.holds i).dh)&&decide ((gH a.holds i).cV=(gH b.holds i).cV)))=z
   cases z<;>rfl) (m:=n) (by omega);rw[H];obtain⟨M,Q,R,S,U,Y,Z,e8⟩:=adG u A x;have E:(gh a.holds.length λj=>decide ((gH a.holds j).cu=(gH b.holds j).cu)&&(decide ((gH a.holds j).dh=(gH b.holds j).dh)&&decide ((gH a.holds j).cV=(gH b.holds j).cV)))=true↔a.holds=b.holds:=by
   rw[<-uM ⟨0,0,0⟩ F,mY]
   simp only[dF,dQ,RJ]
  split
  ·rename_i e;refine cH ⟨λ_=>?_,λ_=>rfl⟩;have:=E.1 e;cases a;cases b;simp_all
  ·rename_i e;refine cH ⟨λh=>(by cases h),λh=>absurd (E.2 (by rw[h])) e⟩
 ·refine cH ⟨λh=>(by cases h),λh=>absurd (by rw[h]) y⟩
 ·refine cH ⟨λh=>(by cases h),λh=>absurd (by rw[h]) D⟩
 ·refine cH ⟨λh=>(by cases h),λh=>absurd (by rw[h]) x⟩
def ago{a b:List dt}(D:a.length<2^29)(E:2^41<=n):Ok (Jq n a b) λr=>r=true↔a=b:=by
 unfold Jq;refine eg (dr (λu=>?_) λu=>?_)
 ·have y:a.length=b.length:=by simp only[go_sem] at u;omega
  have A:=kV (N:=a.length) (by omega) (L:=λm i=>Bq n m a b i (some true)) (P:=λj=>decide ((gO a j).dx=(gO b j).dx)&&(decide ((gO a j).dh=(gO b j).dh)&&(decide ((gO a j).cV=(gO b j).cV)&&decide ((gO a j).eU=(gO b j).eU)))) (k:=some true) (r:=some false) (λm=>by simp[go_sem,Bq]) (λm i C=>by
   have e:decide ((i:Int)<a.length)=true:=by simp;omega
   simp only[Bq,dE,cW,e,cP,eP C ⟨[],0,0,0⟩,eP (show i<b.length by omega) ⟨[],0,0,0⟩,cw,fP,ez,kX,dT]
   generalize(decide ((gO a i).dx=(gO b i).dx)&&(decide ((gO a i).dh=(gO b i).dh)&&(decide ((gO a i).cV=(gO b i).cV)&&decide ((gO a i).eU=(gO b i).eU))))=z
   cases z<;>rfl) (m:=n) (by omega);rw[A];have x:(gh a.length λj=>decide ((gO a j).dx=(gO b j).dx)&&(decide ((gO a j).dh=(gO b j).dh)&&(decide ((gO a j).cV=(gO b j).cV)&&decide ((gO a j).eU=(gO b j).eU))))=true↔a=b:=by
   rw[<-uM ⟨[],0,0,0⟩ y,mY]
   simp only[dF,dQ,Sh]
  split
  ·rename_i e;exact cH ⟨λ_=>x.1 e,λ_=>rfl⟩
  ·rename_i e;refine cH ⟨λh=>(by cases h),λh=>absurd (x.2 h) e⟩
 ·refine cH ⟨λh=>(by cases h),λh=>absurd (by rw[h]) u⟩
end
end
end Go.Ev
