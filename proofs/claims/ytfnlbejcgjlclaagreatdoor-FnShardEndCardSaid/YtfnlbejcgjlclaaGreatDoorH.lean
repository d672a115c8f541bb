/- Laws of the plain functions, 2. -/
import Derived.Test.YtfnlbejcgjlclaaGreatDoorG
set_option linter.all false
namespace Go.Ev
open Go Go.Lib
section
section
variable{n:Nat}
def DH{p:Prop}{o:Option Bool}(h:Ok o λr=>r=true↔p):o=some (@decide p (Classical.propDecidable p)):=by
 obtain⟨r,e,h⟩:=h;rw[e]
 congr 1
 rw[HI,h];simp
structure yh(s:cT):Prop where
 bl:s.base.length<=1000
 bz:∀l∈s.base,oQ l
 lg:s.dw.length<100000
 ll:s.cJ.length<=1000
 lr:∀l∈s.cJ,sJ l
 tl:s.cB.length<=20000
 tz:∀t∈s.cB,t.ops.length<=1000
def Si{a b:eD}:a=b↔a.cu=b.cu/\a.de=b.de/\a.ops=b.ops:=by
 cases a;cases b;simp
def agp{a b:cT}(Q:∀l∈a.cJ,sJ l)(R:a.cJ.length<=1000)(S:∀l∈b.cJ,sJ l)(U:a.cB.length<=20000)(u:∀t∈a.cB,t.ops.length<=1000)(I:2^41<=n):Ok (Jr n a b) λr=>r=true↔a.cJ=b.cJ/\a.cB=b.cB:=by
 unfold Jr;refine eg (dr (λx=>eg (dr (λy=>?_) λy=>?_)) λx=>?_)
 ·have Y:a.cJ.length=b.cJ.length:=by simp only[go_sem] at x;omega
  have Z:a.cB.length=b.cB.length:=by simp only[go_sem] at y;omega
  have A:=kV (N:=a.cB.length) (by omega) (L:=λm i=>wm n m i a b (some true)) (P:=λj=>decide ((gT a.cB j).cu=(gT b.cB j).cu)&&(decide ((gT a.cB j).de=(gT b.cB j).de)&&@decide ((gT a.cB j).ops=(gT b.cB j).ops) (Classical.propDecidable _))) (k:=some true) (r:=some false) (λm=>by simp[go_sem,wm]) (λm i e=>by
   have C:decide ((i:Int)<a.cB.length)=true:=by simp;omega
   have D:=DH (ago (n:=n) (a:=(gT a.cB i).ops) (b:=(gT b.cB i).ops) (by rw[xJ e];have:=u _ (dM e);omega) I)
   simp only[wm,dE,cW,C,cP,eP e ⟨0,0,[]⟩,eP (show i<b.cB.length by omega) ⟨0,0,[]⟩,cw,ez,dT,D]
   generalize decide ((gT a.cB i).cu=(gT b.cB i).cu)=z1
   generalize decide ((gT a.cB i).de=(gT b.cB i).de)=z2
   generalize@decide ((gT a.cB i).ops=(gT b.cB i).ops) (Classical.propDecidable _)=z3
   cases z1<;>cases z2<;>cases z3<;>rfl) (m:=n) (by omega);have E:=kV (N:=a.cJ.length) (by omega) (L:=λm i=>Br n m i a b (λa6 b7=>wm n n 0 a6 b7 (some true))) (P:=λj=>@decide (gL a.cJ j=gL b.cJ j) (Classical.propDecidable _)) (k:=wm n n 0 a b (some true)) (r:=some false) (λm=>by simp[go_sem,Br]) (λm i e=>by
   have C:decide ((i:Int)<a.cJ.length)=true:=by simp;omega
   have D:=DH (aha (n:=n) (a:=gL a.cJ i) (b:=gL b.cJ i) (Q _ (xp e)) (S _ (xp (by omega))) I)
   simp only[Br,dE,cW,C,cP,eP e ⟨[],[],[],0,0,0,[],[],[],[]⟩,eP (show i<b.cJ.length by omega) ⟨[],[],[],0,0,0,[],[],[],[]⟩,cw,dT,D]
   generalize@decide (gL a.cJ i=gL b.cJ i) (Classical.propDecidable _)=z
   cases z<;>rfl) (m:=n) (by omega);rw[E,A];have J:(gh a.cJ.length λj=>@decide (gL a.cJ j=gL b.cJ j) (Classical.propDecidable _))=true↔a.cJ=b.cJ:=by
   rw[<-uM ⟨[],[],[],0,0,0,[],[],[],[]⟩ Y,mY]
   simp only[dQ]
  have M:(gh a.cB.length λj=>decide ((gT a.cB j).cu=(gT b.cB j).cu)&&(decide ((gT a.cB j).de=(gT b.cB j).de)&&@decide ((gT a.cB j).ops=(gT b.cB j).ops) (Classical.propDecidable _)))=true↔a.cB=b.cB:=by
   rw[<-uM ⟨0,0,[]⟩ Z,mY]
   simp only[dF,dQ,Si]
  split
  ·rename_i F;split
   ·rename_i H;exact cH ⟨λ_=>⟨J.1 F,M.1 H⟩,λ_=>rfl⟩
   ·rename_i H;exact cH ⟨λh=>(by cases h),λh=>absurd (M.2 h.2) H⟩
  ·rename_i F;exact cH ⟨λh=>(by cases h),λh=>absurd (J.2 h.1) F⟩
 ·exact cH ⟨λh=>(by cases h),λh=>absurd (by rw[h.2]) y⟩
 ·exact cH ⟨λh=>(by cases h),λh=>absurd (by rw[h.1]) x⟩
def adH{s:cq}(e:s.length<2^28)(j:2^41<=n):Kt n s=some (decide ((eC s).2=s.length/\(eC s).2<=9000)):=by
 unfold Kt;rw[IK e j];simp only[cw,ez,gA,gR]
 by_cases h:(eC s).2=s.length
 ·have a:((eC s).2:Int)=s.length:=by omega
  rw[show decide (((eC s).2:Int)=s.length)=true by simpa using a,cP];exact congrArg some (decide_eq_decide.2 (by omega))
 ·have a:¬ ((eC s).2:Int)=s.length:=by omega
  rw[show decide (((eC s).2:Int)=s.length)=false by simpa using a,cR];exact congrArg some (gP (by omega)).symm
def Jx{a:List cG}(h:oI a=true):iK a/\a.length<=6/\∀l∈a,l.holds=[]:=by
 simp only[oI,vF,pQ,dF,jC,dQ,mY] at h;refine⟨⟨by omega,λl e=>?_⟩,by omega,λl e=>h.1 l e⟩;obtain⟨j,u,rfl⟩:=p8 e;have:=(h.2.1 j u).1;rw[sD u] at this;exact Uj.1 this
def rG(s:cT):Prop:=(1<=s.id/\s.id<=2)/\oI s.base=true/\s.dw.length<=9000/\∃y,lj s.base [] (eC s.dw).1=some y/\(if s.up=true then(eC s.dw).2=s.dw.length/\s.cJ=y.1/\s.cB=y.2 else s.cJ=[]/\s.cB=[])
def vU:pT []:=⟨by simp,by simp⟩
def aaT{s:cT}(u:yh s)(D:2^41<=n):Ok (pn n s) λr=>r=true↔rG s:=by
 have P:=u.lg;unfold pn;rw[sk,cw];refine eg (ef (λx=>?_) λx=>cH ⟨λh=>(by cases h),λh=>?_⟩)
 rotate_left
 ·have:=h.1;simp only[lA] at x;exact absurd this x
 rw[dQ] at x;rw[O0 (by have:=u.bl;omega) (λl F=>(u.bz l F).s) D,cw];refine eg (ef (λE=>?_) λE=>cH ⟨λh=>(by cases h),λh=>?_⟩)
 rotate_left
 ·have:=h.2.1;rw[E] at this;cases this
 obtain⟨A,Q,_⟩:=Jx E;refine eu (λH=>cH ⟨λh=>(by cases h),λh=>?_⟩) λH=>?_
 ·have:=h.2.2.1;simp only[gA] at H;omega
 simp only[gA] at H;rw[S5 (by omega) A D,cw];cases j:lj s.base [] (eC s.dw).1 with
 |none=>
  simp only[dT,hY,cP];refine cH ⟨λh=>(by cases h),λh=>?_⟩;obtain⟨_,_,_,y,N,_⟩:=h;rw[j] at N;cases N
 |some y=>
  obtain⟨C,I,J,_⟩:=Gy (l:=y.1) (t:=y.2) A vU j;have R:=uX (s:=s.dw) (by omega);simp only[dT,eW,cR];have M:rG s↔(if s.up=true then(eC s.dw).2=s.dw.length/\s.cJ=y.1/\s.cB=y.2 else s.cJ=[]/\s.cB=[]):=by
   constructor
   ·rintro⟨_,_,_,z,u,h⟩;rw[j] at u;cases u;exact h
   ·exactλh=>⟨x,E,by omega,y,j,h⟩
  rw[show(λr=>r=true↔rG s)=(λr=>r=true↔(if s.up=true then(eC s.dw).2=s.dw.length/\s.cJ=y.1/\s.cB=y.2 else s.cJ=[]/\s.cB=[])) from funext λr=>by rw[M]];cases U:s.up with
  |false=>
   simp only[hY,cP,iS,iO];refine dr (λe=>cH ?_) λe=>cH ⟨λh=>(by cases h),λh=>absurd (by rw[h.1];rfl) e⟩;have:s.cJ=[]:=og.1 (by simp only[cW] at e;omega);rw[ez,cW,dQ];constructor
   ·intro h;exact⟨this,og.1 (by omega)⟩
   ·intro h;rw[h.2];rfl
  |true=>
   simp only[eW,cR,gE];rw[adH (by omega) D,cw];refine ef (λe=>?_) λe=>cH ⟨λh=>(by cases h),λh=>?_⟩
   ·rw[dQ] at e;refine ahK (dq (agp (n:=n) (a:=⟨s.id,s.base,s.dw.take (eC s.dw).2,true,y.1,y.2⟩) (b:=s) (λl F=>(C.2 l F).r) C.1 u.lr (by simp at J;show y.2.length<=20000;omega) (λt S=>by have:=(ow (I.t t S).2).2;omega) D) λr j=>cH j) λr j=>?_;rw[j];constructor
    ·rintro⟨a,b⟩;exact⟨e.1,a.symm,b.symm⟩
    ·rintro⟨_,a,b⟩;exact⟨a.symm,b.symm⟩
   ·rw[lA] at e;exact absurd ⟨h.1,by rw[h.1];omega⟩ e
def NH{s:cT}(e:yh s)(x:2^41<=n):wO n s=some s:=by
 have H:=e.tl;unfold wO;rw[ze (by have:=e.bl;omega) e.bz x,cw,ze (by have:=e.ll;omega) (λl y=>(e.lr l y).tooQ) x,cw];have j:∀m i:Nat,i<=s.cB.length->s.cB.length<m+i->Bk n m i s {s with base:=s.base,cJ:=s.cJ,cB:=s.cB.take i} (λA=>some A)=some s:=by
  intro m
  induction m with
  |zero=>intro i C D;omega
  |succ m E=>
   intro i C D
   by_cases u:i<s.cB.length
   ·have a:cC (i:Int) (cA s.cB)=true:=by rw[dE,cW];simp;omega
    have F:=e.tz _ (dM u);rw[Bk,a,cP,dA u,cw,fW (by simp;omega) (by omega),cw,fW (by simp;omega) (by omega),cw,dO (by omega)];have:s.cB.take i++[{s.cB[i] with ops:=[]++s.cB[i].ops}]=s.cB.take (i+1):=by
     rw[mU u];rfl
    dsimp only;rw[this];exact E (i+1) (by omega) (by omega)
   ·have:i=s.cB.length:=by omega
    subst this;have a:cC (s.cB.length:Int) (cA s.cB)=false:=by rw[dE,cW];simp
    rw[Bk,a,cR,s8]
 exact j n 0 (by omega) (by omega)
def P7(s:cT):List cO:=(s.cB.filter λt=>decide (t.de=1)).map λt=>⟨5,s.id,0,t.cu,[],false⟩
def afe{s:cT}(C:s.cB.length<=20000)(D:2^41<=n):Fa n s=some (P7 s):=by
 have j:∀m i:Nat,i<=s.cB.length->s.cB.length<m+i->∀a:List cO,a.length<=i->yR n m a i s some=some (a++((s.cB.drop i).filter λt=>decide (t.de=1)).map λt=>⟨5,s.id,0,t.cu,[],false⟩):=by
  intro m
  induction m with
  |zero=>intro i y A;omega
  |succ m u=>
   intro i y A a E
   by_cases x:i<s.cB.length
   ·have e:cC (i:Int) (cA s.cB)=true:=by rw[dE,cW];simp;omega
    rw[yR,e,cP,dA x,cw,dO (by omega),ly x,List.filter_cons,ez]
    by_cases h:s.cB[i].de=1
    ·simp only[h,gi,cP,cw,gE];rw[fW (by simp;omega) (by omega),cw,u (i+1) (by omega) (by omega) _ (by simp;omega)];simp
    ·simp only[h,gQ,cR,iS,iO];exact u (i+1) (by omega) (by omega) a (by omega)
   ·have:i=s.cB.length:=by omega
    subst this;have e:cC (s.cB.length:Int) (cA s.cB)=false:=by rw[dE,cW];simp
    rw[yR,e,cR,rK];simp
 exact j n 0 (by omega) (by omega) [] (by simp)
def P8(s:cT):cT:=if s.up=true then s else match lj s.base [] (eC s.dw).1 with
 |some y=>⟨s.id,s.base,s.dw.take (eC s.dw).2,true,y.1,y.2⟩
 |none=>s
def aff{s:cT}(j:s.dw.length<100000)(a:iK s.base)(e:2^41<=n):Cb n s=some (P8 s):=by
 unfold Cb P8;cases u:s.up with
 |true=>rfl
 |false=>
  rw[S5 (by omega) a e];simp only[cR,cw,iS,iO];cases lj s.base [] (eC s.dw).1<;>rfl
def lD(s:cT)(a:cq):Option cT:=match qG s.dw a with
 |none=>none
 |some dw=>match mL s.cJ s.cB a with
  |none=>none
  |some y=>some {s with dw:=dw,cJ:=y.1,cB:=y.2}
def NI{s:cT}{jl:cq}(A:s.dw.length<100000)(C:jl.length<100000)(h:iK s.cJ)(D:s.cB.length<=20000)(e:2^41<=n):wF n s jl=some (match lD s jl with|some x=>(x,true)|none=>(s,false)):=by
 unfold wF lD;rw[NB (by omega) (by omega) e,cw];cases E:qG s.dw jl with
 |none=>rfl
 |some u=>
  simp only[dT,eW,cR];have a:=S3 (n:=n) (s:=s) (jl:=jl) (by omega) h (by omega) e;cases j:mL s.cJ s.cB jl with
  |none=>
   rw[j] at a;obtain⟨x,hx⟩:=a;rw[hx];rfl
  |some y=>
   rw[j] at a;simp only at a;rw[a];rfl
def mM(m:cO):cq:=(if m.yes=true then[67,32] else[65,32])++itoa m.cu
def G3(s:cT)(m:cO):cT×List cO:=
 let a:=fy s.cB m.cu
 let e:=if 0<=a then(gT s.cB a.toNat).de else 0
 if e=1 then match lD s (mM m) with
  |some x=>(x,[⟨4,s.id,0,m.cu,[],m.yes⟩])
  |none=>(s,[])
 else if(if m.yes=true then e=2 else e≠2) then(s,[⟨4,s.id,0,m.cu,[],m.yes⟩]) else(s,[])
def abU{s:cT}{m:cO}(Q:1<=m.cu/\m.cu<=99)(C:s.dw.length<100000)(h:iK s.cJ)(D:s.cB.length<=20000)(e:2^41<=n):H9 n s m=some (G3 s m):=by
 have F:=ku (x:=m.cu) (by omega) (by omega);have hC:da [67,32] (itoa m.cu)=some ([67,32]++itoa m.cu):=fR (by simp;omega);have H:da [65,32] (itoa m.cu)=some ([65,32]++itoa m.cu):=fR (by simp;omega);have I:=NI (n:=n) (s:=s) (jl:=[67,32]++itoa m.cu) C (by simp;omega) h D e;have J:=NI (n:=n) (s:=s) (jl:=[65,32]++itoa m.cu) C (by simp;omega) h D e;unfold H9 G3 mM;rw[PH (by omega) e];simp only[cw,nC e (show-9000000000000000000<=m.cu/\m.cu<=9000000000000000000 by omega),hC,H,I,J,gR]
 by_cases j:0<=fy s.cB m.cu
 ·obtain⟨k,M,u,N⟩:=xh j;have d1:decide ((0:Int)<=(k:Int))=true:=by simp
  have P:(0:Int)<=(k:Int):=by omega
  rw[M,d1,cP,eP u ⟨0,0,[]⟩,cM P,fH];simp only[cw,ez]
  by_cases a:(gT s.cB k).de=1
  ·rw[cM a];cases E:m.yes with
   |true=>
    simp only[a,gi,cP,gE];cases lD s ([67,32]++itoa m.cu)<;>rfl
   |false=>
    simp only[a,gi,cP,cR,iS,iO];cases lD s ([65,32]++itoa m.cu)<;>rfl
  ·rw[cN a];cases E:m.yes with
   |true=>
    simp only[a,gQ,cP,cR,gE,dT,eW]
    by_cases y:(gT s.cB k).de=2<;>simp only[y,gi,gQ,cP,cR,gE,iO]
   |false=>
    simp only[a,gQ,cP,cR,iS,iO,dT,hY]
    by_cases y:(gT s.cB k).de=2<;>simp only[y,gi,gQ,eW,hY,cP,cR,gE,iO,Mn,not_true_eq_false,ZU]
 ·have A:decide (0<=fy s.cB m.cu)=false:=by simpa using j
  rw[A,cR,cN j,cN (by decide)];cases E:m.yes with
  |true=>rfl
  |false=>rfl
def GP(m:cO):cq:=[80,32]++itoa m.cu++[32]++ia m.ops
def Ll(s:cT)(m:cO):cT×List cO:=
 let a:=fy s.cB m.cu
 if 0<=a then(s,[⟨2,s.id,0,m.cu,[],!decide ((gT s.cB a.toNat).de=3)⟩])
 else if jg m.ops=true then match lD s (GP m) with
  |some x=>(x,[⟨2,s.id,0,m.cu,[],true⟩])
  |none=>(s,[⟨2,s.id,0,m.cu,[],false⟩])
 else(s,[⟨2,s.id,0,m.cu,[],false⟩])
def aaU{s:cT}{m:cO}(J:1<=m.cu/\m.cu<=99)(A:xS m.ops)(C:s.dw.length<100000)(h:iK s.cJ)(D:s.cB.length<=20000)(a:2^41<=n):HX n s m=some (Ll s m):=by
 have E:=ku (x:=m.cu) (by omega) (by omega);unfold HX Ll GP;rw[PH (by omega) a];simp only[cw,gR]
 by_cases e:0<=fy s.cB m.cu
 ·obtain⟨k,F,j,H⟩:=xh e;have d1:decide ((0:Int)<=(k:Int))=true:=by simp
  have I:(0:Int)<=(k:Int):=by omega
  rw[F,d1,cP,eP j ⟨0,0,[]⟩,cM I,fH];rfl
 ·have u:decide (0<=fy s.cB m.cu)=false:=by simpa using e
  rw[u,cR,cN e,WL A a,cw];cases y:jg m.ops with
  |false=>rfl
  |true=>
   have M:=Jv (ow y).1;have N:=(ow y).2;simp only[dT,eW,cR,gE,nC a (show-9000000000000000000<=m.cu/\m.cu<=9000000000000000000 by omega),cw];rw[fR (by simp;omega),cw,fR (by simp;omega),cw,RI A a,cw,y,cM rfl,fR (by simp;omega),cw];rw[NI C (by simp;omega) h D a,cw];cases lD s ([80,32]++itoa m.cu++[32]++ia m.ops)<;>rfl
def lH(s:cT)(m:cO):cT×List cO:=
 if s.up=true/\m.to=s.id/\m.cL=0/\1<=m.cu/\m.cu<=99 then(if m.kind=1 then Ll s m else if m.kind=3 then G3 s m else(s,[])) else(s,[])
def VY{s:cT}{m:cO}(D:xS m.ops)(x:s.dw.length<100000)(h:iK s.cJ)(y:s.cB.length<=20000)(A:2^41<=n):zn n s m=some (lH s m):=by
 unfold zn lH;simp only[sk,cw,dT,ez]
 by_cases a:s.up=true
 ·by_cases e:m.to=s.id
  ·by_cases u:m.cL=0
   ·by_cases j:1<=m.cu/\m.cu<=99
    ·rw[cM ⟨a,e,u,j⟩,aaU j D x h y A,abU j x h y A];simp only[a,e,u,j,uG,gi,eW,cR,cw]
     by_cases C:m.kind=1
     ·simp[C]
     ·by_cases E:m.kind=3<;>simp[C,E]
    ·rw[cN (λh=>j h.2.2.2)];simp[a,e,u,j]
   ·rw[cN (λh=>u h.2.2.1)];simp[a,e,u]
  ·rw[cN (λh=>e h.2.1)];simp[a,e]
 ·rw[cN (λh=>a h.1)];simp[a]
end
end
section
section
variable{n:Nat}{l:cG}
def UB{c:Nat}(H:l.dD.length=3)(I:l.holds.length<2^29)(a:c<=3)(J:2^41<=n):EI n l c=some (used l c):=by
 have e:ff l.dD (c:Int) (cA l.dD)=some (l.dD.drop c):=by
  unfold ff cA
  rw[cM (by omega)]
  simp[AE]
 have y:=λk=>Dd (xs:=l.dD.drop c) (by simp;omega) (L:=λm j x=>A4 n m c x (l.dD.drop c) (cA (l.dD.drop c)) j l k) (G:=λxs x=>k (c:Int) (xs.foldl (cz .i64) x) l) (λm x=>by simp[go_sem,A4]) (λm i h u x=>by
  have a:decide ((i:Int)<(l.dD.drop c).length)=true:=by simp only[dQ];omega
  simp only[A4,dE,cW,dA h,a,cP,cw,vZ]
  exact u _) (m:=n) (by simp;omega) 0;have A:=Dd (xs:=l.holds) (by omega) (L:=λm j x=>we n m c x l.holds (cA l.holds) j some) (G:=λC x=>some (vt C c x)) (λm x=>by simp[go_sem,we,vt]) (λm i h u x=>by
  have a:cC (i:Int) (cA l.holds)=true:=by rw[dE,cW];simp;omega
  have e:vt (l.holds[i]::l.holds.drop (i+1)) c x=vt (l.holds.drop (i+1)) c (if(c:Int)<=l.holds[i].dh/\0<l.holds[i].cV then cz .i64 x l.holds[i].cV else x):=rfl
  rw[we,a,cP,dA h,cw,u,u,e,gR,dE]
  by_cases D:(c:Int)<=l.holds[i].dh<;>by_cases E:0<l.holds[i].cV<;>simp[D,E]) (m:=n) (by omega);unfold EI;rw[e,cw];refine(y _).trans ?_;have F:xC l c 0=(l.dD.drop c).foldl (cz .i64) 0:=by unfold xC;rw[fH]
 rw[<-F];exact A _
def UC{c:Int}(D:l.holds.length<2^29)(E:2^41<=n):EJ n l c=some (nU l.holds c 0):=by
 have:=Dd (xs:=l.holds) (by omega) (L:=λm j x=>wg n m c x l.holds (cA l.holds) j some) (G:=λu x=>some (nU u c x)) (λm x=>by simp[go_sem,wg,nU]) (λm i h a x=>by
  have y:cC (i:Int) (cA l.holds)=true:=by rw[dE,cW];simp;omega
  have e:nU (l.holds[i]::l.holds.drop (i+1)) c x=nU (l.holds.drop (i+1)) c (if l.holds[i].dh=c/\l.holds[i].cV<0 then cX .i64 x l.holds[i].cV else x):=rfl
  rw[wg,y,cP,dA h,cw,a,a,e,ez,dE]
  by_cases A:l.holds[i].dh=c<;>by_cases C:l.holds[i].cV<0<;>simp[A,C]) (m:=n) (by omega) 0;exact this
def RL{xs:List Int}{hi:Int}(C:xs.length<2^29)(D:2^41<=n):Fc n xs hi=some (gh xs.length λj=>decide (0<=gI xs j/\gI xs j<=hi)&&decide (0<j->gI xs j<=gI xs (j-1))):=by
 have:=kV (N:=xs.length) (by omega) (L:=λm i=>yT n m xs hi xs (cA xs) i (some true)) (P:=λj=>decide (0<=gI xs j/\gI xs j<=hi)&&decide (0<j->gI xs j<=gI xs (j-1))) (k:=some true) (r:=some false) (λm=>by simp[go_sem,yT]) (λm i h=>by
  have A:decide ((i:Int)<xs.length)=true:=by simp;omega
  simp only[yT,dE,cW,A,cP,eP h 0,cw,tP,dT]
  by_cases u:0<=gI xs i/\gI xs i<=hi
  ·simp only[u,uG,gi,eW,cR,nJ]
   by_cases x:0<i
   ·have a:decide ((0:Int)<i)=true:=by simp;omega
    have:cX .i64 i 1=((i-1:Nat):Int):=by rw[iE];omega
    rw[a,cP,this,eP (show i-1<xs.length by omega) 0,cw]
    by_cases y:gI xs i<=gI xs (i-1)
    ·have e:decide (gI xs (i-1)<gI xs i)=false:=by simp only[lA];omega
     rw[e,cR,cM (by rw[dQ];exactλ_=>y)]
    ·have e:decide (gI xs (i-1)<gI xs i)=true:=by simp only[dQ];omega
     rw[e,cP,cN (by rw[dQ];exactλh=>y (h x))]
   ·have a:decide ((0:Int)<i)=false:=by simp;omega
    rw[a,cR,cM (by rw[dQ];exactλh=>absurd h x)]
  ·simp only[u,gQ,hY,cP,yq,iS,iO]) (m:=n) (by omega);unfold Fc;rw[this];cases gh xs.length λj=>decide (0<=gI xs j/\gI xs j<=hi)&&decide (0<j->gI xs j<=gI xs (j-1))<;>rfl
def VZ{h:dy}:Ff n l h=some (decide (1<=h.cu/\h.cu<=99)&&(decide (0<=h.dh/\h.dh<=2)&&(decide (gG .i64 l.cap<=h.cV/\h.cV<=l.cap)&&!decide (h.cV=0)))):=by
 unfold Ff xe Fe;simp only[tP,cw,dT,ez];generalize decide (1<=h.cu/\h.cu<=99)=a;generalize decide (0<=h.dh/\h.dh<=2)=e;generalize decide (gG .i64 l.cap<=h.cV/\h.cV<=l.cap)=j;cases a<;>cases e<;>cases j<;>rfl
def aaV{xs:List Int}(C:xs.length<2^29)(D:2^41<=n):HN n xs l=some (!gh xs.length λj=>decide (0<=gI xs j/\gI xs j<=l.cap)):=by
 have y:Ms n xs l=some (lG (λx=>!decide (0<=x/\x<=l.cap)) 0 xs):=
  u4 (by omega) (L:=λm i=>AH n m xs (l,()) (cA xs) i (some (-1))) (f:=some) (λm=>by simp[go_sem,AH]) (λm i h=>by
   have A:decide ((i:Int)<xs.length)=true:=by simp;omega
   simp only[AH,dE,cW,A,cP,dA h,cw,Nw,tP,dT]
   generalize decide (0<=xs[i]/\xs[i]<=l.cap)=z
   cases z<;>rfl) (by omega);unfold HN;rw[y,cw,gR]
 congr 1
 rcases qV (p:=λx:Int=>!decide (0<=x/\x<=l.cap)) (xs:=xs) (i:=0) with⟨e,a⟩|⟨j,u,e,a,_⟩
 ·rw[e];have:gh xs.length (λj=>decide (0<=gI xs j/\gI xs j<=l.cap))=true:=mY.2 λj u=>by
   have:=a _ (PC u)
   simpa using this
  rw[this];rfl
 ·rw[e];have:gh xs.length (λj=>decide (0<=gI xs j/\gI xs j<=l.cap))=false:=by
   rw[<-qd,mY]
   intro h
   have:=h j u
   rw[GM u] at this
   rw[this] at a
   cases a
  rw[this];simp
def aau(R:l.dJ.length=3)(I:l.dD.length=3)(E:l.holds.length<2^29)(F:2^41<=n):HT n l=some (gh l.holds.length (λj=>(decide (1<=(gH l.holds j).cu/\(gH l.holds j).cu<=99)&&(decide (0<=(gH l.holds j).dh/\(gH l.holds j).dh<=2)&&(decide (gG .i64 l.cap<=(gH l.holds j).cV/\(gH l.holds j).cV<=l.cap)&&!decide ((gH l.holds j).cV=0))))&&decide (0<j->(gH l.holds (j-1)).cu<(gH l.holds j).cu))&&(gh 3 (oH l)&&decide ((l.holds.length:Int)<=6))):=by
 have J:=λk=>kV (N:=l.holds.length) (by omega) (L:=λm i=>yu n m l.holds (cA l.holds) i l k) (P:=λj=>(decide (1<=(gH l.holds j).cu/\(gH l.holds j).cu<=99)&&(decide (0<=(gH l.holds j).dh/\(gH l.holds j).dh<=2)&&(decide (gG .i64 l.cap<=(gH l.holds j).cV/\(gH l.holds j).cV<=l.cap)&&!decide ((gH l.holds j).cV=0))))&&decide (0<j->(gH l.holds (j-1)).cu<(gH l.holds j).cu)) (k:=k l) (r:=some false) (λm=>by simp[go_sem,yu]) (λm i h=>by
  have A:decide ((i:Int)<l.holds.length)=true:=by simp;omega
  simp only[yu,dE,gR,cW,A,cP,eP h ⟨0,0,0⟩,cw,VZ,dT]
  generalize(decide (1<=(gH l.holds i).cu/\(gH l.holds i).cu<=99)&&(decide (0<=(gH l.holds i).dh/\(gH l.holds i).dh<=2)&&(decide (gG .i64 l.cap<=(gH l.holds i).cV/\(gH l.holds i).cV<=l.cap)&&!decide ((gH l.holds i).cV=0))))=z
  cases z with
  |false=>rfl
  |true=>
   simp only[eW,cR,nJ]
   by_cases H:0<i
   ·have e:decide ((0:Int)<i)=true:=by simp;omega
    have:cX .i64 i 1=((i-1:Nat):Int):=by rw[iE];omega
    rw[e,cP,this,eP (show i-1<l.holds.length by omega) ⟨0,0,0⟩,cw]
    by_cases x:(gH l.holds (i-1)).cu<(gH l.holds i).cu
    ·have a:decide ((gH l.holds i).cu<=(gH l.holds (i-1)).cu)=false:=by simp only[lA];omega
     rw[a,cR,cM (by rw[dQ];exactλ_=>x)]
    ·have a:decide ((gH l.holds i).cu<=(gH l.holds (i-1)).cu)=true:=by simp only[dQ];omega
     rw[a,cP,cN (by rw[dQ];exactλh=>x (h H))]
   ·have e:decide ((0:Int)<i)=false:=by simp;omega
    rw[e,cR,cM (by rw[dQ];exactλh=>absurd h H)]) (m:=n) (by omega);have M:=λk=>kV (N:=3) (by omega) (L:=λm i=>AS n m i l k) (P:=oH l) (k:=k l) (r:=some false) (λm=>by simp[go_sem,AS]) (λm i h=>by
  have A:decide ((i:Int)<3)=true:=by simp;omega
  simp only[AS,dE,A,cP,UB I E (show i<=3 by omega) F,UC E F,eP (show i<l.dJ.length by omega) 0,eP (show i<l.dD.length by omega) 0,cw]
  by_cases C:used l i<=gI l.dJ i
  ·have u:decide (gI l.dJ i<used l i)=false:=by simp only[lA];omega
   rw[u,cR]
   by_cases x:nU l.holds i 0<=gI l.dD i
   ·have a:decide (gI l.dD i<nU l.holds i 0)=false:=by simp only[lA];omega
    have y:oH l i=true:=by simp only[oH,C,x,gi,Bool.and_self]
    rw[a,cR,cM y]
   ·have a:decide (gI l.dD i<nU l.holds i 0)=true:=by simp only[dQ];omega
    have y:¬ oH l i=true:=by simp only[oH,C,x,gi,gQ,ZG,iS,ZU]
    rw[a,cP,cN y]
  ·have u:decide (gI l.dJ i<used l i)=true:=by simp only[dQ];omega
   have y:¬ oH l i=true:=by simp only[oH,C,gQ,yq,iS,ZU]
   rw[u,cP,cN y]) (m:=n) (by omega);unfold HT;refine(J _).trans ?_;have:=M λD=>some (dI (cA D.holds) 6);rw[this];generalize gh l.holds.length _=Q;cases Q with
 |false=>rfl
 |true=>
  cases gh 3 (oH l) with
  |false=>rfl
  |true=>rfl
def abV(h:Dr l)(hz:l.holds.length<2^29/\l.eH.length<2^29)(C:2^41<=n):Kq n l=some (kP l):=by
 unfold Kq;rw[IL h.1 C,IL h.2.1 C,IL h.2.2 C];simp only[cw,tP,dT,kX,ez,cW];have aa:∀{b:Bool},(b=true↔kP l=true)->some b=some (kP l):=λh=>by rw[HI.2 h]
 have a:kP l≠true->some false=some (kP l):=λh=>by rw[ajr.2 h]
 by_cases u:gY l.name=true
 rotate_left
 ·rw[qd] at u;rw[u];exact a λh=>by simp[kP,nR,u] at h
 by_cases x:gY l.cL=true
 rotate_left
 ·rw[qd] at x;rw[u,x];exact a λh=>by simp[kP,nR,x] at h
 by_cases y:gY l.to=true
 rotate_left
 ·rw[qd] at y;rw[u,x,y];exact a λh=>by simp[kP,nR,y] at h
 by_cases A:l.cL=l.to
 ·simp only[u,x,y,A,gi,eW,cP,cR];exact a λh=>by simp[kP,nR,A] at h
 by_cases D:0<=l.fx/\l.fx<=9999
 rotate_left
 ·simp only[u,x,y,A,D,gQ,hY,cP,cR];exact a λh=>by simp only[kP,nR,dF,dQ] at h;exact D h.1.2.2.2.2.1
 by_cases E:cz .i64 l.fx 1<=l.arr/\l.arr<=9999
 rotate_left
 ·simp only[u,x,y,A,D,E,uG,gi,gQ,hY,cP,cR];exact a λh=>by simp only[kP,nR,dF,dQ] at h;exact E h.1.2.2.2.2.2.1
 by_cases J:1<=l.cap/\l.cap<=9
 rotate_left
 ·simp only[u,x,y,A,D,E,J,uG,gi,gQ,hY,cP,cR];exact a λh=>by simp only[kP,nR,dF,dQ] at h;exact J h.1.2.2.2.2.2.2.1
 by_cases P:(l.dJ.length:Int)=3
 rotate_left
 ·simp only[u,x,y,A,D,E,J,P,uG,gi,gQ,hY,cP,cR];exact a λh=>by simp only[kP,nR,dF,dQ] at h;exact P h.1.2.2.2.2.2.2.2.1
 have l3:l.dJ.length=3:=by omega
 have Y:cm l.dJ 0=some (gI l.dJ 0):=eP (i:=0) (by omega) 0;simp only[u,x,y,A,D,E,J,P,uG,gi,gQ,hY,cP,Y,cw,RL (n:=n) (xs:=l.dJ) (hi:=l.cap) (by omega) C,RL (n:=n) (xs:=l.eH) (hi:=1000000000) (by omega) C]
 by_cases Q:(l.dD.length:Int)=3
 rotate_left
 ·have:kP l≠true:=λh=>by simp only[kP,nR,dF,dQ] at h;exact Q h.1.2.2.2.2.2.2.2.2.1
  simp only[Q,gQ,cR];rw[ajr.2 this];generalize(gh l.dJ.length λj=>decide (0<=gI l.dJ j/\gI l.dJ j<=l.cap)&&decide (0<j->gI l.dJ j<=gI l.dJ (j-1)))=F;generalize decide (gI l.dJ 0=l.cap)=H;cases F<;>cases H<;>rfl
 have s3:l.dD.length=3:=by omega
 simp only[Q,gi,cP,aaV (n:=n) (l:=l) (xs:=l.dD) (by omega) C,aau l3 s3 hz.1 C,cw,Bool.not_not];have Z:∀(F H R S U z6:Bool),((F&&H&&R&&S&&U&&z6)=true↔kP l=true)->(cond F (cond H (cond R (cond S (cond U (some z6) (some false)) (some false)) (some false)) (some false)) (some false):Option Bool)=some (kP l):=λF H R S U z6 h=>by
  rw[<-HI.2 h]
  cases F<;>cases H<;>cases R<;>cases S<;>cases U<;>rfl
 refine Z _ _ _ _ _ _ ?_;rw[l3,s3];simp only[kP,nR,u,x,y,A,D,E,J,P,Q,rq,xD,uG,gi,gQ,hY,nJ,dF,dQ,mY,lO,lA,xR];constructor
 ·rintro⟨⟨⟨⟨⟨h1,h2⟩,h3⟩,h4⟩,h5⟩,I,h7,h8⟩;exact⟨⟨h2,h4,by omega,λj e=>⟨h1 j e,h3 j e⟩,h5⟩,λj e=>⟨⟨⟨⟨(I j e).1.1,(I j e).2⟩,(I j e).1.2.1⟩,(I j e).1.2.2.2⟩,(I j e).1.2.2.1⟩,h7⟩
 ·rintro⟨⟨h2,h4,I,M,h5⟩,N,h7⟩;exact⟨⟨⟨⟨⟨λj e=>(M j e).1,h2⟩,λj e=>(M j e).2⟩,h4⟩,h5⟩,λj e=>⟨⟨(N j e).1.1.1.1,(N j e).1.1.2,(N j e).2,(N j e).1.2⟩,(N j e).1.1.1.2⟩,h7,by omega⟩
end
end
section
section
variable{n:Nat}{l:cG}
def mN{a b:Int}(h:a<b):cC a b=true:=by rw[dE];exact gF h
def xT{a b:Int}(h:¬ a<b):cC a b=false:=by rw[dE];exact gP h
def S7{a:List cG}{name:cq}(u:a.length<2^29)(x:2^41<=n):F5 n a name=some (kR a name):=by
 have e:Mt n a name=some (kR a name):=
  u4 (by omega) (L:=λm i=>AI n m a (name,()) (cA a) i (some (-1))) (f:=some) (p:=λl:cG=>decide (l.name=name)) (λm=>by simp[go_sem,AI]) (λm i h=>by
   have j:cC (i:Int) (cA a)=true:=by rw[dE,cW];simp;omega
   rw[AI,j,cP,dA h,cw]
   simp only[Nx,cw,kX]
   cases decide (a[i].name=name)<;>rfl) (by omega);unfold F5;rw[e,cw]
def aav{a:List cG}(x:a.length<2^29)(E:2^41<=n):Jl n a=some (!a.all λl=>decide (l.holds=[])):=by
 have A:Mu n a=some (lG (λl:cG=>cC 0 (cA l.holds)) 0 a):=
  u4 (by omega) (L:=λm i=>AJ n m a (cA a) i (some (-1))) (f:=some) (p:=λl:cG=>cC 0 (cA l.holds)) (λm=>by simp[go_sem,AJ]) (λm i h=>by
   have C:cC (i:Int) (cA a)=true:=by rw[dE,cW];simp;omega
   rw[AJ,C,cP,dA h,cw]
   simp only[MR,cw]
   cases cC 0 (cA a[i].holds)<;>rfl) (by omega);have y:∀l:cG,cC 0 (cA l.holds)=!decide (l.holds=[]):=λl=>by
  rw[dE,cW]
  cases l.holds<;>simp
 unfold Jl Mp;rw[A];simp only[cw,gR]
 congr 1
 rcases qV (p:=λl:cG=>cC 0 (cA l.holds)) (xs:=a) (i:=0) with⟨e,u⟩|⟨j,D,e,u,_⟩
 ·rw[e];have:(a.all λl=>decide (l.holds=[]))=true:=jC.2 λl x=>by
   have:=u l x
   rw[y] at this
   simpa using this
  rw[this];rfl
 ·rw[e];have:(a.all λl=>decide (l.holds=[]))=false:=by
   rw[<-qd,jC]
   intro h
   have:=h _ (dM D)
   rw[y,this] at u
   cases u
  rw[this];simp
def UD{u:Type}{p:u->Bool}{xs:List u}{i:Nat}(C:i<xs.length)(x:p xs[i]=true):lG p 0 xs=i↔∀k(y:k<i),p (xs[k]'(by omega))=false:=by
 rcases qV (p:=p) (xs:=xs) (i:=0) with⟨e,a⟩|⟨j,E,e,a,A⟩
 ·have:=a _ (dM C);rw[x] at this;cases this
 ·rw[e];constructor
  ·intro h k y;have:j=i:=by omega
   subst this;exact A k y
  ·intro h
   by_cases c:j<i
   ·have:=h j c;rw[a] at this;cases this
   ·by_cases D:i<j
    ·have:=A i D;rw[x] at this;cases this
    ·omega
def abW{a:List cG}(R:a.length<2^28)(h:∀l∈a,oQ l)(H:2^41<=n):Kr n a=some (vF a):=by
 have:=λk=>kV (N:=a.length) (by omega) (L:=λm i=>BX n m a a (cA a) i k) (P:=pQ a) (k:=k a) (r:=some false) (λm=>by simp[go_sem,BX]) (λm i y=>by
  have J:cC (i:Int) (cA a)=true:=by rw[dE,cW];simp;omega
  have C:=h _ (dM y)
  have e:ff a 0 (i:Int)=some (a.take i):=by unfold ff;rw[cM (by omega)];simp
  rw[BX,J,cP,dA y,cw,abV C.s ⟨by have:=C.z4;omega,by have:=C.z3;omega⟩ H,cw,e,cw,S7 (by simp;omega) H,cw,gR]
  have D:=sD y
  cases I:kP a[i] with
  |false=>
   have:¬ pQ a i=true:=by unfold pQ;rw[D,I];simp
   rw[cN this]
   rfl
  |true=>
   simp only[dT,eW,cR]
   have x:0<=kR (a.take i) a[i].name↔¬ lG (λl=>decide (l.name=a[i].name)) 0 a=i:=by
    rw[UD y (by simp)]
    constructor
    ·intro E A
     obtain⟨k,M,F,u⟩:=KA E
     rw[kI] at F
     have:=A k (by omega)
     rw[sD (by simp;omega)] at u
     simp at u this
     exact this u
    ·intro E
     unfold kR
     rcases qV (p:=λl:cG=>decide (l.name=a[i].name)) (xs:=a.take i) (i:=0) with⟨Q,A⟩|⟨j,S,Q,A,_⟩
     ·exfalso
      apply E
      intro k M
      exact A _ (by
       have:(a.take i)[k]'(by simp;omega)=a[k]:=by simp
       rw[<-this];exact dM _)
     ·omega
   by_cases c:0<=kR (a.take i) a[i].name
   ·have:¬ pQ a i=true:=by
      unfold pQ
      rw[D]
      simp only[dF,dQ]
      exactλh=>x.1 c h.2
    rw[cN this,show decide (0<=kR (a.take i) a[i].name)=true by simpa using c]
    rfl
   ·have:pQ a i=true:=by
      unfold pQ
      rw[D,I]
      simp only[nJ,dQ]
      exact Classical.not_not.1 λh=>c (x.2 h)
    rw[cM this,show decide (0<=kR (a.take i) a[i].name)=false by simpa using c]
    rfl) (m:=n) (by omega);unfold Kr vF;rw[this];cases gh a.length (pQ a)<;>simp[go_sem]
def ahb{xs:List Int}:Iw n xs=some xs:=by
 unfold Iw;simp[kM,pJ,fP,cp,cA,tV,cw]
def ahc{xs:List dy}:Ix n xs=some xs:=by
 unfold Ix;simp[kM,pJ,fP,cp,cA,tV,cw]
def PI{xs:List Int}(h:xs.length<4294967296):BJ n xs=some xs:=by
 unfold BJ Fx;rw[cM h,cw,ahb,cw]
def KX{xs:List dy}(h:xs.length<4294967296):y6 n xs=some xs:=by
 unfold y6 Fy;rw[cM h,cw,ahc,cw]
def adI(h:oQ l):HY n l=some l:=by
 unfold HY;rw[PI (by have:=h.z1;omega),cw,PI (by have:=h.z2;omega),cw,PI (by have:=h.z3;omega),cw,KX (by have:=h.z4;omega),cw]
def Ie{net:List cG}(E:net.length<=100000)(h:∀l∈net,oQ l)(F:2^41<=n):wP n net=some net:=by
 unfold wP;have e:xU 168 (cA net) (cA net) (cG.mk [] [] [] 0 0 0 [] [] [] [])=some (List.replicate net.length (cG.mk [] [] [] 0 0 0 [] [] [] [])):=by
  unfold xU cA
  rw[cM (by omega)]
  simp
 rw[e,cw];have a:∀m i:Nat,i<=net.length->net.length<m+i->Bo n m (net.take i++List.replicate (net.length-i) (cG.mk [] [] [] 0 0 0 [] [] [] [])) net (cA net) i some=some net:=by
  intro m
  induction m with
  |zero=>intro i A C;omega
  |succ m D=>
   intro i A C
   by_cases j:i<net.length
   ·have u:cC (i:Int) (cA net)=true:=by rw[dE,cW];simp;omega
    have x:i<(net.take i++List.replicate (net.length-i) (cG.mk [] [] [] 0 0 0 [] [] [] [])).length:=by simp;omega
    rw[Bo,u,cP,dA j,cw,adI (h _ (dM j)),cw,dA x,cw,cw,dO (by omega)];have:du (net.take i++List.replicate (net.length-i) (cG.mk [] [] [] 0 0 0 [] [] [] [])) (i:Int) net[i]=net.take (i+1)++List.replicate (net.length-(i+1)) (cG.mk [] [] [] 0 0 0 [] [] [] []):=by
     have y:(net.take i).length=i:=by simp;omega
     rw[show net.length-i=(net.length-(i+1))+1 by omega,DK]
     unfold du
     rw[fH,ajs _ _ (by omega),y,vX,ajt,mU j,ke]
     rfl
    rw[this];exact D (i+1) (by omega) (by omega)
   ·have:i=net.length:=by omega
    subst this;have u:cC (net.length:Int) (cA net)=false:=by rw[dE,cW];simp
    rw[Bo,u,cR];simp
 have:=a n 0 (by omega) (by omega);simpa using this
def UE{cu:Int}(j:l.holds.length<2^29)(u:2^41<=n):EL n l cu=some (lG (λh=>decide (h.cu=cu)) 0 l.holds):=by
 have a:Mr n l.holds cu=some (lG (λh:dy=>decide (h.cu=cu)) 0 l.holds):=
  u4 (by omega) (L:=λm i=>AG n m l.holds (cu,()) (cA l.holds) i (some (-1))) (f:=some) (λm=>by simp[go_sem,AG]) (λm i h=>by
   have e:cC (i:Int) (cA l.holds)=true:=by rw[dE,cW];simp;omega
   rw[AG,e,cP,dA h,cw]
   simp only[MF,cw,ez]
   cases decide (l.holds[i].cu=cu)<;>rfl) (by omega);unfold EL;rw[a,cw]
def UF{y:List dy}{u:Int}(A:sX y):lG (λh=>decide (h.cu=u)) 0 y=if jR u y=true then((fM u y:Nat):Int) else-1:=by
 cases D:jR u y with
 |true=>
  obtain⟨a,x,b,e,F,H,C,J⟩:=EP A D;rw[cM rfl,F];subst e;rw[UD (by simp) (by simp[H])];intro k E;have:(a++x::b)[k]'(by simp;omega)=a[k]:=by simp[List.getElem_append,E]
  rw[this];have:=C _ (dM E);simp;omega
 |false=>
  rw[cN (by simp)];rcases qV (p:=λh:dy=>decide (h.cu=u)) (xs:=y) (i:=0) with⟨e,_⟩|⟨j,I,e,C,_⟩
  ·exact e
  ·have:=(Og A).2 ⟨_,dM I,by simpa using C⟩;rw[D] at this;cases this
def UG(a:il l)(E:2^41<=n){c:Nat}(J:c<=2):EM n l c=some (iW l c):=by
 have C:=a.cap;have F:∀m j x,j<=c+1->c+1<m+j->A6 n m c x j l some=some ((List.range' j (c+1-j)).foldl (λx i=>min x (gI l.dJ i-mR l i)) x):=by
  intro m
  induction m with
  |zero=>intro j x A y;omega
  |succ m H=>
   intro j x A y
   by_cases D:j<=c
   ·have M:=O6 a (show j<3 by omega);have N:=tK a (show j<3 by omega);have e:cX .i64 (gI l.dJ j) (mR l j)=gI l.dJ j-mR l j:=mb (by omega) (by omega) (by omega) (by omega);have u:dI (j:Int) c=true:=by rw[gR];simp;omega
    have I:j<l.dJ.length:=by have:=a.l3;omega
    rw[A6,u,cP,eP I 0,cw,UB a.s3 (by have:=a.h6;omega) (by omega) E,cw,(KV a j).1,e,dO (by omega),H (j+1) _ (by omega) (by omega),show c+1-j=(c+1-(j+1))+1 by omega,QL,vZ]
    congr 2
    unfold Aa;split
    ·rw[QV (by omega)]
    ·rw[QW (by omega)]
   ·have:j=c+1:=by omega
    subst this;have u:dI (((c+1:Nat)):Int) c=false:=by rw[gR];simp;omega
    rw[A6,u,cR,vX,List.range'_zero,HB]
 have h:=F n 0 9 (by omega) (by omega);refine h.trans ?_
 congr 1
 refine aaO λz=>?_;rw[O5];simp only[List.mem_range'_1,yi,vV,iB,QT];have P:=O6 a (show 0<3 by omega);have Q:=a.l0;constructor
 ·rintro⟨A,y⟩;exact⟨by have:=y 0 (by omega);omega,λj D=>y j (by omega)⟩
 ·rintro⟨A,y⟩;exact⟨by omega,λj D=>y j (by omega)⟩
def afg(a:il l)(j:2^41<=n):Jo n l=some (p7 l):=by
 have y:=VI a (show 0<=2 by omega);have A:=a.b;unfold Jo p7;rw[show(0:Int)=((0:Nat):Int) from rfl,UG a j (by omega),cw,cW];have u:cX .i64 (l.eH.length:Int) 1=l.eH.length-1:=mb (by omega) (by omega) (by omega) (by omega);have x:Aa (iW l 0) ((l.eH.length:Int)-1)=min (iW l 0) (l.eH.length-1):=by
  unfold Aa
  split
  ·rw[QV (by omega)]
  ·rw[QW (by omega)]
 rw[u,x];obtain⟨r,e⟩:=hV (show 0<=min (iW l 0) ((l.eH.length:Int)-1) by omega);rw[e,eP (by omega) 0,cw];rfl
def afh{h:dy}{a:Int}(j:il l)(y:2^41<=n):Jp n l h a=some (sI l h a):=by
 have U:=j.cap;have Y:=j.h6;unfold Jp sI;rw[UE (by omega) y,cw,UF j.mQ,VZ,cW];simp only[cw,gR,ez,dE,dT];rw[wG (show-1000000<=l.cap by omega) (by omega)];cases Z:jR h.cu l.holds with
 |true=>
  have:decide (0<=((fM h.cu l.holds:Nat):Int))=true:=by simp
  simp only[gE,this,cP,eW,yq]
 |false=>
  have:decide ((0:Int)<=-1)=false:=rfl;simp only[iS,iO,this,cR,hY,nJ]
  by_cases F:(l.holds.length:Int)=6
  ·have u:decide ((6:Int)<=l.holds.length)=true:=by simp;omega
   have e:decide ((l.holds.length:Int)=6)=true:=by simpa using F
   rw[u,e];rfl
  ·have u:decide ((6:Int)<=l.holds.length)=false:=by simp;omega
   have e:decide ((l.holds.length:Int)=6)=false:=by simpa using F
   rw[u,e];simp only[cR,hY,nJ]
   by_cases C:1<=h.cu/\h.cu<=99
   rotate_left
   ·rw[show decide (1<=h.cu/\h.cu<=99)=false by simpa using C];rfl
   by_cases D:0<=h.dh/\h.dh<=2
   rotate_left
   ·rw[show decide (1<=h.cu/\h.cu<=99)=true by simpa using C,show decide (0<=h.dh/\h.dh<=2)=false by simpa using D];rfl
   by_cases H:h.cV=0
   ·rw[show decide (h.cV=0)=true by simpa using H];simp
   by_cases I:-l.cap<=h.cV/\h.cV<=l.cap
   rotate_left
   ·rw[show decide (-l.cap<=h.cV/\h.cV<=l.cap)=false by simpa using I];simp
   rw[show decide (1<=h.cu/\h.cu<=99)=true by simpa using C,show decide (0<=h.dh/\h.dh<=2)=true by simpa using D,show decide (h.cV=0)=false by simpa using H,show decide (-l.cap<=h.cV/\h.cV<=l.cap)=true by simpa using I];simp only[hY,eW,nJ,cR];obtain⟨c,x⟩:=hV D.1;have E:c<=2:=by omega
   have b1:=tK j (show c<3 by omega);have b2:=VJ j (show c<3 by omega);have M:EM n l h.dh=some (iW l c):=by rw[x];exact UG j y E
   have N:cm l.dD h.dh=some (gI l.dD c):=by rw[x];exact eP (by have:=j.s3;omega) 0
   have P:EJ n l h.dh=some (oX l c):=by rw[UC (by omega) y,x,(KV j c).2]
   have Q:h.dh.toNat=c:=by omega
   have R:cX .i64 (gI l.dD c) (oX l c)=gI l.dD c-oX l c:=mb (by omega) (by omega) (by omega) (by omega);have S:gG .i64 h.cV=-h.cV:=wG (by omega) (by omega);rw[M,N,P,Q];simp only[cw,R,S,afg j y]
   by_cases A:0<h.cV
   ·rw[show decide (0<h.cV)=true by simpa using A,cP,cM A]
    by_cases J:h.cV<=iW l c
    ·rw[show decide (h.cV<=iW l c)=true by simpa using J];rfl
    ·rw[show decide (h.cV<=iW l c)=false by simpa using J];rfl
   ·rw[show decide (0<h.cV)=false by simpa using A,cR,cN A]
def agq{a:List cG}{k:Nat}{h:dy}(y:k<a.length)(C:(gL a k).holds.length<2^29)(D:2^41<=n){K:Int->Int->List cG->dy->Option (Bool×List cG)}:yH n n k 0 a h K=K k (fM h.cu (gL a k).holds:Nat) a h:=by
 have u:cm a (k:Int)=some (gL a k):=eP y _;have:=Lg (N:=(gL a k).holds.length) (by omega) (L:=λm i=>yH n m k i a h K) (G:=λi=>K k ((i+fM h.cu ((gL a k).holds.drop i):Nat):Int) a h)
  (λm=>by
    have j:cC ((gL a k).holds.length:Int) (cA (gL a k).holds)=false:=xT (show¬ ((gL a k).holds.length:Int)<((gL a k).holds.length:Nat) by omega)
    rw[yH,u]
    simp only[cw,j,cR]
    simp[fM]) (λm i x A=>by
    have j:cC (i:Int) (cA (gL a k).holds)=true:=mN (show(i:Int)<((gL a k).holds.length:Nat) by omega)
    rw[yH,u]
    simp only[cw]
    rw[j,cP,dA x]
    simp only[cw]
    rw[ly x,IH]
    by_cases e:(gL a k).holds[i].cu<h.cu
    ·rw[cM e,mN e,cP,A];congr 2;omega
    ·rw[cN e,xT e,cR];rfl) (m:=n) (by omega);simpa using this
def adJ{a:List cG}{k:Nat}{h:dy}{eU:Int}(j:k<a.length)(u:il (gL a k))(x:2^41<=n):Iy n (a,(k:Int)) h eU=some (if sI (gL a k) h eU=true then(true,a.set k (xG (gL a k) h)) else(false,a)):=by
 have y:cm a (k:Int)=some (gL a k):=eP j _;have C:=u.h6;have A:=FT (cu:=h.cu) (hs:=(gL a k).holds);unfold Iy;dsimp only;rw[y];simp only[cw,afh u x];cases D:sI (gL a k) h eU with
 |false=>rfl
 |true=>
  simp only[dT,eW,cR,gE];refine(agq j (by omega) x).trans ?_;rw[y];simp only[cw];have e:Cq n (gL a k).holds ((fM h.cu (gL a k).holds:Nat):Int) [h]=some (n4 h (gL a k).holds):=by
   unfold Cq n4
   rw[cM ⟨by omega,by omega,rfl,by omega⟩,fH]
  rw[e,cw,KX (by rw[Ul];omega),cw];have:dV (cp (k:Int) (k:Int))=some ():=by rw[ez];simp[tV]
  rw[this,cw];simp only[du,fH];rfl
def RM{cu:Int}{ops:List dt}(F:ops.length<2^29)(C:2^41<=n):∀(m i:Nat)(a:List cG),i<=ops.length->ops.length<m+i->iK a->match pG cu a (ops.drop i) with
  |some x=>yv n m cu ops (cA ops) i a (λt12=>some (true,t12))=some (true,x)
  |none=>∃y,yv n m cu ops (cA ops) i a (λt12=>some (true,t12))=some (false,y)
 |0,i,a,H,I,u=>by omega
 |m+1,i,a,H,I,u=>by
  have J:=u.1
  by_cases E:i<ops.length
  ·have j:cC (i:Int) (cA ops)=true:=by rw[dE,cW];simp;omega
   rw[yv,j,cP,dA E,cw,S7 (by omega) C,cw,ly E,pG]
   by_cases D:kR a ops[i].dx<0
   ·have:cC (kR a ops[i].dx) 0=true:=by rw[dE];simpa using D
    rw[this,cP,cM D];exact⟨_,rfl⟩
   ·have M:cC (kR a ops[i].dx) 0=false:=by rw[dE];simp;omega
    obtain⟨k,N,e,P⟩:=KA (show 0<=kR a ops[i].dx by omega);rw[M,cR,cN D,N,eP e ⟨[],[],[],0,0,0,[],[],[],[]⟩];simp only[cw,M8,fH];have Q:=adJ (n:=n) (h:=⟨cu,ops[i].dh,ops[i].cV⟩) (eU:=ops[i].eU) e (u.2 _ (xp e)) C;rw[Q,cw]
    by_cases A:sI (gL a k) ⟨cu,ops[i].dh,ops[i].cV⟩ ops[i].eU=true
    ·rw[cM A,cM A];simp only[dT,eW,cR];rw[dO (by omega)];exact RM F C m (i+1) _ (by omega) (by omega) (u.set (O9 (u.2 _ (xp e)) A))
    ·rw[cN A,cN A];exact⟨_,rfl⟩
  ·have:i=ops.length:=by omega
   subst this;have j:cC (ops.length:Int) (cA ops)=false:=by rw[dE,cW];simp
   rw[yv,j,cR,rK];rfl
def adK{cJ:List cG}{k:Nat}{cu:Int}{a:Bool}(C:k<cJ.length)(y:il (gL cJ k))(H:2^41<=n):Iz n (cJ,(k:Int)) cu a=some (cJ.set k (if a=true then qs (gL cJ k) cu else oK (gL cJ k) cu)):=by
 have I:cm cJ (k:Int)=some (gL cJ k):=eP C _;have Y:=y.h6;have F:=FT (cu:=cu) (hs:=(gL cJ k).holds);have u:cJ.set k (gL cJ k)=cJ:=by rw[sD C,Q3]
 unfold Iz;dsimp only;rw[I];simp only[cw,UE (n:=n) (l:=gL cJ k) (cu:=cu) (by omega) H,UF y.mQ];cases e:jR cu (gL cJ k).holds with
 |false=>
  have J:qs (gL cJ k) cu=gL cJ k:=by unfold qs;rw[e];rfl
  have M:oK (gL cJ k) cu=gL cJ k:=by unfold oK km;rw[e];rfl
  rw[cN (by simp),J,M,ite_self,u];rfl
 |true=>
  have D:fM cu (gL cJ k).holds<(gL cJ k).holds.length:=by
   unfold jR at e
   by_cases c:fM cu (gL cJ k).holds<(gL cJ k).holds.length
   ·exact c
   ·rw[nI (by omega)] at e;simp at e
  obtain⟨_,N,Z⟩:=zA (f:=λ_=>0) y.mQ e;have P:=y.hold _ N;have hs:cm (gL cJ k).holds ((fM cu (gL cJ k).holds:Nat):Int)=some (oe (gL cJ k).holds cu):=eP D _;have Q:cC ((fM cu (gL cJ k).holds:Nat):Int) 0=false:=by rw[dE];simp
  have j:zv n (gL cJ k).holds ((fM cu (gL cJ k).holds:Nat):Int) ((fM cu (gL cJ k).holds+1:Nat):Int)=some (km cu (gL cJ k).holds):=by
   unfold zv km
   rw[cM ⟨by omega,by omega,by omega,by omega⟩,fH,fH,cM e]
  have A:dV (cp (k:Int) (k:Int))=some ():=by rw[ez];simp[tV]
  have R:=Um (cu:=cu) (hs:=(gL cJ k).holds);rw[cM rfl,Q,cR,hs];simp only[cw];cases a with
  |false=>
   simp only[cR];rw[dO (by omega),j,cw,KX (by omega),cw,A,cw];simp[du,oK]
  |true=>
   obtain⟨c,S⟩:=hV P.2.1.1;have h3:=y.s3;have U:cm (gL cJ k).dD (oe (gL cJ k).holds cu).dh=some (gI (gL cJ k).dD (oe (gL cJ k).holds cu).dh.toNat):=by
    rw[S,fH]
    exact eP (by omega) 0
   have E:∀x:cG,cm (du cJ (k:Int) x) (k:Int)=some x:=λx=>by simp[cm,du,C]
   simp only[cP,U,cw,E];rw[dO (by omega),j,cw,KX (by omega),cw,A,cw];simp only[gE,qs,cM e];simp[du,oK,pR]
def aaw{e:Int}{a:Bool}{cJ:List cG}(h:iK cJ)(D:2^41<=n):rU n cJ e a=some (mh cJ e a):=by
 have I:=h.1;have y:∀m i:Nat,i<=cJ.length->cJ.length<m+i->Bp n m e a (cA cJ) i (mh (cJ.take i) e a++cJ.drop i) some=some (mh cJ e a):=by
  intro m
  induction m with
  |zero=>intro i E F;omega
  |succ m H=>
   intro i E F
   by_cases A:i<cJ.length
   ·have j:cC (i:Int) (cA cJ)=true:=by rw[dE,cW];simp;omega
    have u:(mh (cJ.take i) e a).length=i:=by simp[mh];omega
    have x:i<(mh (cJ.take i) e a++cJ.drop i).length:=by rw[fg,u,nn];omega
    have C:gL (mh (cJ.take i) e a++cJ.drop i) i=cJ[i]:=by
     rw[sD x,List.getElem_append_right (by omega)]
     simp[u]
    rw[Bp,j,cP,eP x ⟨[],[],[],0,0,0,[],[],[],[]⟩];simp only[cw];rw[adK x (by rw[C];exact h.2 _ (dM A)) D,cw,dO (by omega),C];have:(mh (cJ.take i) e a++cJ.drop i).set i (if a=true then qs cJ[i] e else oK cJ[i] e)=mh (cJ.take (i+1)) e a++cJ.drop (i+1):=by
     rw[ajs _ _ (by omega),u,vX,ly A,ajt,mU A]
     unfold mh
     rw[nq,ke]
     rfl
    rw[this];exact H (i+1) (by omega) (by omega)
   ·have:i=cJ.length:=by omega
    subst this;have j:cC (cJ.length:Int) (cA cJ)=false:=by rw[dE,cW];simp
    rw[Bp,j,cR];simp
 have:=y n 0 (by omega) (by omega);unfold rU;simpa[mh] using this
end
end
section
section
variable{n:Nat}
def ahd{xs:List dt}:rR n xs=some xs:=by
 unfold rR;simp[kM,pJ,fP,cp,cA,tV,cw]
def ahe{xs:List eD}:IE n xs=some xs:=by
 unfold IE;simp[kM,pJ,fP,cp,cA,tV,cw]
def Z8{text:cq}(x:text.length<2^28)(y:P6 text)(A:2^41<=n):Fh n text=some (jS text):=by
 obtain⟨r,e,C,D,E⟩:=Z7 (n:=n) x A;rw[e]
 congr 1
 cases j:r.2 with
 |true=>
  obtain⟨a,b⟩:=C j;have:=S2 a (y _ a b);rw[<-b] at this;rw[this];exact DL rfl j
 |false=>
  cases u:(jS text).2 with
  |true=>
   obtain⟨a,b,_⟩:=ET u;have:=E _ a b;rw[this] at j;cases j
  |false=>
   rw[aat u];exact DL (D j) j
def tW(r:cq):Prop:=∀a b c,dB 32 r=[a,b,c]->P6 c
def S8{s:cT}{a:Int}(u:s.cB.length<2^29)(x:2^41<=n):D6 n s a=some (fy s.cB a,s):=by
 have e:Mq n s.cB a=some (fy s.cB a):=
  u4 (by omega) (L:=λm i=>AF n m s.cB (a,()) (cA s.cB) i (some (-1))) (f:=some) (p:=λt:eD=>decide (t.cu=a)) (λm=>by simp[go_sem,AF]) (λm i h=>by
   have j:cC (i:Int) (cA s.cB)=true:=mN (show(i:Int)<(s.cB.length:Nat) by omega)
   rw[AF,j,cP,dA h,cw]
   simp only[Mz,cw,ez]
   cases decide (s.cB[i].cu=a)<;>rfl) (by omega);unfold D6;rw[e,cw]
def ahN{e:List eD}{k:Nat}(j:k<e.length)(a b:Int):du (du e (k:Int) {gT e k with de:=a}) (k:Int) {({gT e k with de:=a}:eD) with de:=b}=nD e k b:=by
 simp[du,nD]
def abX{b:cq}{v:Int}{j:Bool}(x:j=true->b=itoa v/\-9223372036854775808<=v/\v<=9223372036854775807)(y:∀u:Int,-1000000000000000000<u->u<1000000000000000000->b=itoa u->j=true/\v=u):(j=true->1<=v->v<=99->eB b=v)/\(1<=eB b->eB b<=99->j=true/\v=eB b):=by
 constructor
 ·intro h a c;rw[(x h).1,Ce (by omega) (by omega)]
 ·intro a c;rcases ER b with⟨u,e,_,A,_⟩|⟨e,_⟩
  ·have:=y u (by omega) (by omega) (by rw[nO];exact e);exact⟨this.1,by rw[this.2,A]⟩
  ·omega
def WR{s:cT}{r:cq}(hr:r.length<2^28)(hg:tW r)(h:iK s.cJ)(ht:pT s.cB)(ap:s.cB.length<2^28)(R:2^41<=n):EN n s r=some (match mL s.cJ s.cB r with|some y=>(true,{s with cJ:=y.1,cB:=y.2})|none=>(false,s)):=by
 unfold EN mL;rw[show q7 n r [32]=some (dB 32 r) from JU (by omega),cw];have I:∀w∈dB 32 r,w.length<2^28:=λw hw=>by have:=uR hw;omega
 have hj:=ady 32 r;unfold tW at hg;generalize ae:dB 32 r=ws at I hj hg
 match ws with
 |[]=>exact absurd ae (F9 32 r)
 |[a]=>rfl
 |a::b::j=>
  have af:cC (cA (a::b::j)) 2=false:=xT (show¬ ((a::b::j).length:Int)<2 by simp;omega);have l0:cm (a::b::j) 0=some a:=rfl;have l1:cm (a::b::j) 1=some b:=rfl;obtain⟨v,D,S,U,ah⟩:=Eo (n:=n) (s:=b) (by have:=I b (by simp);omega);obtain⟨Y,Z⟩:=abX U ah;rw[af,cR,l1,l0];simp only[cw,S,S8 (n:=n) (s:=s) (by omega) R];have hE:j=[]->∀(F:Bool),(F=true↔D=true/\0<=fy s.cB v/\(gT s.cB (fy s.cB v).toNat).de=1/\(a=[67]\/a=[65]))->(F=true↔(a=[67]\/a=[65])/\0<=fy s.cB (eB b)/\(gT s.cB (fy s.cB (eB b)).toNat).de=1/\r=a++[32]++itoa (eB b))/\(F=true->eB b=v):=by
   intro J F E
   subst J
   have ai:r=a++32::b:=hj.symm
   have aa:∀x,0<=fy s.cB x->1<=x/\x<=99:=λx hx=>by
    obtain⟨k,_,A,ab⟩:=xh hx
    have:=(ht.t _ (dM A)).1
    rw[<-xJ A,ab] at this
    exact this
   have P:F=true->eB b=v:=λu=>by
    obtain⟨H,C,_⟩:=E.1 u
    have:=aa v C
    exact Y H this.1 this.2
   refine⟨?_,P⟩
   constructor
   ·intro u;have e:=P u;obtain⟨H,C,Q,c4⟩:=E.1 u;rw[e];exact⟨c4,C,Q,by rw[ai,(U H).1];simp⟩
   ·rintro⟨c4,C,Q,c5⟩;have:=aa _ C;obtain⟨c6,c7⟩:=Z this.1 this.2;rw[E,c7];exact⟨c6,C,Q,c4⟩
  match j with
  |[]=>
   have e2:cp (cA [a,b]) 2=true:=rfl;have e3:cp (cA [a,b]) 3=false:=rfl;simp only[e2,e3,cR,dT,eW,kX]
   by_cases C:0<=fy s.cB v
   ·obtain⟨k,hk,A,ab⟩:=xh C;have E:=hE rfl (D&&(decide ((gT s.cB k).de=1)&&(decide (a=[67])||decide (a=[65])))) (by
     rw[hk,fH]
     simp only[dF,yp,dQ]
     constructor
     ·rintro⟨d1,d2,d3⟩;exact⟨d1,by omega,d2,d3⟩
     ·rintro⟨d1,_,d2,d3⟩;exact⟨d1,d2,d3⟩);have ad:cC ((k:Nat):Int) 0=false:=xT (by omega);have aj:∀x:eD,cm (du s.cB ((k:Nat):Int) x) ((k:Nat):Int)=some x:=λx=>by simp[cm,du,A]
    rw[hk,ad,eP A ⟨0,0,[]⟩];simp only[cw,cR,ez,aj,ahN A,aaw h R]
    by_cases u:(D&&(decide ((gT s.cB k).de=1)&&(decide (a=[67])||decide (a=[65]))))=true
    ·have ak:=E.1.1 u;have P:=E.2 u;rw[cM ak,P,hk,fH];simp only[dF,yp,dQ] at u;obtain⟨d1,d2,d3⟩:=u;have hp:a≠[80]:=by rcases d3 with rfl|rfl<;>decide
     rw[show decide (a=[80])=false by simpa using hp,d1,show decide ((gT s.cB k).de=1)=true by simpa using d2];simp only[eW,cR];rcases d3 with rfl|rfl
     ·simp[nD,-List.getD_eq_getElem?_getD]
     ·simp[nD,du,-List.getD_eq_getElem?_getD]
    ·rw[cN (λh=>u (E.1.2 h))];rw[qd] at u;generalize decide (a=[80])=z0;generalize decide ((gT s.cB k).de=1)=z1 at u⊢;generalize decide (a=[67])=z2 at u⊢;generalize decide (a=[65])=z3 at u⊢;cases z0<;>cases D<;>cases z1<;>cases z2<;>cases z3<;>first|rfl|(simp at u)
   ·have am:=(WQ (show fy s.cB v<0 by omega)).1;have E:=hE rfl false (by simp;intro _ h;exact absurd h C);rw[cN (λh=>by cases E.1.2 h),am];have:cC (-1) 0=true:=rfl;rw[this];cases decide (a=[80])<;>cases D<;>rfl
  |[c]=>
   have e2:cp (cA [a,b,c]) 2=false:=rfl;have e3:cp (cA [a,b,c]) 3=true:=rfl;have l2:cm [a,b,c] 2=some c:=rfl;simp only[e2,e3,l2,cP,dT,hY,kX,cw,Z8 (I c (by simp)) (hg a b c rfl) R,Ie (n:=n) (net:=s.cJ) (by have:=h.1;omega) (λl hl=>(h.2 l hl).z) R]
   by_cases H:a=[80]
   rotate_left
   ·rw[cN (λh=>H h.1),show decide (a=[80])=false by simpa using H];cases D<;>rfl
   rw[show decide (a=[80])=true by simpa using H,cP];have an:xe n v=some (decide (1<=v/\v<=99)):=by unfold xe;rw[tP,cw]
   simp only[an,cw,gR]
   by_cases C:D=true/\1<=v/\v<=99
   ·obtain⟨d1,d2,d3⟩:=C;have P:=Y d1 d2 d3;rw[P,d1,show decide (1<=v/\v<=99)=true by simpa using⟨d2,d3⟩];simp only[eW,cR];cases ao:(jS c).2 with
    |false=>
     rw[cN (λh=>by cases h.2.2.2)];rfl
    |true=>
     simp only[eW,cR]
     by_cases Q:fy s.cB v<0
     ·have M:decide (0<=fy s.cB v)=false:=by simp;omega
      rw[cM ⟨H,Q,⟨d2,d3⟩,trivial⟩,M,cR];have aq:=(ow (ET ao).1).2;have N:=RM (n:=n) (cu:=v) (ops:=(jS c).1) (by omega) R n 0 s.cJ (by omega) (by omega) h;rw[s9] at N;unfold MC;cases hA:pG v s.cJ (jS c).1 with
      |none=>
       rw[hA] at N;obtain⟨y,hy⟩:=N;rw[show((0:Nat):Int)=0 from rfl] at hy;rw[hy];rfl
      |some x=>
       rw[hA] at N;simp only at N;rw[show((0:Nat):Int)=0 from rfl] at N;rw[N];simp only[cw,eW,cR];rw[fW (by simp;omega) (by omega),cw];rfl
     ·have M:decide (0<=fy s.cB v)=true:=by simp;omega
      rw[cN (λh=>Q h.2.1),M];rfl
   ·rw[cN (λh=>C (by
      obtain⟨_,_,⟨d2,d3⟩,_⟩:=h
      obtain⟨d4,d5⟩:=Z d2 d3
      exact⟨d4,by omega,by omega⟩))];have:(D&&decide (1<=v/\v<=99))=false:=by
     rw[<-qd,dF,dQ]
     exactλh=>C ⟨h.1,h.2⟩
    generalize decide (1<=v/\v<=99)=z at this⊢;cases D<;>cases(jS c).2<;>cases z<;>first|rfl|(simp at this)
  |c::d::j=>
   have e2:cp (cA (a::b::c::d::j)) 2=false:=by rw[ez,cW];simp;omega
   have e3:cp (cA (a::b::c::d::j)) 3=false:=by rw[ez,cW];simp;omega
   simp only[e2,e3,cR,dT,hY,kX];cases decide (a=[80])<;>cases D<;>rfl
def UH{rs:List cq}(A:∀r∈rs,r.length<2^28/\tW r)(E:rs.length<2^27)(C:2^41<=n):∀(m i:Nat)(x:cT),i<=rs.length->rs.length<m+i->iK x.cJ->pT x.cB->x.cB.length<=i->AO n m rs (cA rs) i x (λF=>some (F,true))=some (match lj x.cJ x.cB (rs.drop i) with|some y=>({x with cJ:=y.1,cB:=y.2},true)|none=>(⟨0,[],[],false,[],[]⟩,false))
 |0,i,x,H,I,e,j,J=>by omega
 |m+1,i,x,H,I,e,j,J=>by
  by_cases u:i<rs.length
  ·have a:cC (i:Int) (cA rs)=true:=mN (show(i:Int)<(rs.length:Nat) by omega);have D:=A _ (dM u);rw[AO,a,cP,dA u,cw,ly u,lj,WR D.1 D.2 e j (by omega) C,cw];cases M:mL x.cJ x.cB rs[i] with
   |none=>rfl
   |some y=>
    obtain⟨N,P,Q,_⟩:=Gx (l:=y.1) (t:=y.2) e j M;simp only[dT,eW,cR];rw[dO (by omega)];exact UH A E C m (i+1) _ (by omega) (by omega) N P (by simp;omega)
  ·have:i=rs.length:=by omega
   subst this;have a:cC (rs.length:Int) (cA rs)=false:=xT (show¬ (rs.length:Int)<(rs.length:Nat) by omega);rw[AO,a,cR,rK];rfl
def ri(s:cq):Prop:=∀r∈(eC s).1,tW r
def aaW{s:cT}(j:s.dw.length<100000)(x:ri s.dw)(a:iK s.base)(e:2^41<=n):DY n s=some (match lj s.base [] (eC s.dw).1 with|some y=>(⟨s.id,s.base,s.dw.take (eC s.dw).2,true,y.1,y.2⟩,true)|none=>(⟨0,[],[],false,[],[]⟩,false)):=by
 have A:=uX (s:=s.dw) (by omega);unfold DY;rw[RH (by omega) e,cw];dsimp only;rw[Ie (by have:=a.1;omega) (λl j=>(a.2 l j).z) e,cw,show fF s.dw 0 ((eC s.dw).2:Int)=some (s.dw.take (eC s.dw).2) by unfold fF;rw[cM (by omega)];simp,cw,cw];have:=UH (n:=n) (rs:=(eC s.dw).1) (λr u=>⟨by have:=Oo (by omega) u;omega,x r u⟩) (by omega) e n 0 (cT.mk s.id s.base (s.dw.take (eC s.dw).2) true s.base []) (by omega) (by omega) a vU (by simp);rw[s9] at this;exact this
def Qo{a b:List Int}(D:a.length<2^29)(E:2^41<=n):Ok (B2 n a b) λr=>r=true↔a=b:=by
 unfold B2;refine eg (dr (λu=>?_) λu=>cH ⟨λh=>(by cases h),λh=>absurd (by rw[h]) u⟩);have x:a.length=b.length:=by simp only[go_sem] at u;omega
 have A:=kV (N:=a.length) (by omega) (L:=λm i=>A7 n m a b (cA a) i (some true)) (P:=λj=>decide (gI a j=gI b j)) (k:=some true) (r:=some false) (λm=>by simp[go_sem,A7]) (λm i C=>by
  have e:cC (i:Int) (cA a)=true:=mN (show(i:Int)<(a.length:Nat) by omega)
  rw[A7,e,cP,eP C 0,eP (show i<b.length by omega) 0,cw,cw,ez,dT]
  cases decide (gI a i=gI b i)<;>rfl) (m:=n) (by omega);have y:(gh a.length λj=>decide (gI a j=gI b j))=true↔a=b:=by
  rw[<-uM 0 x,mY]
  simp only[dQ]
 rw[A];split
 ·rename_i e;exact cH ⟨λ_=>y.1 e,λ_=>rfl⟩
 ·rename_i e;exact cH ⟨λh=>(by cases h),λh=>absurd (y.2 h) e⟩
def ahO{a b:List dy}(D:a.length<2^29)(E:2^41<=n):Ok (IA n a b) λr=>r=true↔a=b:=by
 unfold IA;refine eg (dr (λu=>?_) λu=>cH ⟨λh=>(by cases h),λh=>absurd (by rw[h]) u⟩);have x:a.length=b.length:=by simp only[go_sem] at u;omega
 have A:=kV (N:=a.length) (by omega) (L:=λm i=>A8 n m a b (cA a) i (some true)) (P:=λj=>decide ((gH a j).cu=(gH b j).cu)&&(decide ((gH a j).dh=(gH b j).dh)&&decide ((gH a j).cV=(gH b j).cV))) (k:=some true) (r:=some false) (λm=>by simp[go_sem,A8]) (λm i C=>by
  have e:cC (i:Int) (cA a)=true:=mN (show(i:Int)<(a.length:Nat) by omega)
  rw[A8,e,cP,eP C ⟨0,0,0⟩,eP (show i<b.length by omega) ⟨0,0,0⟩,cw,cw]
  simp only[fP,ez,dT]
  generalize(decide ((gH a i).cu=(gH b i).cu)&&(decide ((gH a i).dh=(gH b i).dh)&&decide ((gH a i).cV=(gH b i).cV)))=z
  cases z<;>rfl) (m:=n) (by omega);have y:(gh a.length λj=>decide ((gH a j).cu=(gH b j).cu)&&(decide ((gH a j).dh=(gH b j).dh)&&decide ((gH a j).cV=(gH b j).cV)))=true↔a=b:=by
  rw[<-uM ⟨0,0,0⟩ x,mY]
  simp only[dF,dQ,RJ]
 rw[A];split
 ·rename_i e;exact cH ⟨λ_=>y.1 e,λ_=>rfl⟩
 ·rename_i e;exact cH ⟨λh=>(by cases h),λh=>absurd (y.2 h) e⟩
def ahP{a b:List dt}(D:a.length<2^29)(E:2^41<=n):Ok (IC n a b) λr=>r=true↔a=b:=by
 unfold IC;refine eg (dr (λu=>?_) λu=>cH ⟨λh=>(by cases h),λh=>absurd (by rw[h]) u⟩);have x:a.length=b.length:=by simp only[go_sem] at u;omega
 have A:=kV (N:=a.length) (by omega) (L:=λm i=>A9 n m a b (cA a) i (some true)) (P:=λj=>decide ((gO a j).dx=(gO b j).dx)&&(decide ((gO a j).dh=(gO b j).dh)&&(decide ((gO a j).cV=(gO b j).cV)&&decide ((gO a j).eU=(gO b j).eU)))) (k:=some true) (r:=some false) (λm=>by simp[go_sem,A9]) (λm i C=>by
  have e:cC (i:Int) (cA a)=true:=mN (show(i:Int)<(a.length:Nat) by omega)
  rw[A9,e,cP,eP C ⟨[],0,0,0⟩,eP (show i<b.length by omega) ⟨[],0,0,0⟩,cw,cw]
  simp only[fP,ez,kX,dT]
  generalize(decide ((gO a i).dx=(gO b i).dx)&&(decide ((gO a i).dh=(gO b i).dh)&&(decide ((gO a i).cV=(gO b i).cV)&&decide ((gO a i).eU=(gO b i).eU))))=z
  cases z<;>rfl) (m:=n) (by omega);have y:(gh a.length λj=>decide ((gO a j).dx=(gO b j).dx)&&(decide ((gO a j).dh=(gO b j).dh)&&(decide ((gO a j).cV=(gO b j).cV)&&decide ((gO a j).eU=(gO b j).eU))))=true↔a=b:=by
  rw[<-uM ⟨[],0,0,0⟩ x,mY]
  simp only[dF,dQ,Sh]
 rw[A];split
 ·rename_i e;exact cH ⟨λ_=>y.1 e,λ_=>rfl⟩
 ·rename_i e;exact cH ⟨λh=>(by cases h),λh=>absurd (y.2 h) e⟩
def aaX{a b:cG}:a=b↔a.name=b.name/\a.cL=b.cL/\a.to=b.to/\a.fx=b.fx/\a.arr=b.arr/\a.cap=b.cap/\a.dJ=b.dJ/\a.dD=b.dD/\a.eH=b.eH/\a.holds=b.holds:=by
 cases a;cases b;simp
def adL{a b:cG}(u:oQ a)(A:2^41<=n):Ok (HZ n a b) λr=>r=true↔a=b:=by
 have J:=u.z1;have M:=u.z2;have N:=u.z3;have P:=u.z4;have j:∀{p:Prop},(a=b->p)->¬ p->Ok (some false) λr=>r=true↔a=b:=λf h=>cH ⟨λh=>(by cases h),λe=>absurd (f e) h⟩;unfold HZ;refine oJ (λQ=>oJ (λR=>oJ (λS=>dr (λU=>dr (λY=>dr (λZ=>dq (Qo (by omega) A) λx hx=>ef (λE=>dq (Qo (by omega) A) λy C=>ef (λF=>dq (Qo (by omega) A) λz D=>ef (λH=>dq (ahO (by omega) A) λw I=>cH ?_) λc=>?_) λc=>?_) λc=>?_) λc=>?_) λc=>?_) λc=>?_) λc=>?_) λc=>?_) λc=>?_
 ·rw[I,aaX];have:=hx.1 E;have:=C.1 F;have:=D.1 H
  simp_all
 ·exact j (λe=>D.2 (by rw[e])) (by simp[c])
 ·exact j (λe=>C.2 (by rw[e])) (by simp[c])
 ·exact j (λe=>hx.2 (by rw[e])) (by simp[c])
 ·exact j (λe=>by rw[e]) c
 ·exact j (λe=>by rw[e]) c
 ·exact j (λe=>by rw[e]) c
 ·exact j (λe=>by rw[e]) c
 ·exact j (λe=>by rw[e]) c
 ·exact j (λe=>by rw[e]) c
def abY{a b:List cG}(H:a.length<2^29)(D:∀l∈a,oQ l)(E:2^41<=n):Ok (IB n a b) λr=>r=true↔a=b:=by
 unfold IB;refine dq ?_ λx hx=>cH hx;unfold Mv;refine eg (dr (λu=>?_) λu=>cH ⟨λh=>(by cases h),λh=>absurd (by rw[h]) u⟩);have y:a.length=b.length:=by simp only[go_sem] at u;omega
 have F:=kV (N:=a.length) (by omega) (L:=λm i=>AK n m b a (cA a) i (some true)) (P:=λj=>@decide (gL a j=gL b j) (Classical.propDecidable _)) (k:=some true) (r:=some false) (λm=>by simp[go_sem,AK]) (λm i A=>by
  have e:cC (i:Int) (cA a)=true:=mN (show(i:Int)<(a.length:Nat) by omega)
  rw[AK,e,cP,eP A ⟨[],[],[],0,0,0,[],[],[],[]⟩,eP (show i<b.length by omega) ⟨[],[],[],0,0,0,[],[],[],[]⟩,cw,cw,DH (adL (n:=n) (a:=gL a i) (b:=gL b i) (D _ (xp A)) E),cw,dT]
  generalize@decide (gL a i=gL b i) (Classical.propDecidable _)=z
  cases z<;>rfl) (m:=n) (by omega);have C:(gh a.length λj=>@decide (gL a j=gL b j) (Classical.propDecidable _))=true↔a=b:=by
  rw[<-uM ⟨[],[],[],0,0,0,[],[],[],[]⟩ y,mY]
  simp only[dQ]
 rw[F];split
 ·rename_i e;exact cH ⟨λ_=>C.1 e,λ_=>rfl⟩
 ·rename_i e;exact cH ⟨λh=>(by cases h),λh=>absurd (C.2 h) e⟩
def abZ{a b:List eD}(S:a.length<2^29)(F:∀t∈a,t.ops.length<=1000)(H:2^41<=n):Ok (ID n a b) λr=>r=true↔a=b:=by
 have I:∀x y:eD,x.ops.length<=1000->Ok (H0 n x y) λr=>r=true↔x=y:=λx y hx=>by
  unfold H0
  refine dr (λJ=>dr (λM=>dq (ahP (by omega) H) λz Q=>cH ?_) λc=>?_) λc=>?_
  ·rw[Q,Si];simp[J,M]
  ·exact cH ⟨λh=>(by cases h),λe=>absurd (by rw[e]) c⟩
  ·exact cH ⟨λh=>(by cases h),λe=>absurd (by rw[e]) c⟩
 unfold ID;refine dq ?_ λx hx=>cH hx;unfold Mw;refine eg (dr (λA=>?_) λA=>cH ⟨λh=>(by cases h),λh=>absurd (by rw[h]) A⟩);have C:a.length=b.length:=by simp only[go_sem] at A;omega
 have R:=kV (N:=a.length) (by omega) (L:=λm i=>AL n m b a (cA a) i (some true)) (P:=λj=>@decide (gT a j=gT b j) (Classical.propDecidable _)) (k:=some true) (r:=some false) (λm=>by simp[go_sem,AL]) (λm i D=>by
  have u:cC (i:Int) (cA a)=true:=mN (show(i:Int)<(a.length:Nat) by omega)
  rw[AL,u,cP,eP D ⟨0,0,[]⟩,eP (show i<b.length by omega) ⟨0,0,[]⟩,cw,cw,DH (I (gT a i) (gT b i) (by rw[xJ D];exact F _ (dM D))),cw,dT]
  generalize@decide (gT a i=gT b i) (Classical.propDecidable _)=z
  cases z<;>rfl) (m:=n) (by omega);have E:(gh a.length λj=>@decide (gT a j=gT b j) (Classical.propDecidable _))=true↔a=b:=by
  rw[<-uM ⟨0,0,[]⟩ C,mY]
  simp only[dQ]
 rw[R];split
 ·rename_i u;exact cH ⟨λ_=>E.1 u,λ_=>rfl⟩
 ·rename_i u;exact cH ⟨λh=>(by cases h),λh=>absurd (E.2 h) u⟩
end
end
section
section
variable{n:Nat}
def V0{s:cq}(a:s.length<1000000000000):s.take (eC s).2=s↔(eC s).2=s.length:=by
 have h:=(uX a).1;constructor
 ·intro e;have:=congrArg List.length e;simp at this;omega
 ·intro e;rw[e,s8]
def aax{s:cT}(e:yh s)(R:ri s.dw)(x:2^41<=n):Ok (rV n s) λr=>r=true↔rG s:=by
 have E:=e.lg;have N:=e.bl;unfold rV Nv;rw[tP];simp only[cw];refine eg (ef (λA=>?_) λA=>cH ⟨λh=>(by cases h),λh=>?_⟩)
 rotate_left
 ·have:=h.1;simp only[lA] at A;exact absurd this A
 rw[dQ] at A;rw[abW (by omega) e.bz x,aav (by omega) x];simp only[cw];refine eg (ef (λC=>ef (λj=>cH ⟨λh=>(by cases h),λh=>?_⟩) λj=>?_) λC=>cH ⟨λh=>(by cases h),λh=>?_⟩)
 ·have:=h.2.1;simp only[oI,dF] at this;rw[this.1] at j;cases j
 rotate_left
 ·have:=h.2.1;simp only[oI,dF] at this;rw[this.2] at C;cases C
 have D:oI s.base=true:=by
  simp only[oI,dF]
  exact⟨by simpa using j,C⟩
 obtain⟨F,S,_⟩:=Jx D;refine eu (λH=>cH ⟨λh=>(by cases h),λh=>?_⟩) λH=>?_
 ·have:=h.2.2.1;simp only[gA] at H;omega
 simp only[gA] at H;rw[aaW E R F x,cw];cases I:lj s.base [] (eC s.dw).1 with
 |none=>
  simp only[dT,hY,cP];refine cH ⟨λh=>(by cases h),λh=>?_⟩;obtain⟨_,_,_,y,P,_⟩:=h;rw[I] at P;cases P
 |some y=>
  simp only[dT,eW,cR];have J:rG s↔(if s.up=true then(eC s.dw).2=s.dw.length/\s.cJ=y.1/\s.cB=y.2 else s.cJ=[]/\s.cB=[]):=by
   constructor
   ·rintro⟨_,_,_,z,e,h⟩;rw[I] at e;cases e;exact h
   ·exactλh=>⟨A,D,by omega,y,I,h⟩
  rw[show(λr=>r=true↔rG s)=(λr=>r=true↔(if s.up=true then(eC s.dw).2=s.dw.length/\s.cJ=y.1/\s.cB=y.2 else s.cJ=[]/\s.cB=[])) from funext λr=>by rw[J]];cases Z:s.up with
  |false=>
   simp only[hY,cP,iS,iO];refine dr (λu=>cH ?_) λu=>cH ⟨λh=>(by cases h),λh=>absurd (by rw[h.1];rfl) u⟩;have:s.cJ=[]:=og.1 (by simp only[cW] at u;omega);rw[ez,cW,dQ];constructor
   ·intro h;exact⟨this,og.1 (by omega)⟩
   ·intro h;rw[h.2];rfl
  |true=>
   simp only[eW,cR,gE];refine oJ (λu=>?_) λu=>cH ⟨λh=>(by cases h),λh=>absurd ((V0 (by omega)).2 h.1) u⟩;have U:=(V0 (by omega)).1 u;refine dq (abY (by have:=e.ll;omega) (λl Y=>(e.lr l Y).tooQ) x) λa Q=>ef (λM=>dq (abZ (by have:=e.tl;omega) e.tz x) λb D=>cH ?_) λM=>cH ⟨λh=>(by cases h),λh=>absurd (Q.2 h.2.1) (by simp[M])⟩;rw[D];exact⟨λh=>⟨U,Q.1 M,h⟩,λh=>h.2.2⟩
noncomputable def okB(s:cT):Bool:=@decide (rG s) (Classical.propDecidable _)
def Ph{s:cT}:okB s=true↔rG s:=by unfold okB;simp
structure Good(s:cT):Prop where
 z:yh s
 g:ri s.dw
def PJ{s:cT}(h:Good s)(a:2^41<=n):pn n s=some (okB s):=DH (aaT h.z a)
def PK{s:cT}(h:Good s)(a:2^41<=n):rV n s=some (okB s):=DH (aax h.z h.g a)
def Sj{s:cT}(j:yh s)(y:2^41<=n):yA n s=some s:=by
 have H:=j.tl;unfold yA;rw[Ie (by have:=j.bl;omega) j.bz y,cw,Ie (by have:=j.ll;omega) (λl A=>(j.lr l A).tooQ) y,cw];have e:IF n s.cB=some s.cB:=by
  unfold IF FA
  rw[cM (by omega),cw,ahe,cw]
 rw[e,cw];have u:∀m i:Nat,i<=s.cB.length->s.cB.length<m+i->AP n m (cA s.cB) i s some=some s:=by
  intro m
  induction m with
  |zero=>intro i C D;omega
  |succ m E=>
   intro i C D
   by_cases x:i<s.cB.length
   ·have a:cC (i:Int) (cA s.cB)=true:=mN (show(i:Int)<(s.cB.length:Nat) by omega);have F:IG n s.cB[i].ops=some s.cB[i].ops:=by
     unfold IG FB
     rw[cM (by have:=j.tz _ (dM x);omega),cw,ahd,cw]
    rw[AP,a,cP,dA x];simp only[cw,F];rw[dO (by omega)];have:({s with cB:=du s.cB (i:Int) {s.cB[i] with ops:=s.cB[i].ops}}:cT)=s:=by
     have:du s.cB (i:Int) {s.cB[i] with ops:=s.cB[i].ops}=s.cB:=by
      unfold du
      rw[fH]
      exact Q3 x
     rw[this]
    rw[this];exact E (i+1) (by omega) (by omega)
   ·have:i=s.cB.length:=by omega
    subst this;have a:cC (s.cB.length:Int) (cA s.cB)=false:=xT (show¬ (s.cB.length:Int)<(s.cB.length:Nat) by omega);rw[AP,a,cR]
 exact u n 0 (by omega) (by omega)
def uj:cT:=⟨0,[],[],false,[],[]⟩
def NJ(m:cO):tW (mM m):=λa b c h=>by
 have j:(32:UInt8)∉itoa m.cu:=Gz _;have:dB 32 (mM m)=[if m.yes=true then[67] else[65],itoa m.cu]:=by
  have e:mM m=eX 32 [if m.yes=true then[67] else[65],itoa m.cu]:=by
   unfold mM
   split<;>simp[eX]
  rw[e]
  refine w7 (by simp) λw u=>?_
  simp only[eG,mq,l8] at u
  rcases u with rfl|rfl
  ·split<;>decide
  ·exact j
 rw[this] at h;simp at h
def ab0{s:cT}{jl:cq}(A:s.dw.length<100000)(C:jl.length<100000)(e:tW jl)(h:iK s.cJ)(j:pT s.cB)(u:s.cB.length<=20000)(a:2^41<=n):yI n s jl=some (match lD s jl with|some x=>(true,x)|none=>(false,s)):=by
 unfold yI lD;rw[aaR (by omega) (by omega) a,cw];cases D:qG s.dw jl with
 |none=>rfl
 |some y=>
  simp only[dT,eW,cR];rw[WR (by omega) e h j (by omega) a,cw];cases mL s.cJ s.cB jl<;>rfl
def KY(s:cT)(m:cO):G3 s m=(if(if 0<=fy s.cB m.cu then(gT s.cB (fy s.cB m.cu).toNat).de else 0)=1 then match lD s (mM m) with
  |some x=>(x,[⟨4,s.id,0,m.cu,[],m.yes⟩])
  |none=>(s,[])
 else if(if m.yes=true then(if 0<=fy s.cB m.cu then(gT s.cB (fy s.cB m.cu).toNat).de else 0)=2 else(if 0<=fy s.cB m.cu then(gT s.cB (fy s.cB m.cu).toNat).de else 0)≠2) then(s,[⟨4,s.id,0,m.cu,[],m.yes⟩]) else(s,[])):=rfl
def adM{s:cT}{m:cO}(H:m.kind=3)(J:s.dw.length<100000)(h:iK s.cJ)(M:pT s.cB)(C:s.cB.length<=20000)(I:2^41<=n):H3 n s m=some ((lH s m).2,(lH s m).1):=by
 unfold H3 lH xe;simp only[tP,cw,dT,ez]
 by_cases a:s.up=true
 rotate_left
 ·rw[cN (λh=>a h.1)];simp[a]
 by_cases e:m.to=s.id
 rotate_left
 ·rw[cN (λh=>e h.2.1)];simp[a,e]
 by_cases j:m.cL=0
 rotate_left
 ·rw[cN (λh=>j h.2.2.1)];simp[a,e,j]
 by_cases A:1<=m.cu/\m.cu<=99
 rotate_left
 ·rw[cN (λh=>A h.2.2.2)];simp[a,e,j,A]
 have N:=ku (x:=m.cu) (by omega) (by omega);rw[cM ⟨a,e,j,A⟩,cN (by omega),cM H];have k1:decide (m.kind=1)=false:=by simp;omega
 have Md:decide (m.kind=3)=true:=by simpa using H
 rw[show decide (1<=m.cu/\m.cu<=99)=true by simpa using A,show decide (m.to=s.id)=true by simpa using e,show decide (m.cL=0)=true by simpa using j,a,k1,Md];simp only[eW,cR,cP,S8 (n:=n) (s:=s) (by omega) I,cw,Lk (n:=n) (show-9000000000000000000<=m.cu/\m.cu<=9000000000000000000 by omega),gR];have hC:da [67,32] (itoa m.cu)=some ([67,32]++itoa m.cu):=fR (by simp;omega);have P:da [65,32] (itoa m.cu)=some ([65,32]++itoa m.cu):=fR (by simp;omega);have u:=ab0 (n:=n) (s:=s) (jl:=mM m) J (by unfold mM;split<;>simp<;>omega) (NJ m) h M C I;rw[KY]
 by_cases d1:0<=fy s.cB m.cu
 ·obtain⟨k,D,E,Q⟩:=xh d1;have R:(0:Int)<=(k:Int):=by omega
  have S:decide ((0:Int)<=(k:Int))=true:=by simp
  rw[D,S,cM R,fH,eP E ⟨0,0,[]⟩];simp only[cw,cP]
  by_cases d2:(gT s.cB k).de=1
  ·rw[cM d2,show decide ((gT s.cB k).de=1)=true by simpa using d2,cP];unfold mM at u⊢;cases y:m.yes with
   |true=>
    rw[y,cM rfl] at u;simp only[gE,cP];rw[hC,cw,u,cw];cases hW:lD s ([67,32]++itoa m.cu) with
    |none=>rfl
    |some x=>
     have:x.id=s.id:=by
      unfold lD at hW
      split at hW
      ·cases hW
      ·split at hW
       ·cases hW
       ·cases hW;rfl
     simp only[cP,this]
   |false=>
    rw[y,cN (by simp)] at u;simp only[iS,iO,cR];rw[P,cw,u,cw];cases hW:lD s ([65,32]++itoa m.cu) with
    |none=>rfl
    |some x=>
     have:x.id=s.id:=by
      unfold lD at hW
      split at hW
      ·cases hW
      ·split at hW
       ·cases hW
       ·cases hW;rfl
     simp only[cP,this]
  ·rw[cN d2,show decide ((gT s.cB k).de=1)=false by simpa using d2,cR]
   by_cases d3:(gT s.cB k).de=2
   ·rw[show decide ((gT s.cB k).de=2)=true by simpa using d3];cases y:m.yes with
    |true=>
     have q:(if true=true then(gT s.cB k).de=2 else(gT s.cB k).de≠2):=by rw[cM rfl];exact d3
     rw[cM q];rfl
    |false=>
     have q:¬ (if false=true then(gT s.cB k).de=2 else(gT s.cB k).de≠2):=by rw[cN (by decide)];exactλh=>h d3
     rw[cN q];rfl
   ·rw[show decide ((gT s.cB k).de=2)=false by simpa using d3];cases y:m.yes with
    |true=>
     have q:¬ (if true=true then(gT s.cB k).de=2 else(gT s.cB k).de≠2):=by rw[cM rfl];exact d3
     rw[cN q];rfl
    |false=>
     have q:(if false=true then(gT s.cB k).de=2 else(gT s.cB k).de≠2):=by rw[cN (by decide)];exact d3
     rw[cM q];rfl
 ·have F:decide (0<=fy s.cB m.cu)=false:=by simpa using d1
  rw[F,cN d1,cN (by decide)];cases y:m.yes with
  |true=>rfl
  |false=>rfl
end
end
section
section
variable{n:Nat}
def Oq{s:cT}(h:rG s):iK s.cJ/\pT s.cB:=by
 obtain⟨C,j,D,y,u,a⟩:=h;obtain⟨x,A,E,F⟩:=Gy (l:=y.1) (t:=y.2) (Jx j).1 vU u;cases e:s.up with
 |true=>
  rw[e,cM rfl] at a;rw[a.2.1,a.2.2];exact⟨x,A⟩
 |false=>
  rw[e,cN (by simp)] at a;rw[a.1,a.2];exact⟨⟨by simp,by simp⟩,vU⟩
def MU{s x:cT}{r:cq}(h:lD s r=some x):∃y,qG s.dw r=some x.dw/\mL s.cJ s.cB r=some y/\x.cJ=y.1/\x.cB=y.2/\x.id=s.id/\x.base=s.base/\x.up=s.up:=by
 unfold lD at h;split at h
 ·cases h
 ·rename_i a e;split at h
  ·cases h
  ·rename_i y j;cases h;exact⟨y,e,j,rfl,rfl,rfl,rfl,rfl⟩
def NK{s x r:cq}(e:s.length<100000)(j:r.length<100000)(h:qG s r=some x):x.length<=9000/\(eC s).2=s.length/\eC x=((eC s).1++[r],x.length):=by
 unfold qG at h;split at h
 ·rename_i a;cases h;have:=adB (s:=s) (r:=r) (by rw[fg];omega) a.1;rw[this];exact⟨by rw[fg];omega,a.1,by rw[fg]⟩
 ·cases h
def UI{s x:cT}{r:cq}(u:Good s)(h:rG s)(I:s.up=true)(R:r.length<100000)(A:tW r)(S:lD s r=some x):rG x/\Good x:=by
 obtain⟨y,U,J,C,D,Y,e,Z⟩:=MU S;obtain⟨E,F⟩:=Oq h;obtain⟨h1,M,h3,z,N,j⟩:=h;rw[I,cM rfl] at j;obtain⟨a1,a2,H⟩:=NK (by omega) R U;obtain⟨P,b2,b3,b4⟩:=Gx (l:=y.1) (t:=y.2) E F J;refine⟨⟨by rw[Y];exact h1,by rw[e];exact M,a1,y,?_,?_⟩,⟨⟨by rw[e];exact u.z.bl,by rw[e];exact u.z.bz,by omega,by rw[C];exact P.1,λl hl=>(P.2 l (by rw[<-C];exact hl)).r,?_,λt ht=>by have:=(ow (b2.t t (by rw[<-D];exact ht)).2).2;omega⟩,?_⟩⟩
 ·rw[H,e,adF,N];simp only[o4];rw[<-j.2.1,<-j.2.2,lj,J];rfl
 ·rw[Z,I,cM rfl,H];exact⟨rfl,C,D⟩
 ·obtain⟨_,_,Q,_⟩:=Gy (l:=z.1) (t:=z.2) (Jx M).1 vU N;have:=uX (s:=s.dw) (by omega);rw[<-j.2.2] at Q;simp at Q;rw[D];omega
 ·unfold ri;rw[H];intro q a;rcases eJ.1 a with a|a
  ·exact u.g q a
  ·rw[gf] at a;subst a;exact A
def Ot{m:cO}(h:1<=m.cu/\m.cu<=99):(mM m).length<100:=by
 have:=ku (x:=m.cu) (by omega) (by omega);unfold mM;split<;>simp<;>omega
def Nb{s:cT}{m:cO}(u:m.kind=3):lH s m=(s,[])\/lH s m=(s,[⟨4,s.id,0,m.cu,[],m.yes⟩])/\(if 0<=fy s.cB m.cu then(gT s.cB (fy s.cB m.cu).toNat).de else 0)≠1\/∃x,(s.up=true/\m.to=s.id/\m.cL=0/\1<=m.cu/\m.cu<=99)/\(if 0<=fy s.cB m.cu then(gT s.cB (fy s.cB m.cu).toNat).de else 0)=1/\lD s (mM m)=some x/\lH s m=(x,[⟨4,s.id,0,m.cu,[],m.yes⟩]):=by
 unfold lH
 by_cases c:s.up=true/\m.to=s.id/\m.cL=0/\1<=m.cu/\m.cu<=99
 ·rw[cM c,cN (by omega),cM u,KY]
  by_cases a:(if 0<=fy s.cB m.cu then(gT s.cB (fy s.cB m.cu).toNat).de else 0)=1
  ·rw[cM a];cases y:lD s (mM m) with
   |none=>exact .inl rfl
   |some x=>exact .inr (.inr ⟨x,c,a,rfl,rfl⟩)
  ·rw[cN a];generalize(if 0<=fy s.cB m.cu then(gT s.cB (fy s.cB m.cu).toNat).de else 0)=e at a
   by_cases j:(if m.yes=true then e=2 else e≠2)
   ·rw[cM j];exact .inr (.inl ⟨rfl,a⟩)
   ·rw[cN j];exact .inl rfl
 ·rw[cN c];exact .inl rfl
def S9{s:cT}{m:cO}(j:m.kind=3)(a:Good s)(h:rG s):Good (lH s m).1:=by
 rcases Nb (s:=s) j with e|⟨e,_⟩|⟨x,c,_,u,e⟩
 ·rw[e];exact a
 ·rw[e];exact a
 ·rw[e];have:=Ot c.2.2.2;exact(UI a h c.1 (by omega) (NJ m) u).2
def Ro{s:cT}{m:cO}(A:m.kind=3)(C:m.ops=[])(a:Good s)(e:2^41<=n):Ib n s m=some (if okB s=true then lH s m else(uj,[]))/\y8 n s m=some (if okB s=true then lH s m else(uj,[])):=by
 unfold Ib y8;rw[PJ a e,PK a e];cases D:okB s with
 |false=>exact⟨rfl,rfl⟩
 |true=>
  have j:=Ph.1 D;obtain⟨u,y⟩:=Oq j;have x:=S9 A a j;simp only[cw,dT,eW,cR,gE];constructor
  ·rw[VY ⟨by rw[C];simp,by rw[C];simp⟩ a.z.lg u a.z.tl e,cw,NH x.z e,cw]
  ·rw[Sj a.z e,cw,adM A a.z.lg u y a.z.tl e,cw,Sj x.z e,cw]
def xi{R:Type}{N:Nat}(a:N<2^30){L:Nat->Int->Option R}{k:Option R}(e:∀m,L (m+1) N=k)(j:∀m i,i<N->L (m+1) i=L m (cz .i64 i 1)){m:Nat}(u:N<m):L m 0=k:=by
 have:=kV a (L:=L) (P:=λ_=>true) (k:=k) (r:=k) e (λm i x=>by rw[j m i x,cM rfl]) u;rw[this];split<;>rfl
def Sk{a:List dt}(x:a.length<2^29)(y:2^41<=n):F7 n a a=some true:=by
 have e:=xi (N:=a.length) (by omega) (L:=λm i=>B3 n m a a i (some true)) (k:=some true) (λm=>by simp[go_sem,B3]) (λm i j=>by
  have u:cC (i:Int) (cA a)=true:=mN (show(i:Int)<(a.length:Nat) by omega)
  rw[B3,u,cP,dA j,cw,cw]
  simp[fP,ez,kX,dT]) (m:=n) (by omega);unfold F7;rw[e];simp[ez,dT]
def RN{a:List cO}(A:a.length<2^29)(j:∀m∈a,m.ops.length<2^29)(u:2^41<=n):sa n a a=some true:=by
 have x:=xi (N:=a.length) (by omega) (L:=λm i=>BL n m a a i (some true)) (k:=some true) (λm=>by simp[go_sem,BL]) (λm i e=>by
  have y:cC (i:Int) (cA a)=true:=mN (show(i:Int)<(a.length:Nat) by omega)
  rw[BL,y,cP,dA e,cw,cw,Sk (j _ (dM e)) u]
  simp[ez,ju,dT,cw]) (m:=n) (by omega);unfold sa;rw[x];simp[ez,dT]
def MW{a:List Int}(x:a.length<2^29)(y:2^41<=n):Cw n a a=some true:=by
 have e:=xi (N:=a.length) (by omega) (L:=λm i=>BM n m a a i (some true)) (k:=some true) (λm=>by simp[go_sem,BM]) (λm i j=>by
  have u:cC (i:Int) (cA a)=true:=mN (show(i:Int)<(a.length:Nat) by omega)
  rw[BM,u,cP,dA j,cw,cw]
  simp[ez,dT]) (m:=n) (by omega);unfold Cw;rw[e];simp[ez,dT]
def aaY{a:cG}(h:oQ a)(e:2^41<=n):Ku n a a=some true:=by
 have y:=h.z1;have A:=h.z2;have C:=h.z3;have D:=h.z4;have j:=xi (N:=a.holds.length) (by omega) (L:=λm i=>B5 n m i a a (some true)) (k:=some true) (λm=>by simp[go_sem,B5]) (λm i u=>by
  have x:cC (i:Int) (cA a.holds)=true:=mN (show(i:Int)<(a.holds.length:Nat) by omega)
  rw[B5,x,cP,dA u,cw,cw]
  simp[fP,ez,dT]) (m:=n) (by omega);unfold Ku;rw[j,MW (by omega) e,MW (by omega) e,MW (by omega) e];simp[ez,kX,dT,cw]
def RO{a:List cG}(y:a.length<2^29)(h:∀l∈a,oQ l)(j:2^41<=n):FP n a a=some true:=by
 have u:=xi (N:=a.length) (by omega) (L:=λm i=>BN n m a a i (some true)) (k:=some true) (λm=>by simp[go_sem,BN]) (λm i e=>by
  have x:cC (i:Int) (cA a)=true:=mN (show(i:Int)<(a.length:Nat) by omega)
  rw[BN,x,cP,dA e,cw,cw,aaY (h _ (dM e)) j]
  simp[dT,cw]) (m:=n) (by omega);unfold FP;rw[u];simp[ez,dT]
def MH{a:cT}(h:yh a)(e:2^41<=n):ov n a a=some true:=by
 have A:=h.bl;have C:=h.ll;have D:=h.tl;have u:=xi (N:=a.cB.length) (by omega) (L:=λm i=>Bs n m i a a (some true)) (k:=some true) (λm=>by simp[go_sem,Bs]) (λm i j=>by
  have x:cC (i:Int) (cA a.cB)=true:=mN (show(i:Int)<(a.cB.length:Nat) by omega)
  rw[Bs,x,cP,dA j]
  simp only[cw]
  rw[Sk (by have:=h.tz _ (dM j);omega) e]
  simp[ez,dT,cw]) (m:=n) (by omega);unfold ov;rw[u,RO (by omega) h.bz e,RO (by omega) (λl y=>(h.lr l y).tooQ) e];simp[ez,kX,ju,dT,cw]
def KB(a:List eD)(e:Int):Int:=if 0<=fy a e then(gT a (fy a e).toNat).de else 0
def Ta{s:cT}{cu:Int}(e:s.cB.length<2^29)(j:2^41<=n):B4 n s cu=some (KB s.cB cu):=by
 have:=u4 (xs:=s.cB) (by omega) (L:=λm i=>Ba n m cu i s (some 0)) (f:=λi=>some (if 0<=i then(gT s.cB i.toNat).de else 0)) (p:=λt:eD=>decide (t.cu=cu)) (λm=>by simp[go_sem,Ba]) (λm i h=>by
  have a:cC (i:Int) (cA s.cB)=true:=mN (show(i:Int)<(s.cB.length:Nat) by omega)
  rw[Ba,a,cP,dA h]
  simp only[cw,ez]
  by_cases c:s.cB[i].cu=cu
  ·rw[gF c,cP,cM rfl,cM (by omega),fH,xJ h]
  ·rw[gP c,cR,cN (by simp)]) (m:=n) (by omega);exact this
def adN(m:cO):dB 32 (mM m)=[if m.yes=true then[67] else[65],itoa m.cu]:=by
 have e:mM m=eX 32 [if m.yes=true then[67] else[65],itoa m.cu]:=by
  unfold mM
  split<;>simp[eX]
 rw[e];refine w7 (by simp) λw a=>?_;simp only[eG,mq,l8] at a;rcases a with rfl|rfl
 ·split<;>decide
 ·exact Gz _
def adO{e:List cG}{a:List eD}{m:cO}{y:List cG×List eD}(x:1<=m.cu/\m.cu<=99)(h:mL e a (mM m)=some y):0<=fy a m.cu/\y=(mh e m.cu m.yes,nD a (fy a m.cu).toNat (if m.yes=true then 2 else 3)):=by
 unfold mL at h;rw[adN] at h;simp only[Ce (show 0<=m.cu by omega) (by omega)] at h;generalize j:(if m.yes=true then([67]:cq) else[65])=w at h;split at h
 ·rename_i u;refine⟨u.2.1,?_⟩;rw[<-gV h,<-j];cases m.yes<;>rfl
 ·cases h
def ab1{a:List cG}{cu:Int}{j:Bool}(h:iK a):∀l∈mh a cu j,∀x∈l.holds,x.cu≠cu:=by
 intro l y x hx;obtain⟨k,A,rfl⟩:=ik.1 y;have u:=h.2 k A;cases j with
 |true=>
  rw[cM rfl] at hx;unfold qs at hx;split at hx
  ·exact((Oh u.mQ).1 hx).2
  ·rename_i C;exactλe=>C ((Og u.mQ).2 ⟨x,hx,e⟩)
 |false=>
  rw[cN (by simp)] at hx;exact((Oh u.mQ).1 hx).2
def afi{e:List eD}{k:Nat}{u cu:Int}(A:k<e.length):fy (nD e k u) cu=fy e cu:=by
 have j:∀(a b:List eD)(i:Nat),a.map (·.cu)=b.map (·.cu)->lG (λt:eD=>decide (t.cu=cu)) i a=lG (λt:eD=>decide (t.cu=cu)) i b:=by
  intro a
  induction a with
  |nil=>intro b i h;cases b with|nil=>rfl|cons y b=>simp at h
  |cons x a C=>
   intro b i h
   cases b with
   |nil=>simp at h
   |cons y b=>
    simp only[lz,lN] at h
    unfold lG
    rw[h.1,C b (i+1) h.2]
 exact j _ _ 0 (Ux A)
def XW{m:cO}{x:cT}{e:Int}(H:x.cJ.length<=1000)(E:∀l∈x.cJ,oQ l)(h:∀l∈x.cJ,∀y∈l.holds,y.cu≠m.cu)(I:2^41<=n)(k:Int->cO->cT->Option Bool):wa n n e 0 m x k=k e m x:=by
 have A:∀i,i<x.cJ.length->∀K:Int->Int->cO->cT->Option Bool,yz n n e (i:Int) 0 m x K=K e i m x:=λi u K=>by
  have C:=dM u
  have F:=(E _ C).z4
  refine xi (N:=x.cJ[i].holds.length) (by omega) (L:=λq j=>yz n q e (i:Int) j m x K) (λq=>?_) (λq j D=>?_) (by omega)
  ·have a:cC (x.cJ[i].holds.length:Int) (cA x.cJ[i].holds)=false:=xT (show¬ (x.cJ[i].holds.length:Int)<(x.cJ[i].holds.length:Nat) by omega);rw[yz,dA u,cw,a,cR]
  ·have a:cC (j:Int) (cA x.cJ[i].holds)=true:=mN (show(j:Int)<(x.cJ[i].holds.length:Nat) by omega);rw[yz,dA u,cw,a,cP,cw,dA D,cw,ez,gP (h _ C _ (dM D)),cR]
 refine xi (N:=x.cJ.length) (by omega) (L:=λq i=>wa n q e i m x k) (λq=>?_) (λq i u=>?_) (by omega)
 ·have a:cC (x.cJ.length:Int) (cA x.cJ)=false:=xT (show¬ (x.cJ.length:Int)<(x.cJ.length:Nat) by omega);rw[wa,a,cR]
 ·have a:cC (i:Int) (cA x.cJ)=true:=mN (show(i:Int)<(x.cJ.length:Nat) by omega);rw[wa,a,cP,A i u]
def XX{a b:Int}(h:a=b):cp a b=true:=by rw[ez];exact gF h
def XY{a b:Int}(h:¬ a=b):cp a b=false:=by rw[ez];exact gP h
def afj{s:cT}{m:cO}{code:List Int}(hs:DV n code=some (s,m))(H:Good s)(j:2^41<=n):Ej n code=some true:=by
 have an:=H.z.tl;unfold Ej;cases cC 1048576 (cA code) with
 |true=>rfl
 |false=>
  rw[cR,hs,cw];dsimp only;generalize E:({m with kind:=3,ops:=[]}:cO)=d;have M:d.kind=3:=by rw[<-E]
  have Z:d.ops=[]:=by rw[<-E]
  have hy:m.yes=d.yes:=by rw[<-E]
  have ht:m.cu=d.cu:=by rw[<-E]
  obtain⟨e1,e2⟩:=Ro M Z H j;rw[e2,cw,e1,cw];cases hb:okB s with
  |false=>
   have hz:yh uj:=⟨by simp[uj],by simp[uj],by simp[uj],by simp[uj],by simp[uj],by simp[uj],by simp[uj]⟩;rw[cN (by simp)];dsimp only;rw[MH hz j,RN (by simp) (by simp) j,PK H j,PJ H j,hb];rfl
  |true=>
   rw[cM rfl];have I:=Ph.1 hb;have aa:=S9 M H I;have ab:(lH s d).2.length<=1/\∀q∈(lH s d).2,q.ops.length<2^29:=by
    rcases Nb (s:=s) M with e|⟨e,_⟩|⟨x,_,_,_,e⟩<;>rw[e]<;>simp
   have J:=MH aa.z j;have F:=RN (n:=n) (a:=(lH s d).2) (by omega) ab.2 j;have ad:=Ta (n:=n) (s:=s) (cu:=m.cu) (by omega) j;simp only[J,F,PK H j,PJ H j,hb,ad,cw,dT,eW,cR,cP,show ju true true=true from rfl]
   by_cases c1:KB s.cB m.cu=1
   rotate_left
   ·rw[XY c1];rfl
   rw[XX c1];simp only[eW,cR]
   by_cases U:cA (lH s d).2=0
   ·rw[XX U];rfl
   rw[XY U,cR];rcases Nb (s:=s) M with e|⟨e,ae⟩|⟨x,hc,h1,hw,e⟩
   ·rw[e] at U;exact absurd rfl U
   ·exfalso;apply ae;rw[<-ht];exact c1
   ·have Y:=Ot hc.2.2.2;obtain⟨af,u⟩:=UI H I hc.1 (by omega) (NJ d) hw;obtain⟨y,f1,f2,f3,f4,f5,f6,f7⟩:=MU hw;obtain⟨g1,g2⟩:=adO hc.2.2.2 f2;obtain⟨kk,N,P,ao⟩:=xh g1;obtain⟨hL,hT⟩:=Oq I;have ah:x.cJ=mh s.cJ d.cu d.yes:=by rw[f3,g2]
    have ai:x.cB=nD s.cB kk (if d.yes=true then 2 else 3):=by rw[f4,g2,N,fH]
    have C:∀l∈x.cJ,∀q∈l.holds,q.cu≠d.cu:=by rw[ah];exact ab1 hL
    have D:KB x.cB d.cu=if d.yes=true then 2 else 3:=by
     unfold KB
     rw[ai,afi P,N,cM (by omega),fH]
     have aj:kk<(nD s.cB kk (if d.yes=true then 2 else 3)).length:=by simp[nD];exact P
     rw[xJ aj]
     simp[nD]
    have ak:okB x=true:=Ph.2 af;have A:∀q:cO,q.kind=3->q.ops=[]->q.cu=d.cu->q.yes=!d.yes->y8 n x q=some (x,[]):=λq q1 q2 q3 q4=>by
     rw[(Ro q1 q2 u j).2,ak,cM rfl]
     congr 1
     unfold lH
     split
     ·rw[cN (show¬ q.kind=1 by omega)]
      first|rw[cM q1,KY,q3]|rw[KY,q3]
      have am:(if 0<=fy x.cB d.cu then(gT x.cB (fy x.cB d.cu).toNat).de else 0)=if d.yes=true then 2 else 3:=D
      rw[am,q4];cases d.yes with
      |true=>rfl
      |false=>rfl
     ·rfl
    have Q:=MH u.z j;have R:=Ta (n:=n) (s:=x) (cu:=d.cu) (by have:=u.z.tl;omega) j;rw[e];dsimp only;cases S:m.yes with
    |true=>
     rw[cP,XW u.z.ll (λl Y=>(u.z.lr l Y).tooQ) C j];rw[A {d with yes:=!d.yes} M Z rfl rfl,cw,R,cw,D,<-hy,S,cM rfl];dsimp only;rw[Q];rfl
    |false=>
     rw[cR,XW u.z.ll (λl Y=>(u.z.lr l Y).tooQ) C j];rw[A {d with yes:=!d.yes} M Z rfl rfl,cw,R,cw,D,<-hy,S,cN (by simp)];dsimp only;rw[Q];rfl
end
end
section
section
variable{n:Nat}{R:Type}{Q:R->Prop}
def P9{a b c:Int}(e:-1000000000000000<=a/\a<=1000000000000000)(j:-1000000000000000<=b/\b<=1000000000000000)(u:-1000000000000000<=c/\c<=1000000000000000):cz .i64 (cz .i64 a b) c=a+b+c:=by
 rw[jb (a:=a) (b:=b) (by omega) (by omega) (by omega) (by omega),jb (by omega) (by omega) (by omega) (by omega)]
def Au(e:Int)(a:List Int):Prop:=∀j,j<a.length->(0<=gI a j/\gI a j<=e)/\(0<j->gI a j<=gI a (j-1))
def V1{a:List Int}{x:Int}:gI (a++[x]) a.length=x:=by
 simp[gI,iT]
def Gc{a:List Int}{x:Int}{j:Nat}(h:j<a.length):gI (a++[x]) j=gI a j:=by
 simp[gI,iT,o7 h]
def Au.app{hi x:Int}{xs:List Int}(h:Au hi xs)(h0:xs≠[])(hx:0<=x)(a:x<=gI xs (xs.length-1)):Au hi (xs++[x]):=by
 have y:0<xs.length:=QX.2 h0;intro j e;rw[fg,uE] at e
 by_cases c:j<xs.length
 ·rw[Gc c];refine⟨(h j c).1,λu=>?_⟩;rw[Gc (by omega)];exact(h j c).2 u
 ·have:j=xs.length:=by omega
  subst this;rw[V1,Gc (by omega)];have:=(h (xs.length-1) (by omega)).1;exact⟨by omega,λ_=>a⟩
def Pj{l:cG}{M:Int}(H:M<=999999999000){k:cG->Rd->Option (cG×Rd)}{Q:cG×Rd->Prop}:∀(m i:Nat)(u:List Int)(r:Rd),Au 9 u->u.length=i->1<=i->i<=3->4<m+i->dU (M+i) r->(∀j r',Au 9 j->j.length=3->gI j 0=gI u 0->dU (M+3) r'->Ok (k {l with dJ:=j} r') Q)->Ok (Bt n m i {l with dJ:=u} r k) Q
 |0,i,u,r,A,C,J,N,P,E,K=>by omega
 |m+1,i,u,r,A,C,J,N,P,E,K=>by
  rw[Bt];refine eu (λS=>?_) λS=>?_
  ·have e:cX .i64 (i:Int) 1=((i-1:Nat):Int):=by rw[iE];omega
   dsimp only;rw[e,jr (show i-1<u.length by omega),cw,cw];refine ei E (by omega) (by omega) λx r' Z x1 F=>?_;have hb:=(A (i-1) (by omega)).1;have U:cX .i64 (gI u (i-1)) x=gI u (i-1)-x:=mb (by omega) (by omega) (by omega) (by omega);have I:u≠[]:=by rintro rfl;simp at C;omega
   have Y:cz .i64 (i:Int) 1=((i+1:Nat):Int):=dO (by omega);dsimp only;rw[U,Y];have D:dU (M+((i+1:Nat):Int)) r':=F.mono (by omega);refine eu (λc=>fc (by simp;omega) (by omega) ?_) λc=>fc (by simp;omega) (by omega) ?_
   ·refine Pj H m (i+1) _ r' (A.app I (by omega) (by rw[C];omega)) (by simp;omega) (by omega) (by omega) (by omega) D λj y a b c d=>K j y a b (by rw[c,Gc (by omega)]) d
   ·refine Pj H m (i+1) _ r' (A.app I (by omega) (by rw[C];omega)) (by simp;omega) (by omega) (by omega) (by omega) D λj y a b c d=>K j y a b (by rw[c,Gc (by omega)]) d
  ·have:i=3:=by omega
   subst this;exact K u r A C rfl E
def V2{l:cG}{M:Int}(H:M<=999999999000){k:cG->Rd->Option (cG×Rd)}{Q:cG×Rd->Prop}:∀(m c:Nat)(a:List Int)(r:Rd),Au 899 a->1<=a.length->c+a.length<=4->c<m->dU (M+a.length) r->(∀j u,Au 899 j->1<=j.length->j.length<=4->dU (M+4) u->Ok (k {l with eH:=j} u) Q)->Ok (Em n m c {l with eH:=a} r k) Q
 |0,i,a,r,y,A,I,J,C,K=>by omega
 |m+1,c,a,r,y,A,I,J,C,K=>by
  rw[Em];refine eu (λN=>?_) λN=>?_
  ·have e:cX .i64 (cA a) 1=((a.length-1:Nat):Int):=by rw[cW,iE];omega
   dsimp only;rw[e,jr (show a.length-1<a.length by omega),cw,cw];refine ei C (by omega) (by omega) λx u P Y D=>?_;have F:=(y (a.length-1) (by omega)).1;have S:a≠[]:=by rintro rfl;simp at A
   have E:0<=gI a (a.length-1)*x:=HM F.1 P;have U:gI a (a.length-1)*x<=gI a (a.length-1)*9:=Q5 (by omega) F.1;dsimp only;rw[ny (by omega)];refine tN (by omega) E (by omega) ?_;refine fc (by simp;omega) (by omega) ?_;rw[show cX .i64 (c:Int) 1=((c-1:Nat):Int) by rw[iE];omega];exact V2 H m (c-1) _ u (y.app S (by omega) (by omega)) (by simp) (by simp;omega) (by omega) (D.mono (by simp;omega)) K
  ·exact K a r y A (by omega) (C.mono (by omega))
def ab2{name e to:cq}{fx N:Int}{r:Rd}(h1:gY name=true)(h2:gY e=true)(h3:gY to=true)(h4:e≠to)(h5:0<=fx/\fx<=5000)(hr:dU N r)(hN:N<=999999990000)(hn:2^41<=n):Ok (JE n r name e to fx) λx=>(il x.1/\x.1.holds=[]/\x.1.name=name/\x.1.arr<=fx+6)/\dU (N+20) x.2:=by
 unfold JE;refine ei hr (by omega) (by omega) λc r1 c0 c1 F=>ei F (by omega) (by omega) λa r2 a0 u H=>ei H (by omega) (by omega) λb r3 b0 b1 I=>ei I (by omega) (by omega) λq r4 q0 q1 J=>?_;dsimp only;refine iX q0 (by simp;omega) λx hx _=>iX q0 (by simp;omega) λx hx _=>?_;have hx:0<=x/\x<=899:=by
  simp only[eG,mq,l8] at hx
  omega
 rw[P9 (a:=fx) (by omega) (by omega) (by omega),jb (a:=1) (b:=c) (by omega) (by omega) (by omega) (by omega)];refine Pj (n:=n) (M:=N+3) (by omega) (l:=cG.mk name e to fx (fx+1+a) (1+c) [1+c] [0,0,0] [x] []) n 1 [1+c] r4 (λj A=>?_) rfl (by omega) (by omega) (by omega) (J.mono (by omega)) λC r5 D g2 g3 P=>?_
 ·have:j=0:=by simpa using A
  subst this;exact⟨by show 0<=1+c/\1+c<=9;omega,λh=>by omega⟩
 refine ei P (by omega) (by omega) λy r6 y0 y1 S=>?_;obtain⟨y,rfl⟩:=hV y0;dsimp only;refine V2 (n:=n) (M:=N+3+3) (by omega) (l:=cG.mk name e to fx (fx+1+a) (1+c) C [0,0,0] [x] []) n y [x] r6 (λj A=>?_) (by simp) (by simp;omega) (by omega) (S.mono (by simp)) λbs r7 w1 w2 w3 U=>cH ⟨⟨?_,rfl,rfl,by show fx+1+a<=fx+6;omega⟩,U.mono (by omega)⟩
 ·have:j=0:=by simpa using A
  subst this;exact⟨by show 0<=x/\x<=899;omega,λh=>by omega⟩
 have Y:gI C 0=1+c:=g3;refine{n1:=h1,n2:=h2,n3:=h3,ne:=h4,fx:=by show 0<=fx/\fx<=9999;omega,arr:=by show fx+1<=fx+1+a/\fx+1+a<=9999;omega,cap:=by show 1<=1+c/\1+c<=9;omega,l3:=g2,s3:=rfl,l0:=Y,b:=⟨w2,w3⟩,h6:=by simp,yg:=λj A=>?_,p7:=λj A=>?_,hold:=by simp,mQ:=by simp,iW:=λj A=>?_}
 ·have Z:∀j,j<3->gI C j<=1+c:=λj A=>by
    have u:=(D 1 (by omega)).2 (by omega)
    have a2:=(D 2 (by omega)).2 (by omega)
    have:j=0\/j=1\/j=2:=by omega
    rcases this with rfl|rfl|rfl<;>simp only[vX,Nat.reduceSub] at u a2<;>omega
  have E:gI [0,0,0] j=0:=by
   have:j=0\/j=1\/j=2:=by omega
   rcases this with rfl|rfl|rfl<;>rfl
  have u:=D j (by omega);simp only[rq,dF,dQ];exact⟨⟨⟨u.1.1,Z j A⟩,u.2⟩,by rw[E];omega⟩
 ·have u:=w1 j A;simp only[xR,dF,dQ];exact⟨⟨u.1.1,by have:=u.1.2;show gI bs j<=1000000000;omega⟩,u.2⟩
 ·have E:gI [0,0,0] j=0/\fA id (List.drop j [0,0,0])=0:=by
    have:j=0\/j=1\/j=2:=by omega
    rcases this with rfl|rfl|rfl<;>exact⟨rfl,rfl⟩
  have u:=(D j (by omega)).1;exact⟨by show fA id (List.drop j [0,0,0])+fA (mg j) []<=gI C j;rw[E.2];simp[fA];exact u.1,by show fA (mK j) []<=gI [0,0,0] j;rw[E.1];simp[fA]⟩
def places:List cq:=[[97,109,115],[98,114,117],[99,100,103],[100,117,98]]
def zO:List cq:=[[108,97],[108,98],[108,99],[108,100],[108,101],[108,102]]
structure G4(net:List cG):Prop where
 l:∀l∈net,il l/\l.holds=[]
 nm:∀j(h:j<net.length),net[j].name=gS zO j
 len:net.length<=6
def Qp{k:List cG->Rd->Option (List cG×Rd)}{Q:List cG×Rd->Prop}{M:Int}(hM:M<=999999000000)(S:2^41<=n):∀(m i:Nat)(out:List cG)(at' e:Int)(r:Rd),i<=6->7<m+i->out.length=i->G4 out->0<=at'/\at'<4->0<=e/\e<=100+10*i->dU (M+50*i) r->(∀A r',G4 A->2<=A.length->dU (M+400) r'->Ok (k A r') Q)->Ok (Bu n m places zO out at' e i r k) Q
 |0,i,out,at',e,r,U,Y,h3,N,h5,h6,h7,K=>by omega
 |m+1,i,out,at',e,r,U,Y,h3,N,h5,h6,h7,K=>by
  rw[Bu];refine ei h7 (by omega) (by omega) λx r1 x0 x1 F=>?_;dsimp only;rw[jb (by omega) (by omega) (by omega) (by omega)];refine eu (λhi=>?_) λhi=>K out r1 N (by omega) (F.mono (by omega));refine ei F (by omega) (by omega) λd r2 d0 d1 Z=>?_;dsimp only;rw[P9 (a:=at') (by omega) (by omega) (by omega)];refine tO (by omega) (by omega) ?_;have H:0<=(at'+1+d) % 4:=DQ _ (by omega);have aa:(at'+1+d) % 4<4:=DR _ (by omega);have C:(at'+1+d) % 4≠at':=by omega
  generalize(at'+1+d) % 4=to at H aa C;obtain⟨a,rfl⟩:=hV h5.1;obtain⟨t,rfl⟩:=hV H;have pl:∀j:Nat,j<4->cm places (j:Int)=some (gS places j)/\gY (gS places j)=true:=λj hj=>by
   have:j=0\/j=1\/j=2\/j=3:=by omega
   rcases this with rfl|rfl|rfl|rfl<;>exact⟨rfl,by decide⟩
  have pd:gS places a≠gS places t:=by
   have U:a=0\/a=1\/a=2\/a=3:=by omega
   have Y:t=0\/t=1\/t=2\/t=3:=by omega
   rcases U with rfl|rfl|rfl|rfl<;>rcases Y with rfl|rfl|rfl|rfl<;>first|(exfalso;exact C rfl)|decide
  have nl:∀j:Nat,j<6->cm zO (j:Int)=some (gS zO j)/\gY (gS zO j)=true:=λj hj=>by
   have:j=0\/j=1\/j=2\/j=3\/j=4\/j=5:=by omega
   rcases this with rfl|rfl|rfl|rfl|rfl|rfl<;>exact⟨rfl,by decide⟩
  rw[(nl i (by omega)).1,(pl a (by omega)).1,(pl t (by omega)).1];simp only[cw];refine dq (ab2 (nl i (by omega)).2 (pl a (by omega)).2 (pl t (by omega)).2 pd (by omega) Z (by omega) S) λy hy=>?_;obtain⟨⟨P,y2,y3,y4⟩,I⟩:=hy;obtain⟨l,r3⟩:=y;dsimp only at P y2 y3 y4 I⊢;refine fc (by simp;omega) (by omega) ?_;have hN:G4 (out++[l]):=by
   refine⟨λq E=>?_,λj hj=>?_,by simp;omega⟩
   ·rcases eJ.1 E with E|E
    ·exact N.l q E
    ·rw[gf] at E;subst E;exact⟨P,y2⟩
   ·by_cases c:j<out.length
    ·rw[List.getElem_append_left c];exact N.nm j c
    ·have:j=out.length:=by simp at hj;omega
     subst this;simp[y3,h3]
  have ad:=P.arr;have ae:=P.fx;rw[dO (show i<2^31 by omega)];refine ei I (by omega) (by omega) λz r4 z0 z1 J=>?_;refine eu (λhz=>?_) λhz=>?_
  ·refine ei J (by omega) (by omega) λu r5 u0 u1 D=>?_;dsimp only;rw[P9 (a:=l.arr) (by omega) (by omega) (by omega)];exact Qp hM S m (i+1) _ _ _ r5 (by omega) (by omega) (by simp;omega) hN (by omega) (by omega) (D.mono (by omega)) K
  ·refine ei J (by omega) (by omega) λu r5 u0 u1 D=>ei D (by omega) (by omega) λv r6 v0 v1 ab=>?_;exact Qp hM S m (i+1) _ _ _ r6 (by omega) (by omega) (by simp;omega) hN (by omega) (by omega) (ab.mono (by omega)) K
def ab3{N:Int}{r:Rd}(y:dU N r)(H:N<=999990000000/2)(A:2^41<=n):Ok (JF n r) λx=>(G4 x.1/\2<=x.1.length)/\dU (N+402) x.2:=by
 unfold JF;refine ei y (by omega) (by omega) λa I J P e=>ei e (by omega) (by omega) λt C t0 t1 j=>?_;exact Qp (n:=n) (M:=N+2) (by omega) A n 0 [] a t C (by omega) (by omega) rfl ⟨by simp,by simp,by simp⟩ (by omega) (by omega) (j.mono (by omega)) λu S D E F=>cH ⟨⟨D,E⟩,F.mono (by omega)⟩
def agr{a:List cG}(h:G4 a):vF a=true/\oI a=true:=by
 have y:∀i,i<6->∀j,j<i->gS zO j≠gS zO i:=by decide
 have A:vF a=true:=by
  simp only[vF,pQ,dF,dQ,mY]
  refine⟨λj x=>⟨?_,?_⟩,by have:=h.len;omega⟩
  ·rw[sD x];exact Uj.2 (h.l _ (dM x)).1
  ·rw[sD x];rcases qV (p:=λl:cG=>decide (l.name=a[j].name)) (xs:=a) (i:=0) with⟨e,u⟩|⟨q,D,e,u,H⟩
   ·have:=u _ (dM x);simp at this
   ·rw[e];have C:=h.len;have u:=fG u;rw[h.nm q D,h.nm j x] at u
    by_cases c:q<j
    ·exact absurd u (y j (by omega) q c)
    ·by_cases E:j<q
     ·exact absurd u.symm (y q (by omega) j E)
     ·omega
 refine⟨A,?_⟩;simp only[oI,dF,A,jB,jC,dQ];exactλl F=>(h.l l F).2
def Ai(w:List Int):Prop:=∀x∈w,1<=x/\x<=2
def WS{e:List cG}(H:e.length<=6){k:List Int->Rd->Option (List Int×Rd)}{Q:List Int×Rd->Prop}{M:Int}(I:M<=999999000000):∀(m i:Nat)(a:List Int)(r:Rd),i<=e.length->e.length<m+i->a.length=i->Ai a->dU (M+i) r->(∀j F,Ai j->j.length=e.length->dU (M+6) F->Ok (k j F) Q)->Ok (DZ n m e a i r k) Q
 |0,i,a,r,J,N,P,A,C,K=>by omega
 |m+1,i,a,r,J,N,P,A,C,K=>by
  rw[DZ];refine eu (λD=>?_) λD=>?_
  ·rw[cW] at D;refine ei C (by omega) (by omega) λx S U Y E=>?_;dsimp only;refine fc (by simp;omega) (by omega) ?_;rw[jb (by omega) (by omega) (by omega) (by omega),dO (by omega)];refine WS H I m (i+1) _ S (by omega) (by omega) (by simp;omega) (λy u=>?_) (E.mono (by omega)) K;rcases eJ.1 u with u|u
   ·exact A y u
   ·rw[gf] at u;omega
  ·rw[cW] at D;exact K a r A (by omega) (C.mono (by omega))
def aay{N:Int}{r:Rd}{a:List cG}(j:a.length<=6)(u:dU N r)(D:N<=999990000000/2)(E:2^41<=n):Ok (Ik n r a) λx=>(Ai x.1/\x.1.length=a.length)/\dU (N+6) x.2:=by
 unfold Ik;exact WS (n:=n) (M:=N) j (by omega) n 0 [] r (by omega) (by omega) rfl (by intro x hx;simp at hx) (u.mono (by omega)) λe F y A C=>cH ⟨⟨y,A⟩,C⟩
end
end
section
section
variable{n:Nat}
def ahf{l:List cq}{i:Nat}(h:i<l.length):cm l (i:Int)=some (gS l i):=eP h []
def iD(r:cn):cn.mk (cn.op r) (cn.num r) (cn.name r) (cn.cU r) (cn.db r)=r:=by cases r;rfl
def qu(a:Int):Int:=if a=1\/a=2 then 0 else if a=10 then 1 else if a=3\/a=4\/a=5\/a=7\/a=8 then 2 else if a=6 then 3 else if a=9 then 4 else-1
def Pk(a:Int):wY n a=some (qu a):=by
 unfold wY qu;simp only[ez,ZK,dQ]
 by_cases j:a=1
 ·simp[j]
 by_cases u:a=2
 ·simp[u]
 by_cases e:a=10
 ·simp[e]
 by_cases x:a=3
 ·simp[x]
 by_cases y:a=4
 ·simp[y]
 by_cases A:a=5
 ·simp[A]
 by_cases C:a=7
 ·simp[C]
 by_cases D:a=8
 ·simp[D]
 by_cases E:a=6
 ·simp[E]
 by_cases F:a=9
 ·simp[F]
 simp[j,u,x,y,A,E,C,D,F,e]
def wS(a:Int):qu a<=4/\(0<=qu a->1<=a/\a<=10):=by
 unfold qu;split
 ·omega
 split
 ·omega
 split
 ·omega
 split
 ·omega
 split<;>omega
abbrev gM(l:List Mark)(i:Nat):Mark:=l.getD i ⟨0,0⟩
def GQ(a:List Mark)(j:Nat):Bool:=decide (0<=(gM a j).cL/\(gM a j).cL<=1000000000)&&(decide (0<=(gM a j).en/\(gM a j).en<=1000000)&&(decide (j=0->(gM a j).cL=0)&&decide (0<j->(gM a (j-1)).cL<(gM a j).cL)))
def xq(a:List Mark):Bool:=gh a.length (GQ a)&&decide (1<=(a.length:Int)/\(a.length:Int)<=5)
def UJ{a:List Mark}(J:a.length<2^29)(M:2^41<=n):qX n a=some (xq a):=by
 have:=λk=>kV (N:=a.length) (by omega) (L:=λm i=>uJ n m a i k) (P:=GQ a) (k:=k a) (r:=some false) (λm=>by simp[go_sem,uJ]) (λm i A=>by
  have C:cC (i:Int) (cA a)=true:=by rw[dE];exact gF (by rw[cW];omega)
  have e:cX .i64 (i:Int) 1=((i-1:Nat):Int)\/i=0:=by
   by_cases c:i=0
   ·exact .inr c
   ·exact .inl (by rw[iE];omega)
  have j:GQ a i=(decide (0<=(gM a i).cL/\(gM a i).cL<=1000000000)&&(decide (0<=(gM a i).en/\(gM a i).en<=1000000)&&(decide (i=0->(gM a i).cL=0)&&decide (0<i->(gM a (i-1)).cL<(gM a i).cL)))):=rfl
  rw[uJ,C,cP,eP A ⟨0,0⟩,cw]
  simp only[sk,cw,dT]
  generalize D:decide (0<=(gM a i).cL/\(gM a i).cL<=1000000000)=E at j⊢
  generalize F:decide (0<=(gM a i).en/\(gM a i).en<=1000000)=H at j⊢
  cases E with
  |false=>rw[cN (by rw[j];simp)];rfl
  |true=>
   cases H with
   |false=>rw[cN (by rw[j];simp)];rfl
   |true=>
    simp only[eW,cR,nJ] at j⊢
    by_cases y:i=0
    ·subst y
     have u:cp ((0:Nat):Int) 0=true:=rfl
     have x:cC 0 ((0:Nat):Int)=false:=rfl
     rw[u,x,cP,cR,ez]
     by_cases c:(gM a 0).cL=0
     ·rw[gF c,cM (by rw[j];simp only[dF,dQ];exact⟨λ_=>c,λh=>absurd h (by omega)⟩)];rfl
     ·rw[gP c,cN (by rw[j];simp only[dF,dQ];exactλh=>c (h.1 trivial))];rfl
    ·have u:cp (i:Int) 0=false:=by rw[ez];exact gP (by omega)
     have x:cC 0 (i:Int)=true:=by rw[dE];exact gF (by omega)
     have I:cX .i64 (i:Int) 1=((i-1:Nat):Int):=by rw[iE];omega
     rw[u,x,cP,cR,I,eP (show i-1<a.length by omega) ⟨0,0⟩,cw,gR]
     by_cases c:(gM a (i-1)).cL<(gM a i).cL
     ·rw[gP (show¬ (gM a i).cL<=(gM a (i-1)).cL by omega),cM (by rw[j];simp only[dF,dQ];exact⟨λh=>absurd h y,λ_=>c⟩)];rfl
     ·rw[gF (show(gM a i).cL<=(gM a (i-1)).cL by omega),cN (by rw[j];simp only[dF,dQ];exactλh=>c (h.2 (by omega)))];rfl) (m:=n) (by omega);unfold qX xq;rw[this];cases gh a.length (GQ a)<;>simp[go_sem]
structure vg(r:cn):Prop where
 k:(r.cU.length:Int)=qu r.op
 num:r.op≠1->r.num=0
 name:r.op≠2->r.name=[]
 rH:r.op≠10->r.db=[]
 n1:r.op=1->-1000000000<=r.num/\r.num<=1000000000
 n2:r.op=2->gY r.name=true
 n3:r.op=10->xq r.db=true
def ab4{r:cn}(Q:r.cU.length<2^29)(M:r.db.length<2^29)(R:r.name.length<2^29)(J:2^41<=n):Ok (I0 n r) λb=>b=true↔vg r:=by
 have F:∀{p:Prop},(vg r->p)->¬ p->Ok (some false) λb=>b=true↔vg r:=λf h=>cH ⟨λh=>(by cases h),λe=>absurd (f e) h⟩;have N:∀{a b:Option Bool},Ok b (λx=>x=true↔vg r)->(cC 0 (cA r.db)=true->¬ vg r)->Ok (cond (cC 0 (cA r.db)) (some false) b) λx=>x=true↔vg r:=λD u=>ef (λc=>cH ⟨λh=>(by cases h),λe=>absurd e (u c)⟩) λ_=>D;have P:cC 0 (cA r.db)=false->r.db=[]:=λh=>by
  rw[dE,cW,lA] at h
  exact og.1 (by omega)
 unfold I0;rw[Pk,cw];refine eg (dr (λI=>?_) λI=>F (λh=>h.k) I);have E:(r.cU.length:Int)=qu r.op:=I;simp only[sk,rY (show r.name.length<2^30 by omega) J,UJ M J,cw,kX];refine eg (dr (λD=>?_) λD=>?_)
 ·refine eg (dr (λu=>by omega) λu=>eg (ef (λy=>eg (dr (λA=>by omega) λA=>eu (λj=>?_) λj=>dr (λ_=>cH ?_) λh=>absurd D h)) λy=>?_))
  ·exact F (λh=>h.rH A) (λe=>by rw[cW,e] at j;simp at j)
  ·have C:r.db=[]:=og.1 (by rw[cW] at j;omega);rw[dQ] at y⊢;exact⟨λh=>⟨E,λh=>absurd D h,λ_=>y,λ_=>C,λ_=>h,λh=>by omega,λh=>by omega⟩,λh=>h.n1 D⟩
  ·rw[lA] at y;exact F (λh=>h.name u) y
 ·refine eg (dr (λH=>?_) λH=>F (λh=>h.num D) H);refine eg (dr (λu=>?_) λu=>?_)
  ·refine eg (dr (λA=>by omega) λA=>eu (λj=>?_) λj=>dr (λh=>absurd h D) λ_=>dr (λ_=>cH ?_) λh=>absurd u h)
   ·exact F (λh=>h.rH A) (λe=>by rw[cW,e] at j;simp at j)
   ·have C:r.db=[]:=og.1 (by rw[cW] at j;omega);exact⟨λh=>⟨E,λ_=>H,λh=>absurd u h,λ_=>C,λh=>by omega,λ_=>h,λh=>by omega⟩,λh=>h.n2 u⟩
  ·refine eg (ef (λy=>?_) λy=>?_)
   ·rw[dQ] at y;refine eg (dr (λA=>?_) λA=>eu (λj=>?_) λj=>?_)
    ·refine dr (λh=>absurd h D) λ_=>dr (λh=>absurd h u) λ_=>dr (λ_=>cH ?_) λh=>absurd A h;exact⟨λh=>⟨E,λ_=>H,λ_=>y,λh=>absurd A h,λh=>by omega,λh=>by omega,λ_=>h⟩,λh=>h.n3 A⟩
    ·exact F (λh=>h.rH A) (λe=>by rw[cW,e] at j;simp at j)
    ·have C:r.db=[]:=og.1 (by rw[cW] at j;omega);refine dr (λh=>absurd h D) λ_=>dr (λh=>absurd h u) λ_=>dr (λh=>absurd h A) λ_=>cH ⟨λ_=>?_,λ_=>rfl⟩;exact⟨E,λ_=>H,λ_=>y,λ_=>C,λh=>by omega,λh=>by omega,λh=>by omega⟩
   ·rw[lA] at y;exact F (λh=>h.name u) y
def mC:Nat->cn->Prop|0,_=>False|d+1,r=>vg r/\∀k∈r.cU,mC d k
def js:Nat->cn->Nat|0,_=>0|d+1,r=>1+(r.cU.map (js d)).sum
def kJ:Nat->cn->Prop|0,_=>False|d+1,r=>r.cU.length<=10/\r.db.length<=10/\r.name.length<=1000/\∀k∈r.cU,kJ d k
def UK:∀(d z:Nat)(n:Nat)(r:cn)(a left:Int),2^41+d<=n->kJ z r->a=7-d->0<=a->-2<=left/\left<=30->Ok (wK n r a left) λx=>-1<=x/\x<30/\(0<=x->mC d r/\(x:Int)=left-js d r)
 |d,0,n,r,a,left,N,A,P,Q,R=>absurd A (by simp[kJ])
 |0,z+1,n,r,a,left,N,A,P,Q,R=>by
  obtain⟨n,rfl⟩:∃m,n=m+1:=⟨n-1,by omega⟩;rw[wK,mb (by omega) (by omega) (by omega) (by omega)];exact eu (λ_=>cH ⟨by omega,by omega,λh=>by omega⟩) λ_=>eu (λ_=>cH ⟨by omega,by omega,λh=>by omega⟩) λh=>by omega
 |d+1,z+1,n,r,a,left,N,A,P,Q,R=>by
  obtain⟨n,rfl⟩:∃m,n=m+1:=⟨n-1,by omega⟩;obtain⟨aa,ab,ad,D⟩:=A;rw[wK,mb (by omega) (by omega) (by omega) (by omega),iD];refine eu (λ_=>cH ⟨by omega,by omega,λh=>by omega⟩) λae=>eu (λ_=>cH ⟨by omega,by omega,λh=>by omega⟩) λaf=>?_;refine dq (ab4 (by omega) (by omega) (by omega) (by omega)) λb hb=>eg (ef (λE=>?_) λah=>cH ⟨by omega,by omega,λh=>by omega⟩);have hP:=hb.1 E;have ai:=wS r.op;have F:∀m i:Nat,∀x:Int,i<=r.cU.length->r.cU.length<m+i->-1<=x->x<30->(0<=x->(∀k∈r.cU.take i,mC d k)/\x=left-1-((r.cU.take i).map (js d)).sum)->Ok (Ea n (wK n) m a x i r λH=>some H) λx=>-1<=x/\x<30/\(0<=x->mC (d+1) r/\(x:Int)=left-js (d+1) r):=by
   intro m
   induction m with
   |zero=>intro i x h1 h2;omega
   |succ m ih=>
    intro i x h1 h2 S U Y
    rw[Ea]
    refine eu (λI=>nV (λhx=>?_) λhx=>cH ⟨S,U,λh=>by omega⟩) λI=>cH ⟨S,U,λh=>?_⟩
    ·rw[cW] at I;have j:i<r.cU.length:=by omega
     rw[dA j,cw,iD,jb (by omega) (by omega) (by omega) (by omega),dO (by omega),iD];refine dq (UK d z n r.cU[i] (a+1) x (by omega) (D _ (dM j)) (by omega) (by omega) (by omega)) λy J=>?_;refine ih (i+1) y (by omega) (by omega) J.1 J.2.1 λM=>?_;obtain⟨p1,p2⟩:=J.2.2 M;obtain⟨C,Z⟩:=Y hx;rw[mU j];refine⟨λk u=>?_,?_⟩
     ·rcases eJ.1 u with u|u
      ·exact C k u
      ·rw[gf] at u;subst u;exact p1
     ·rw[nq,ZV,lz,s7,ZW,List.sum_nil];omega
    ·rw[cW] at I;obtain⟨C,Z⟩:=Y h;have e:r.cU.take i=r.cU:=AE (by omega);rw[e] at C Z;exact⟨⟨hP,C⟩,by rw[js];omega⟩
  exact F n 0 (left-1) (by omega) (by omega) (by omega) (by omega) λh=>by simp
def jE:List cq:=[[],[],[],[97,100,100],[115,117,98],[109,117,108],[112,97,114,116],[109,105,110],[109,97,120],[105,102],[116,105,101,114,115]]
def mD(m:Mark):cq:=itoa m.cL++[58]++itoa m.en
def jF(l:List Mark):cq:=if l=[] then[] else[59]++eX 44 (l.map mD)
def fL:Nat->cn->cq
 |0,_=>[]
 |d+1,r=>if r.op=1 then itoa r.num else if r.op=2 then r.name else gS jE r.op.toNat++[40]++eX 44 (r.cU.map (fL d))++jF r.db++[41]
def EU{a:List Mark}(h:xq a=true):(∀m∈a,(0<=m.cL/\m.cL<=1000000000)/\0<=m.en/\m.en<=1000000)/\1<=a.length/\a.length<=5:=by
 simp only[xq,dF,mY,GQ,dQ] at h;refine⟨λm x=>?_,by omega,by omega⟩;obtain⟨j,u,rfl⟩:=p8 x;have:=h.1 j u;have e:gM a j=a[j]:=by rw[gM,iT,eN u];rfl
 rw[e] at this;exact⟨this.1,this.2.1⟩
def Sl:∀a:Nat,(gS jE a).length<=5:=by
 intro a
 by_cases h:a<11
 ·have:∀i:Fin 11,(gS jE i.val).length<=5:=by decide
  exact this ⟨a,h⟩
 ·have:gS jE a=[]:=by
    unfold gS
    rw[iT,nI (by show jE.length<=a;simp[jE];omega)]
    rfl
  rw[this];simp
def Tb{m:Mark}(h:(0<=m.cL/\m.cL<=1000000000)/\0<=m.en/\m.en<=1000000):(mD m).length<=43:=by
 have a:=ku (x:=m.cL) (by omega) (by omega);have b:=ku (x:=m.en) (by omega) (by omega);simp[mD];omega
def MX{r:cn}(h:vg r):(∀m∈r.db,(0<=m.cL/\m.cL<=1000000000)/\0<=m.en/\m.en<=1000000)/\r.db.length<=5:=by
 by_cases c:r.op=10
 ·have:=EU (h.n3 c);exact⟨this.1,this.2.2⟩
 ·rw[h.rH c];simp
def aaZ{r:cn}(h:vg r):(jF r.db).length<=221:=by
 obtain⟨a,u⟩:=MX h;unfold jF;split
 ·simp
 ·have:=wR (c:=44) (b:=43) (l:=r.db.map mD) (λw e=>by
    obtain⟨m,j,rfl⟩:=ik.1 e
    exact Tb (a m j));simp at this⊢;omega
def Sm:∀(d:Nat)(r:cn),mC d r->(fL d r).length<=300*5^d
 |0,r,h=>absurd h (by simp[mC])
 |d+1,r,h=>by
  obtain⟨e,y⟩:=h;have u:1<=5^d:=Q6 _ _ (by omega);have C:(5:Nat)^(d+1)=5*5^d:=by rw[uF];omega
  unfold fL;split
  ·rename_i c;have:=e.n1 c;have:=ku (x:=r.num) (by omega) (by omega);omega
  ·split
   ·rename_i c;have:=(lS (e.n2 c)).2.2;omega
   ·have a:=Sl r.op.toNat;have b:=aaZ e;have D:=e.k;have k4:=(wS r.op).1;have kl:r.cU.length<=4:=by omega
    have c:=wR (c:=44) (b:=300*5^d) (l:=r.cU.map (fL d)) (λw A=>by
     obtain⟨k,j,rfl⟩:=ik.1 A
     exact Sm d k (y k j));rw[o8] at c;have E:(300*5^d+1)*r.cU.length<=(300*5^d+1)*4:=DS _ kl;simp only[fg,gy,jP];omega
def Jy:∀(d:Nat)(n:Nat)(r:cn),2^41+d<=n->d<=6->mC d r->qf n r=some (fL d r)
 |0,n,r,hn,hd,h=>absurd h (by simp[mC])
 |d+1,n,r,hn,hd,h=>by
  obtain⟨n,rfl⟩:∃m,n=m+1:=⟨n-1,by omega⟩;obtain⟨U,hk⟩:=h;have ah:=(wS r.op).2 (by have:=U.k;omega);have k4:=(wS r.op).1;have kl:r.cU.length<=4:=by have:=U.k;omega
  have ai:5^d<=5^5:=v8 (by omega) (by omega);have Z:∀k∈r.cU,(fL d k).length<=1000000:=λk y=>by
   have:=Sm d k (hk k y)
   omega
  obtain⟨J,aj⟩:=MX U;rw[qf,fL]
  by_cases M:r.op=1
  ·have:=U.n1 M;rw[ez,gF M,cP,cM M,nC (by omega) (by omega),cw]
  ·rw[ez,gP M,cR,cN M]
   by_cases Y:r.op=2
   ·rw[ez,gF Y,cP,cM Y]
   ·rw[ez,gP Y,cR,cN Y,iD];have E:I1 n=some jE:=rfl;obtain⟨A,N⟩:=hV (show 0<=r.op by omega);have ak:=Sl A;rw[E,cw,N,ahf (show A<jE.length by show A<11;omega),cw,cw,fR (by first|omega|(simp only[fg,gy,jP];omega)),cw,fH];have P:∀(K:cq->cn->Option cq),∀m i:Nat,i<=r.cU.length->r.cU.length<m+i->yK n (qf n) m (gS jE A++([40]:cq)++eX 44 ((r.cU.take i).map (fL d))) i r K=K (gS jE A++([40]:cq)++eX 44 (r.cU.map (fL d))) r:=by
     intro K m
     induction m with
     |zero=>intro i H I;omega
     |succ m Q=>
      intro i H I
      have F:=wR (c:=44) (b:=1000000) (l:=(r.cU.take i).map (fL d)) (λw E=>by
       obtain⟨k,y,rfl⟩:=ik.1 E
       exact Z k (uH y))
      have af:(eX 44 ((r.cU.take i).map (fL d))).length<=5000000:=by
       simp only[o8,kI] at F
       have:(1000000+1)*min i r.cU.length<=(1000000+1)*4:=DS _ (by omega)
       omega
      by_cases u:i<r.cU.length
      ·have j:cC (i:Int) (cA r.cU)=true:=by rw[dE];exact gF (by rw[cW];omega)
       have am:=Z _ (dM u);rw[yK,j,cP,dA u,iD];simp only[cw,iD];rw[Jy d n r.cU[i] (by omega) (by omega) (hk _ (dM u)),dO (by omega)];simp only[cw]
       by_cases h0:0<i
       ·have C:cC 0 (i:Int)=true:=by rw[dE];exact gF (by omega)
        rw[C,cP,fR (by first|omega|(simp only[fg,gy,jP];omega)),cw,fR (by first|omega|(simp only[fg,gy,jP];omega)),cw];have:gS jE A++([40]:cq)++eX 44 ((r.cU.take i).map (fL d))++([44]:cq)++fL d r.cU[i]=gS jE A++([40]:cq)++eX 44 ((r.cU.take (i+1)).map (fL d)):=by
         rw[mU u,nq,lz,s7,ES _ _ _ (by simp;exact⟨by omega,by rintro e;rw[e] at u;simp at u⟩)]
         simp
        rw[this];exact Q (i+1) (by omega) (by omega)
       ·have C:cC 0 (i:Int)=false:=by rw[dE];exact gP (by omega)
        have aa:i=0:=by omega
        subst aa;rw[C,cR,fR (by first|omega|(simp only[fg,gy,jP];omega)),cw];have:gS jE A++([40]:cq)++eX 44 ((r.cU.take 0).map (fL d))++fL d r.cU[0]=gS jE A++([40]:cq)++eX 44 ((r.cU.take (0+1)).map (fL d)):=by
         rw[mU u]
         simp[eX]
        rw[this];exact Q (0+1) (by omega) (by omega)
      ·have:i=r.cU.length:=by omega
       subst this;have j:cC (r.cU.length:Int) (cA r.cU)=false:=by rw[dE];exact gP (by rw[cW];omega)
       rw[yK,j,cR,iD,s8]
    have H:=λK=>P K n 0 (by omega) (by omega);simp only[Ay,s7,eX,HJ] at H;refine(H _).trans ?_;have ab:(gS jE A++([40]:cq)++eX 44 (r.cU.map (fL d))).length<=6000000:=by
     have F:=wR (c:=44) (b:=1000000) (l:=r.cU.map (fL d)) (λw E=>by
      obtain⟨k,y,rfl⟩:=ik.1 E
      exact Z k y)
     have:(1000000+1)*r.cU.length<=(1000000+1)*4:=DS _ (by omega)
     simp only[o8] at F
     simp only[fg,gy,jP];omega
    generalize gS jE A++([40]:cq)++eX 44 (r.cU.map (fL d))=o at ab⊢;rw[iD];have R:∀m i:Nat,i<=r.db.length->r.db.length<m+i->yL n (qf n) m (o++jF (r.db.take i)) i r (λD=>ck (da D [41]) λad=>some ad)=some (o++jF r.db++[41]):=by
     intro m
     induction m with
     |zero=>intro i H I;omega
     |succ m Q=>
      intro i H I
      have ae:(jF (r.db.take i)).length<=1000:=by
       have:=wR (c:=44) (b:=43) (l:=(r.db.take i).map mD) (λw E=>by
        obtain⟨m,hm,rfl⟩:=ik.1 E
        exact Tb (J m (uH hm)))
       unfold jF
       split
       ·simp
       ·simp at this⊢;omega
      by_cases u:i<r.db.length
      ·have j:cC (i:Int) (cA r.db)=true:=by rw[dE];exact gF (by rw[cW];omega)
       have an:=J _ (dM u);have a:=ku (x:=r.db[i].cL) (by omega) (by omega);have b:=ku (x:=r.db[i].en) (by omega) (by omega);rw[yL,j,cP,dA u,iD];simp only[cw];rw[nC (by omega) (by omega),nC (by omega) (by omega),dO (by omega)];simp only[cw]
       by_cases h0:i=0
       ·have e0:cp (i:Int) 0=true:=by rw[ez];exact gF (by omega)
        rw[e0,cP,fR (by first|omega|(simp only[fg,gy,jP];omega)),cw,fR (by first|omega|(simp only[fg,gy,jP];omega)),cw,fR (by first|omega|(simp only[fg,gy,jP];omega)),cw,fR (by first|omega|(simp only[fg,gy,jP];omega)),cw];subst h0;have:o++jF (r.db.take 0)++([59]:cq)++itoa r.db[0].cL++([58]:cq)++itoa r.db[0].en=o++jF (r.db.take (0+1)):=by
         rw[mU u]
         simp[jF,eX,mD]
        rw[this];exact Q (0+1) (by omega) (by omega)
       ·have e0:cp (i:Int) 0=false:=by rw[ez];exact gP (by omega)
        rw[e0,cR,fR (by first|omega|(simp only[fg,gy,jP];omega)),cw,fR (by first|omega|(simp only[fg,gy,jP];omega)),cw,fR (by first|omega|(simp only[fg,gy,jP];omega)),cw,fR (by first|omega|(simp only[fg,gy,jP];omega)),cw];have S:r.db.take i≠[]:=by
         intro e
         have:=congrArg List.length e
         rw[kI,jP] at this
         omega
        have:o++jF (r.db.take i)++([44]:cq)++itoa r.db[i].cL++([58]:cq)++itoa r.db[i].en=o++jF (r.db.take (i+1)):=by
         rw[mU u]
         unfold jF
         rw[cN S,cN (List.append_ne_nil_of_right_ne_nil _ (by simp)),nq,lz,s7,ES _ _ _ (by simpa using S)]
         simp only[ke,mD]
        rw[this];exact Q (i+1) (by omega) (by omega)
      ·have:i=r.db.length:=by omega
       subst this;have j:cC (r.db.length:Int) (cA r.db)=false:=by rw[dE];exact gP (by rw[cW];omega)
       rw[yL,j,cR];rw[s8] at ae⊢;rw[fR (by first|omega|(simp only[fg,gy,jP];omega)),cw]
    have I:=R n 0 (by omega) (by omega);simp only[Ay,jF,cM,HJ] at I;exact I
end
end
section
section
variable{n:Nat}
def lv(c:UInt8):Bool:=decide (97<=c.toNat/\c.toNat<=122)||decide (48<=c.toNat/\c.toNat<=57)||decide (c.toNat=45)
def Dt(s:cq):Prop:=s=[]\/∃c t,s=c::t/\lv c=false
def xK{a b:Int}(h:a<b):cC a b=true:=by rw[dE];exact gF h
def tX{a b:Int}(h:¬ a<b):cC a b=false:=by rw[dE];exact gP h
def drop_cons{s:cq}{a:Nat}{c:UInt8}{t:cq}(h:s.drop a=c::t):a<s.length/\iG s (a:Int)=some (c.toNat:Int)/\s.drop (a+1)=t:=by
 have e:a<s.length:=by
  have:=congrArg List.length h
  simp at this;omega
 rw[ly e] at h;injection h with j u;exact⟨e,by rw[vr e,j],u⟩
def drop_nil{s:cq}{a:Nat}(h:s.drop a=[]):s.length<=a:=by
 have:=congrArg List.length h;simp at this;omega
def UL{s:cq}{a:Nat}{left:Int}{e:Bool}{f:Int}{m:Nat}{c:UInt8}{t:cq}(F:s.length<2^29)(h:s.drop a=c::t){k:Int->fJ->Option (cq×fJ)}:pc n (m+1) f ⟨s,a,left,e⟩ k=if lv c=true then pc n m f ⟨s,((a+1:Nat):Int),left,e⟩ k else k f ⟨s,a,left,e⟩:=by
 obtain⟨H,D,I⟩:=drop_cons h;have j:cC (a:Int) (eF s)=true:=xK (by rw[gA];omega);have E:cz .i64 (a:Int) 1=((a+1:Nat):Int):=dO (by omega);rw[pc];dsimp only;rw[j,cP,D];simp only[cw,E,gR,ez]
 by_cases u:97<=(c.toNat:Int)
 ·rw[gF u,cP]
  by_cases x:(c.toNat:Int)<=122
  ·have:lv c=true:=by unfold lv;rw[gF (show 97<=c.toNat/\c.toNat<=122 by omega)];rfl
   rw[gF x,cP,cM this]
  ·have:lv c=false:=by
     unfold lv
     rw[gP (show¬ (97<=c.toNat/\c.toNat<=122) by omega),gP (show¬ (48<=c.toNat/\c.toNat<=57) by omega),gP (show¬ c.toNat=45 by omega)];rfl
   rw[gP x,gF (show(48:Int)<=c.toNat by omega),gP (show¬ (c.toNat:Int)<=57 by omega),gP (show¬ (c.toNat:Int)=45 by omega),cN (by simp[this])];rfl
 ·rw[gP u,cR]
  by_cases y:48<=(c.toNat:Int)
  ·rw[gF y,cP]
   by_cases A:(c.toNat:Int)<=57
   ·have:lv c=true:=by unfold lv;rw[gF (show 48<=c.toNat/\c.toNat<=57 by omega)];simp
    rw[gF A,cP,cM this]
   ·have:lv c=false:=by
      unfold lv
      rw[gP (show¬ (97<=c.toNat/\c.toNat<=122) by omega),gP (show¬ (48<=c.toNat/\c.toNat<=57) by omega),gP (show¬ c.toNat=45 by omega)];rfl
    rw[gP A,gP (show¬ (c.toNat:Int)=45 by omega),cN (by simp[this])];rfl
  ·rw[gP y,cR]
   by_cases C:(c.toNat:Int)=45
   ·have:lv c=true:=by unfold lv;rw[gF (show c.toNat=45 by omega)];simp
    rw[gF C,cP,cM this]
   ·have:lv c=false:=by
      unfold lv
      rw[gP (show¬ (97<=c.toNat/\c.toNat<=122) by omega),gP (show¬ (48<=c.toNat/\c.toNat<=57) by omega),gP (show¬ c.toNat=45 by omega)];rfl
    rw[gP C,cN (by simp[this])];rfl
def Xr{s:cq}{left:Int}{D:Bool}{f:Int}(y:s.length<2^29){k:Int->fJ->Option (cq×fJ)}:∀(w:cq)(m a:Nat)(e:cq),s.drop a=w++e->(∀c∈w,lv c=true)->Dt e->w.length<m->pc n m f ⟨s,a,left,D⟩ k=k f ⟨s,((a+w.length:Nat):Int),left,D⟩
 |_,0,a,e,h,j,u,A=>by omega
 |[],m+1,a,e,h,j,u,A=>by
  rw[iC] at h;rcases u with rfl|⟨c,t,rfl,E⟩
  ·have:=drop_nil h;have C:cC (a:Int) (eF s)=false:=tX (by rw[gA];omega);rw[pc];dsimp only;rw[C,cR];rfl
  ·rw[UL y h,cN (by simp[E])];rfl
 |c::w,m+1,a,e,h,j,u,A=>by
  rw[UL y h,cM (j c (by simp)),Xr y w m (a+1) e (drop_cons h).2.2 (λx hx=>j x (by simp[hx])) u (by simp at A;omega)]
  congr 2
  simp;omega
def KC{s w j:cq}{a:Nat}{left:Int}{u:Bool}(y:s.length<2^29)(h:s.drop a=w++j)(A:∀c∈w,lv c=true)(C:Dt j)(D:a<=s.length)(E:2^41<=n):DU n ⟨s,a,left,u⟩=some (w,⟨s,((a+w.length:Nat):Int),left,u⟩):=by
 have x:a+w.length<=s.length:=by
  have:=congrArg List.length h
  simp at this;omega
 unfold DU;dsimp only;refine(Xr y w n a j h A C (by omega)).trans ?_;dsimp only;have e:fF s (a:Int) ((a+w.length:Nat):Int)=some w:=by
  unfold fF
  rw[cM (by omega),fH,fH,h]
  rw[show a+w.length-a=w.length by omega]
  simp
 rw[e,cw]
def zE{s t:cq}{a:Nat}{left:Int}{e:Bool}{c:UInt8}(u:s.length<2^29)(h:s.drop a=c::t):pf n ⟨s,a,left,e⟩ (c.toNat:Int)=some (true,⟨s,((a+1:Nat):Int),left,e⟩):=by
 obtain⟨x,j,y⟩:=drop_cons h;unfold pf;dsimp only;rw[show dI (eF s) (a:Int)=false by rw[gR,gA];exact gP (by omega),cR,j,cw,ez,gF rfl];simp only[dT,eW,cR,dO (show a<2^31 by omega)]
def KD{s:cq}{a:Nat}{left:Int}{u:Bool}{c:UInt8}(A:a<=s.length)(h:∀t,s.drop a≠c::t):pf n ⟨s,a,left,u⟩ (c.toNat:Int)=some (false,⟨s,a,left,u⟩):=by
 unfold pf;dsimp only;cases j:s.drop a with
 |nil=>
  have:=drop_nil j;rw[show dI (eF s) (a:Int)=true by rw[gR,gA];exact gF (by omega),cP]
 |cons x t=>
  obtain⟨C,y,D⟩:=drop_cons j;have hx:x≠c:=λe=>h t (by rw[j,e]);rw[show dI (eF s) (a:Int)=false by rw[gR,gA];exact gP (by omega),cR,y,cw,ez,gP (λe=>hx (PF.1 e))];rfl
def V3{c:UInt8}(h:c.toNat=45\/(48<=c.toNat/\c.toNat<=57)):lv c=true:=by
 unfold lv;rcases h with h|h
 ·rw[gF h];simp
 ·rw[gF h];simp
def afk{c:UInt8}(h:97<=c.toNat/\c.toNat<=122):lv c=true:=by
 unfold lv;rw[gF h];rfl
def adP{a:Int}(e:-1000000000<=a)(j:a<=1000000000):gG .i64 a=-a:=by
 unfold gG;rw[IntKind.wrap_i64];omega
def V4{x:Int}(h:-1000000000<=x/\x<=1000000000):ru (itoa x)=(x,true):=by
 by_cases c:0<=x
 ·obtain⟨u,rfl⟩:=hV c;have:(itoa (u:Int)).head?≠some 45:=by
   rw[nO]
   cases e:decDigits u with
   |nil=>simp
   |cons y l=>
    have j:=wH u y (by rw[e];simp)
    simp only[Mm,Mn,di]
    rintro rfl
    have:(45:UInt8).toNat=45:=rfl
    omega
  unfold ru;rw[cN this];have:=Ce (x:=(u:Int)) (by omega) (by omega);rw[this,gF c]
 ·obtain⟨u,rfl⟩:∃u:Nat,x=-(u:Int):=⟨x.natAbs,by omega⟩;rw[itoa_neg (by omega)];have a:(45::decDigits u:cq).head?=some 45:=rfl;unfold ru;rw[cM a];simp only[ajp,s9];rw[Cz (by omega),adP (by omega) (by omega),gF (show(0:Int)<u by omega)]
def adQ{s:cq}(h:gY s=true):(ru s).2=false:=by
 obtain⟨a,e,u⟩:=lS h;cases s with
 |nil=>simp at e
 |cons c s=>
  have x:=a c (by simp);have j:(c::s:cq).head?≠some 45:=by
   simp only[Mm,Mn,di]
   rintro rfl
   have:(45:UInt8).toNat=45:=rfl
   omega
  unfold ru;rw[cN j];have:eB (c::s)=-1:=by
   unfold eB
   rw[cN]
   have:nz c=false:=by unfold nz;exact gP (by omega)
   simp[this]
  rw[this];rfl
def Sn{s e:cq}{a:Nat}{left x:Int}(u:s.length<2^29)(hx:-1000000000<=x/\x<=1000000000)(h:s.drop a=itoa x++e)(y:Dt e)(A:a<=s.length)(j:2^41<=n):AN n ⟨s,a,left,true⟩=some (x,⟨s,((a+(itoa x).length:Nat):Int),left,true⟩):=by
 unfold AN;rw[KC u h (λc C=>V3 (wQ c C)) y A j,cw];dsimp only;rw[KW j,cw,V4 hx];rfl
def Jz{c:UInt8}{t:cq}(h:lv c=false):Dt (c::t):=.inr ⟨c,t,rfl,h⟩
def WT{s:cq}{left:Int}(hs:s.length<2^28)(P:2^41<=n):∀(j:List Mark)(m a:Nat)(u:List Mark)(A:cq),j≠[]->(∀x∈j,(0<=x.cL/\x.cL<=1000000000)/\0<=x.en/\x.en<=1000000)->u.length+j.length<=5->s.drop a=eX 44 (j.map mD)++A->a<=s.length->(∃t,A=41::t)->j.length<m->AM n m u ⟨s,a,left,true⟩ (λE Q=>some (E,Q))=some (u++j,⟨s,((a+(eX 44 (j.map mD)).length:Nat):Int),left,true⟩)
 |[],m,a,u,A,R,J,S,M,U,Y,N=>absurd rfl R
 |x::j,0,a,u,A,R,J,S,M,U,Y,N=>by simp at N
 |x::j,m+1,a,u,A,R,J,S,M,U,Y,N=>by
  obtain⟨t,rfl⟩:=Y;have hx:=J x (by simp);simp only[gy] at S N;have C:a+(eX 44 ((x::j).map mD)).length+(41::t).length=s.length:=by
   have:=congrArg List.length M
   simp only[nn,fg] at this
   omega
  obtain⟨D,F,H⟩:∃D,eX 44 ((x::j).map mD)=itoa x.cL++58::(itoa x.en++D)/\(j=[]/\D=[]\/j≠[]/\D=44::eX 44 (j.map mD)):=by
   cases j with
   |nil=>exact⟨[],by simp[eX,mD],.inl ⟨rfl,rfl⟩⟩
   |cons y j=>exact⟨44::eX 44 ((y::j).map mD),by simp[eX,mD],.inr ⟨by simp,rfl⟩⟩
  have Z:(eX 44 ((x::j).map mD)).length=(itoa x.cL).length+1+((itoa x.en).length+D.length):=by rw[F];simp;omega
  have e1:s.drop a=itoa x.cL++(58::(itoa x.en++(D++41::t))):=by rw[M,F];simp
  have e2:s.drop (a+(itoa x.cL).length)=58::(itoa x.en++(D++41::t)):=by rw[<-rL,e1];simp
  have e3:s.drop (a+(itoa x.cL).length+1)=itoa x.en++(D++41::t):=(drop_cons e2).2.2;have e4:s.drop (a+(itoa x.cL).length+1+(itoa x.en).length)=D++41::t:=by rw[<-rL,e3];simp
  have I:Dt (D++41::t):=by
   rcases H with⟨_,rfl⟩|⟨_,rfl⟩
   ·exact Jz (by decide)
   ·exact Jz (by decide)
  rw[Z] at C⊢;simp only[gy] at C;rw[AM];dsimp only;rw[cP,show dI (cA u) 5=true by rw[gR,cW];exact gF (by omega),cP,Sn (by omega) (by omega) e1 (Jz (by decide)) U P,cw];dsimp only;rw[cP,show(58:Int)=((58:UInt8).toNat:Int) from rfl,zE (by omega) e2,cw];dsimp only;rw[Sn (by omega) (by omega) e3 I (by omega) P,cw];dsimp only;rw[fW (by simp;omega) (by omega),cw,show(44:Int)=((44:UInt8).toNat:Int) from rfl];rcases H with⟨rfl,rfl⟩|⟨aa,rfl⟩
  ·rw[KD (by omega) (λt' e=>by rw[e4] at e;cases e),cw];dsimp only;simp only[dT,hY,cP,jP,rI]
   congr 4
   omega
  ·rw[zE (by omega) e4,cw];dsimp only;simp only[dT,eW,cR];simp only[gy] at C⊢;refine(WT hs P j m (a+(itoa x.cL).length+1+(itoa x.en).length+1) (u++[⟨x.cL,x.en⟩]) (41::t) aa (λy hy=>J y (by simp[hy])) (by simp;omega) ((drop_cons e4).2.2) (by omega) ⟨t,rfl⟩ (by omega)).trans ?_;rw[ke,ym]
   congr 4
   omega
def ags{a:Nat}{e:Int}{j:fJ->Int->Option (cn×fJ)}{r:fJ}{k:Int->cn->fJ->Option (cn×fJ)}(h:3<=a/\a<=10)(u:2^41<=n):DT n j n e (gS jE a) 3 (cn.mk 0 0 [] [] []) r k=k e (cn.mk a 0 [] [] []) r:=by
 obtain⟨m,rfl⟩:∃m,n=m+9:=⟨n-9,by omega⟩;have:a=3\/a=4\/a=5\/a=6\/a=7\/a=8\/a=9\/a=10:=by omega
 rcases this with rfl|rfl|rfl|rfl|rfl|rfl|rfl|rfl<;>rfl
def adR{a:Nat}(h:3<=a/\a<=10):∀c∈gS jE a,lv c=true:=by
 have:a=3\/a=4\/a=5\/a=6\/a=7\/a=8\/a=9\/a=10:=by omega
 rcases this with rfl|rfl|rfl|rfl|rfl|rfl|rfl|rfl<;>decide
def Ly(s:cq):Prop:=s=[]\/∃c t,s=c::t/\lv c=false/\c≠40
def Ly.w{s:cq}(h:Ly s):Dt s:=by
 rcases h with rfl|⟨c,t,rfl,h,_⟩
 ·exact .inl rfl
 ·exact .inr ⟨c,t,rfl,h⟩
def kK(d:Nat)(a:List cn)(i:Nat):cq:=if i<a.length then(if 0<i then[44] else[])++eX 44 ((a.drop i).map (fL d)) else[]
def aa0{d:Nat}{a:List cn}{i:Nat}(h:i<a.length):eX 44 ((a.drop i).map (fL d))=fL d a[i]++kK d a (i+1):=by
 rw[ly h,lz];unfold kK
 by_cases c:i+1<a.length
 ·rw[cM c,cM (by omega),ly c,lz];rfl
 ·rw[cN c,QS (by omega)];simp[eX]
def V5:∀(d n:Nat)(r:cn)(j:Int)(s:cq)(a:Nat)(left:Int)(rest:cq),2^41+d<=n->d<=6->mC d r->s.length<2^20->s.drop a=fL d r++rest->a<=s.length->Ly rest->j=7-d->(js d r:Int)<=left->left<=30->qT n ⟨s,a,left,true⟩ j=some (r,⟨s,((a+(fL d r).length:Nat):Int),left-js d r,true⟩)
 |0,n,r,j,s,a,left,rest,hn,hd,h,hs,P,ha,he,au,hl,av=>absurd h (by simp[mC])
 |d+1,n,r,j,s,a,left,rest,hn,hd,h,hs,P,ha,he,au,hl,av=>by
  obtain⟨n,rfl⟩:∃m,n=m+1:=⟨n-1,by omega⟩;obtain⟨y,hk⟩:=h;have aH:=(wS r.op).2 (by have:=y.k;omega);have k4:=(wS r.op).1;have kl:r.cU.length<=4:=by have:=y.k;omega
  have aI:1<=js (d+1) r:=by rw[js];omega
  have e1:cX .i64 left 1=left-1:=mb (by omega) (by omega) (by omega) (by omega);have ah:a+(fL (d+1) r).length+rest.length=s.length:=by
   have:=congrArg List.length P
   simp only[nn,fg] at this
   omega
  rw[qT];dsimp only;rw[e1,tX (show¬ left-1<0 by omega),cR,tX (show¬ 6<j by omega),cR];simp only[dT,eW,cR]
  by_cases c1:r.op=1
  ·have aw:=y.n1 c1;have D:fL (d+1) r=itoa r.num:=by rw[fL,cM c1]
   have x:r.cU=[]:=og.1 (by have:=y.k;rw[c1,show qu 1=0 from rfl] at this;omega);have ab:js (d+1) r=1:=by rw[js,x];rfl
   rw[D] at P ah⊢;rw[KC (by omega) P (λc hc=>V3 (wQ c hc)) he.w ha (by omega),cw];dsimp only;have e2:s.drop (a+(itoa r.num).length)=rest:=by rw[<-rL,P];simp
   rw[show(40:Int)=((40:UInt8).toNat:Int) from rfl,KD (by omega) (λt e=>by
    rw[e2] at e
    rcases he with rfl|⟨c,t',rfl,_,ad⟩
    ·cases e
    ·injection e with e _;exact ad e),cw];dsimp only;simp only[hY,cP];rw[KW (by omega),cw,V4 aw];dsimp only;rw[cP,ab];have:cn.mk 1 r.num [] [] []=r:=by
    have h1:=y.name (by omega)
    have U:=y.rH (by omega)
    cases r
    simp only[cn.op,cn.num,cn.name,cn.cU,cn.db] at*
    subst c1 h1 U x
    rfl
   rw[this];rfl
  by_cases c2:r.op=2
  ·have ai:=y.n2 c2;have D:fL (d+1) r=r.name:=by rw[fL,cN c1,cM c2]
   have x:r.cU=[]:=og.1 (by have:=y.k;rw[c2,show qu 2=0 from rfl] at this;omega);have ab:js (d+1) r=1:=by rw[js,x];rfl
   rw[D] at P ah⊢;rw[KC (by omega) P (λc hc=>afk ((lS ai).1 c hc)) he.w ha (by omega),cw];dsimp only;have e2:s.drop (a+r.name.length)=rest:=by rw[<-rL,P];simp
   rw[show(40:Int)=((40:UInt8).toNat:Int) from rfl,KD (by omega) (λt e=>by
    rw[e2] at e
    rcases he with rfl|⟨c,t',rfl,_,ad⟩
    ·cases e
    ·injection e with e _;exact ad e),cw];dsimp only;simp only[hY,cP];rw[KW (by omega),cw,adQ ai,cR,ab];have:cn.mk 2 0 r.name [] []=r:=by
    have h1:=y.num (by omega)
    have U:=y.rH (by omega)
    cases r
    simp only[cn.op,cn.num,cn.name,cn.cU,cn.db] at*
    subst c2 h1 U x
    rfl
   rw[this];rfl
  obtain⟨u,A⟩:=hV (show 0<=r.op by omega);have Y:3<=u/\u<=10:=by omega
  have D:fL (d+1) r=gS jE u++[40]++eX 44 (r.cU.map (fL d))++jF r.db++[41]:=by
   rw[fL,cN c1,cN c2,A,fH]
  have ax:1<=r.cU.length:=by
   have aJ:=y.k
   have:1<=qu r.op:=by
    rw[A]
    have:u=3\/u=4\/u=5\/u=6\/u=7\/u=8\/u=9\/u=10:=by omega
    rcases this with rfl|rfl|rfl|rfl|rfl|rfl|rfl|rfl<;>decide
   omega
  have aj:kK d r.cU 0=eX 44 (r.cU.map (fL d)):=by
   unfold kK
   rw[cM (by omega),cN (by omega)]
   rfl
  have C:(fL (d+1) r).length=(gS jE u).length+1+(kK d r.cU 0).length+(jF r.db).length+1:=by
   rw[D,aj];simp only[fg,gy,jP]
  have f1:s.drop a=gS jE u++(40::(kK d r.cU 0++(jF r.db++41::rest))):=by
   rw[P,D,aj];simp only[ke,o9,iC]
  have f2:s.drop (a+(gS jE u).length)=40::(kK d r.cU 0++(jF r.db++41::rest)):=by rw[<-rL,f1];simp
  have f3:=(drop_cons f2).2.2;rw[KC (by omega) f1 (adR Y) (Jz (by decide)) ha (by omega),cw];dsimp only;rw[show(40:Int)=((40:UInt8).toNat:Int) from rfl,zE (by omega) f2,cw];dsimp only;simp only[eW,cR];refine(ags Y (by omega)).trans ?_
  try dsimp only
  have ay:∀(K:cn->fJ->Option (cn×fJ)),∀m i b:Nat,∀Q:Int,i<=r.cU.length->r.cU.length<m+i->s.drop b=kK d r.cU i++(jF r.db++41::rest)->b<=s.length->Q=left-1-(((r.cU.take i).map (js d)).sum:Nat)->uI n (qT n) m j i (cn.mk u 0 [] (r.cU.take i) []) ⟨s,b,Q,true⟩ K=K (cn.mk u 0 [] r.cU []) ⟨s,((b+(kK d r.cU i).length:Nat):Int),left-js (d+1) r,true⟩:=by
   intro K m
   induction m with
   |zero=>intro i b Q h1 U;omega
   |succ m ih=>
    intro i b Q h1 U h3 h4 h5
    have ak:wY n (cn.op (cn.mk u 0 [] (r.cU.take i) []))=some (r.cU.length:Int):=by
     show wY n (u:Int)=_
     rw[Pk,<-A,y.k]
    by_cases hi:i<r.cU.length
    ·have ae:cC (i:Int) (r.cU.length:Int)=true:=xK (by omega);have aF:((r.cU.map (js d)).sum:Nat)=((r.cU.take i).map (js d)).sum+js d r.cU[i]+((r.cU.drop (i+1)).map (js d)).sum:=by
      conv=>lhs;rw[<-ZP i r.cU,ly hi]
      rw[nq,lz,ZV,ZW]
      omega
     have aG:js (d+1) r=1+(r.cU.map (js d)).sum:=rfl;have E:(kK d r.cU i)=(if 0<i then[44] else[])++(fL d r.cU[i]++kK d r.cU (i+1)):=by
      rw[<-aa0 hi]
      unfold kK
      rw[cM hi]
     have am:Ly (kK d r.cU (i+1)++(jF r.db++41::rest)):=by
      unfold kK
      split
      ·rw[cM (by omega)];exact .inr ⟨44,_,rfl,by decide,by decide⟩
      ·rw[iC];unfold jF;split
       ·exact .inr ⟨41,_,rfl,by decide,by decide⟩
       ·exact .inr ⟨59,_,rfl,by decide,by decide⟩
     have Z:∀F:Nat,F<=s.length->s.drop F=fL d r.cU[i]++(kK d r.cU (i+1)++(jF r.db++41::rest))->qT n ⟨s,F,Q,true⟩ (j+1)=some (r.cU[i],⟨s,((F+(fL d r.cU[i]).length:Nat):Int),Q-js d r.cU[i],true⟩):=λF an R=>
      V5 d n r.cU[i] (j+1) s F Q _ (by omega) (by omega) (hk _ (dM hi)) hs R an am (by omega) (by omega) (by omega)
     have H:∀F:Nat,s.drop F=fL d r.cU[i]++(kK d r.cU (i+1)++(jF r.db++41::rest))->F<=s.length->F+(fL d r.cU[i]).length<=s.length/\s.drop (F+(fL d r.cU[i]).length)=kK d r.cU (i+1)++(jF r.db++41::rest):=λF R an=>by
      have:=congrArg List.length R
      simp only[nn,fg] at this
      refine⟨by omega,?_⟩
      rw[<-rL,R];simp
     have ao:Q-js d r.cU[i]=left-1-(((r.cU.take (i+1)).map (js d)).sum:Nat):=by
      rw[mU hi,nq,ZV,lz,s7,ZW,List.sum_nil]
      omega
     have ap:cz .i64 j 1=j+1:=jb (by omega) (by omega) (by omega) (by omega);have aa:∀k:cn,cZ 80 (r.cU.take i) [k]=some (r.cU.take i++[k]):=λk=>fW (by simp;omega) (by omega);have I:r.cU.take i++[r.cU[i]]=r.cU.take (i+1):=(mU hi).symm;rw[uI,ak,cw,ae,cP];dsimp only;rw[cP,ap,dO (by omega)]
     by_cases h0:i=0
     ·have e0:cp (i:Int) 0=true:=by rw[ez];exact gF (by omega)
      rw[cN (by omega),iC] at E;have S:=h3;rw[E,ke] at S;obtain⟨g1,g2⟩:=H b S h4;rw[e0,cP,Z b h4 S,cw];dsimp only;rw[iD];show ck (cZ 80 (r.cU.take i) [r.cU[i]]) _=_;rw[aa,cw,I];show uI n (qT n) m j ((i+1:Nat):Int) (cn.mk u 0 [] (r.cU.take (i+1)) []) _ K=_;rw[ih (i+1) _ _ (by omega) (by omega) g2 g1 ao]
      congr 2
      rw[E,fg]
      congr 1;omega
     ·have e0:cp (i:Int) 0=false:=by rw[ez];exact gP (by omega)
      rw[cM (by omega)] at E;have S:=h3;rw[E] at S;simp only[ke,o9,iC] at S;have aq:=(drop_cons S).2.2;have aK:=(drop_cons S).1;obtain⟨g1,g2⟩:=H (b+1) aq (by omega);rw[e0,cR,show(44:Int)=((44:UInt8).toNat:Int) from rfl,zE (by omega) S,cw];dsimp only;rw[Z (b+1) (by omega) aq,cw];dsimp only;rw[iD];show ck (cZ 80 (r.cU.take i) [r.cU[i]]) _=_;rw[aa,cw,I];show uI n (qT n) m j ((i+1:Nat):Int) (cn.mk u 0 [] (r.cU.take (i+1)) []) _ K=_;rw[ih (i+1) _ _ (by omega) (by omega) g2 g1 ao]
      congr 2
      rw[E];simp only[fg,gy,jP]
      congr 1;omega
    ·have:i=r.cU.length:=by omega
     subst this;have ae:cC (r.cU.length:Int) (r.cU.length:Int)=false:=tX (by omega);have az:kK d r.cU r.cU.length=[]:=by unfold kK;rw[cN (by omega)]
     rw[uI,ak,cw,ae,cR,s8,az];rw[s8] at h5;have:Q=left-js (d+1) r:=by rw[js];omega
     rw[this];rfl
  have aA:a+(gS jE u).length+1<=s.length:=by have:=(drop_cons f2).1;omega
  have U:=λK=>ay K n 0 (a+(gS jE u).length+1) (left-1) (by omega) (by omega) f3 aA (by simp);rw[Ay] at U;refine(U _).trans ?_;dsimp only;rw[cP];have f4:s.drop (a+(gS jE u).length+1+(kK d r.cU 0).length)=jF r.db++41::rest:=by rw[<-rL,f3];simp
  have J:∀ms,ms=r.db->cn.mk (cn.op (cn.mk u 0 [] r.cU [])) (cn.num (cn.mk u 0 [] r.cU [])) (cn.name (cn.mk u 0 [] r.cU [])) (cn.cU (cn.mk u 0 [] r.cU [])) ms=r:=λms aB=>by
   have g1:=y.num c1
   have g2:=y.name c2
   subst aB
   rw[<-A]
   show cn.mk r.op 0 [] r.cU r.db=r
   rw[<-g1,<-g2,iD]
  by_cases hm:r.db=[]
  ·have M:jF r.db=[]:=by unfold jF;rw[cM hm]
   rw[M,iC] at f4;have N:=J [] hm.symm;rw[M] at C;rw[show(59:Int)=((59:UInt8).toNat:Int) from rfl,KD (by have:=(drop_cons f4).1;omega) (λt e=>by rw[f4] at e;cases e),cw];dsimp only;rw[cR,cP,show(41:Int)=((41:UInt8).toNat:Int) from rfl,zE (by omega) f4,cw];dsimp only;rw[show cn.db (cn.mk u 0 [] r.cU [])=[] from rfl,N];rw[C,jP]
   congr 4
   omega
  ·have af:r.op=10:=by
     by_cases c:r.op=10
     ·exact c
     ·exact absurd (y.rH c) hm
   obtain⟨aC,aL,aM⟩:=EU (y.n3 af);have M:jF r.db=59::eX 44 (r.db.map mD):=by unfold jF;rw[cN hm];rfl
   rw[M,o9] at f4;have f5:=(drop_cons f4).2.2;have f6:s.drop (a+(gS jE u).length+1+(kK d r.cU 0).length+1+(eX 44 (r.db.map mD)).length)=41::rest:=by rw[<-rL,f5];simp
   have N:=J r.db rfl;have aD:a+(gS jE u).length+1+(kK d r.cU 0).length+1<=s.length:=by have:=(drop_cons f4).1;omega
   rw[M] at C;rw[show(59:Int)=((59:UInt8).toNat:Int) from rfl,zE (by omega) f4,cw];dsimp only;rw[cP];have hM:=WT (n:=n) (left:=left-js (d+1) r) (s:=s) (by omega) (by omega) r.db n _ [] (41::rest) hm aC (by simp;omega) f5 aD ⟨rest,rfl⟩ (by omega);have aE:HO n ⟨s,((a+(gS jE u).length+1+(kK d r.cU 0).length+1:Nat):Int),left-js (d+1) r,true⟩=some (r.db,⟨s,((a+(gS jE u).length+1+(kK d r.cU 0).length+1+(eX 44 (r.db.map mD)).length:Nat):Int),left-js (d+1) r,true⟩):=by
    unfold HO
    exact hM
   rw[aE,cw];dsimp only;rw[cP,show(41:Int)=((41:UInt8).toNat:Int) from rfl,zE (by omega) f6,cw];dsimp only;rw[N]
   congr 3
   rw[C,gy]
   congr 1;omega
end
end
section
section
variable{n:Nat}
structure rj(n:Nat)(r:cn):Prop where
 p:mC 6 r
 s:js 6 r<=30
 w:(fL 6 r).length<=300
 ok:r8 n r=some true
def mC.z:∀(d:Nat)(r:cn),mC d r->kJ d r
 |0,r,h=>h
 |d+1,r,⟨h,e⟩=>by
  have k1:=h.k;have k2:=(wS r.op).1;have m:=(MX h).2;refine⟨by omega,by omega,?_,λk a=>mC.z d k (e k a)⟩
  by_cases c:r.op=2
  ·have:=(lS (h.n2 c)).2.2;omega
  ·rw[h.name c];simp
def Tc{z:Nat}{r:cn}(j:kJ z r)(u:2^41+6<=n):Ok (r8 n r) λb=>b=true->mC 6 r/\js 6 r<=30/\(fL 6 r).length<=300:=by
 unfold r8;rw[iD];refine dq (UK 6 z n r 1 30 (by omega) j (by omega) (by omega) (by omega)) λx hx=>nV (λa=>?_) λa=>cH (λh=>by cases h);obtain⟨e,y⟩:=hx.2.2 a;rw[Jy 6 n r (by omega) (by omega) e,cw];refine cH λh=>⟨e,by omega,?_⟩;rw[gR,dQ,gA] at h;omega
def rj.of{z:Nat}{r:cn}(hz:kJ z r)(h:r8 n r=some true)(j:2^41+6<=n):rj n r:=by
 obtain⟨b,e,u⟩:=Tc hz j;rw[h] at e;injection e with e;obtain⟨a,c,d⟩:=u e.symm;exact⟨a,c,d,h⟩
def rj.write{r:cn}(h:rj n r)(a:2^41+6<=n):Bw n r=some (fL 6 r):=by
 unfold Bw;rw[iD,h.ok,cw,dT,eW,cR,Jy 6 n r (by omega) (by omega) h.p,cw]
def ab5{d:Nat}{r:cn}(h:mC (d+1) r):fL (d+1) r≠[]:=by
 unfold fL;split
 ·intro e;have:=congrArg List.length e;rename_i c
  by_cases j:0<=r.num
  ·obtain⟨u,a⟩:=hV j;rw[a,nO] at e;exact ve u e
  ·obtain⟨u,a⟩:∃u:Nat,r.num=-(u:Int):=⟨r.num.natAbs,by omega⟩;rw[a,itoa_neg (by omega)] at e;cases e
 ·split
  ·rename_i c;have:=(lS (h.1.n2 c)).2.1;intro e;rw[e] at this;simp at this
  ·simp
def rj.read{r:cn}(h:rj n r)(e:2^41+6<=n):Io n (fL 6 r)=some (r,true):=by
 have j:=h.w;have a:=V5 6 n r 1 (fL 6 r) 0 30 [] (by omega) (by omega) h.p (by omega) (by simp) (by omega) (.inl rfl) (by omega) (by have:=h.s;omega) (by omega);rw[iB] at a;unfold Io;rw[show dI (eF (fL 6 r)) 300=true by rw[gR,gA];exact gF (by omega)];refine(congrArg (λo=>ck o _) a).trans ?_;rw[cw];dsimp only;rw[dT,eW,cR,gA,ez,gF rfl,dT,eW,cR,kX,gP (ab5 h.p),cR,iD,h.write e,cw,kX,gF rfl,dT,eW,cR]
def mc(a:List cq):Nat->cn->Prop|0,_=>False|d+1,r=>(r.op=2->r.name∈a)/\∀k∈r.cU,mc a d k
def afl{a:List cq}{s:cq}(N:a.length<=10000000)(P:2^41<=n):Ok (Kf n a s) λl=>(∀x∈l,x∈a\/x=s)/\l.length<=a.length+1:=by
 have y:∀(Q:List cq->Prop)(K:List cq->cq->Int->Option (List cq)),(∀j:Nat,j<=a.length->Ok (K a s j) Q)->∀m i:Nat,i<=a.length->a.length<m+i->Ok (Ey n m a s i K) Q:=by
  intro Q K D m
  induction m with
  |zero=>intro i A E;omega
  |succ m F=>
   intro i A E
   rw[Ey]
   refine eu (λe=>?_) λe=>D i A
   rw[cW] at e
   refine iX (by omega) (by omega) λx _ _=>ef (λ_=>?_) λ_=>D i A
   rw[dO (by omega)]
   exact F (i+1) (by omega) (by omega)
 unfold Kf;refine y _ _ (λj R=>?_) n 0 (by omega) (by omega);have u:Ok (ck (ff a 0 (j:Int)) λH=>ck (cZ 16 [] H) λI=>ck (cZ 16 I [s]) λJ=>ck (ff a (j:Int) (cA a)) λM=>ck (cZ 16 J M) λC=>some C) λl=>(∀x∈l,x∈a\/x=s)/\l.length<=a.length+1:=by
  refine xF (by omega) (by omega) (by omega) (fc (by simp;omega) (by omega) (fc (by simp;omega) (by omega) (xF (by omega) (by rw[cW];omega) (by rw[cW];omega) (fc (by simp[cW];omega) (by omega) (cH ⟨λx hx=>?_,?_⟩)))))
  ·simp only[iC,eJ,gf] at hx;rcases hx with(hx|hx)|hx
   ·exact .inl (HK (uH hx))
   ·exact .inr hx
   ·exact .inl (HK (uH hx))
  ·simp[cW];omega
 refine eu (λe=>?_) λe=>u;rw[cW] at e;exact iX (by omega) (by omega) λx _ _=>oJ (λ_=>cH ⟨λx hx=>.inl hx,by omega⟩) λ_=>u
def Td{names:List cq}:∀(d n:Nat)(r:cn)(e:List cq),2^41+d<=n->d<=6->mc names d r->kJ d r->(∀x∈e,x∈names)->e.length+11^d<=10000000->Ok (wL n r e) λl=>(∀x∈l,x∈names)/\l.length<=e.length+11^d
 |0,n,r,e,M,N,P,hz,C,Q=>absurd P (by simp[mc])
 |d+1,n,r,e,M,N,⟨D,E⟩,⟨R,S,U,F⟩,C,Q=>by
  obtain⟨n,rfl⟩:∃m,n=m+1:=⟨n-1,by omega⟩;have hp:(11:Nat)^(d+1)=11*11^d:=by rw[uF];omega
  have Y:1<=11^d:=Q6 _ _ (by omega);have u:∀(K:List cq->Option (List cq))(b:Nat),(∀l,K l=some l)->∀m i:Nat,∀a:List cq,i<=r.cU.length->r.cU.length<m+i->(∀x∈a,x∈names)->a.length<=e.length+1+11^d*i->Ok (Bc n (wL n) m a i r K) λl=>(∀x∈l,x∈names)/\l.length<=e.length+11^(d+1):=by
   intro K b Z m
   induction m with
   |zero=>intro i a h1 h2;omega
   |succ m ih=>
    intro i a h1 h2 H h4
    rw[Bc]
    refine eu (λI=>?_) λI=>?_
    ·rw[cW] at I;have j:i<r.cU.length:=by omega
     have J:11^d*(i+1)<=11^d*10:=DS _ (by omega);rw[Q4] at J;rw[dA j,cw,iD,iD,dO (by omega)];refine dq (Td d n r.cU[i] a (by omega) (by omega) (E _ (dM j)) (F _ (dM j)) H (by omega)) λy A=>ih (i+1) y (by omega) (by omega) A.1 (by have:=A.2;rw[Q4];omega)
    ·rw[Z];have J:11^d*i<=11^d*10:=DS _ (by omega);exact cH ⟨H,by omega⟩
  rw[wL,iD];refine dr (λc=>?_) λc=>?_
  ·refine dq (afl (by omega) (by omega)) λx hx=>u _ 0 (λl=>rfl) n 0 x (by omega) (by omega) (λy A=>?_) (by have:=hx.2;omega);rcases hx.1 y A with h|h
   ·exact C y h
   ·rw[h];exact D c
  ·exact u _ 0 (λl=>rfl) n 0 e (by omega) (by omega) C (by omega)
def jy:List cq:=[[108,101,103,115],[115,101,97,116,115],[116,105,109,101]]
structure vv(n:Nat)(f:fN):Prop where
 nm:gY f.name=true
 dh:0<=f.dh/\f.dh<=2
 r:∃r,f.mf=fL 6 r/\rj n r/\FE n f=some (r,true)
def adS{f:fN}{d:Nat}{r:cn}(a:gY f.name=true)(C:0<=f.dh/\f.dh<=2)(D:f.mf=fL 6 r)(j:rj n r)(u:d<=6)(H:mc jy d r)(I:kJ d r)(J:2^41+6<=n):vv n f:=by
 refine⟨a,C,r,D,j,?_⟩;obtain⟨l,el,M,x⟩:=Td (names:=jy) d n r [] (by omega) u H I (by simp) (by
  have:11^d<=11^6:=v8 (by omega) u
  simp;omega);have E:l.length<=10000000:=by
  have:11^d<=11^6:=v8 (by omega) u
  simp at x;omega
 have N:=(lS a).2.2;unfold FE;rw[D,j.read J,cw,dT,eW,cR,rY (by omega) (by omega),cw,a,dT,eW,cR,sk,cw,gF C,dT,eW,cR];simp only[iD];have y:H6 n r=some l:=by
  unfold H6
  rw[iD,j.ok,cw,dT,eW,cR,el,cw]
 rw[y,cw];have A:∀K:cn->Option (cn×Bool),∀m i:Nat,i<=l.length->l.length<m+i->yV n m l i r K=K r:=by
  intro K m
  induction m with
  |zero=>intro i P Q;omega
  |succ m R=>
   intro i P Q
   rw[yV]
   by_cases F:i<l.length
   ·rw[show cC (i:Int) (cA l)=true by rw[dE,cW];exact gF (by omega),cP,dA F];simp only[cw,iD];rw[dO (by omega),R (i+1) (by omega) (by omega)];have:=M _ (dM F);simp only[jy,eG,mq,l8] at this;rcases this with e|e|e<;>rw[e]<;>rfl
   ·rw[show cC (i:Int) (cA l)=false by rw[dE,cW];exact gP (by omega),cR,iD]
 exact A _ n 0 (by omega) (by omega)
end
end
section
section
variable{n:Nat}
def UM{M:Int}(H:M<=999999999000){k:List Mark->Rd->Option (List Mark×Rd)}{Q:List Mark×Rd->Prop}:∀(m c:Nat)(j:List Mark)(r:Rd),1<=j.length->c+j.length<=4->c<m->dU (M+2*j.length) r->(∀u E,1<=u.length->u.length<=4->dU (M+8) E->Ok (k u E) Q)->Ok (D0 n m j c r k) Q
 |0,c,j,r,F,I,J,A,K=>by omega
 |m+1,c,j,r,F,I,J,A,K=>by
  rw[D0];refine eu (λN=>?_) λN=>K j r F (by omega) (A.mono (by omega));have e:cX .i64 (cA j) 1=((j.length-1:Nat):Int):=by rw[cW,iE];omega
  rw[e];refine iX (by omega) (by omega) λa _ _=>iX (by omega) (by omega) λb _ _=>?_;refine ei A (by omega) (by omega) λx R S U C=>ei C (by omega) (by omega) λy P Y Z D=>?_;refine fc (by simp;omega) (by omega) ?_;rw[show cX .i64 (c:Int) 1=((c-1:Nat):Int) by rw[iE];omega];exact UM H m (c-1) _ P (by simp) (by simp;omega) (by omega) (D.mono (by simp;omega)) K
def aa1{N:Int}{r:Rd}(E:dU N r)(I:N<=999999990000)(J:2^41<=n):Ok (Il n r) λx=>x.1.length<=10/\dU (N+10) x.2:=by
 unfold Il;refine ei E (by omega) (by omega) λx P Q R A=>ei A (by omega) (by omega) λy F H S C=>?_;obtain⟨y,rfl⟩:=hV H;refine UM (n:=n) (M:=N) (by omega) n y _ F (by simp) (by simp;omega) (by omega) (C.mono (by simp;omega)) λj U Y Z D=>?_;refine ei D (by omega) (by omega) λz r4 z0 z1 u=>dr (λ_=>?_) λ_=>cH ⟨by show j.length<=10;omega,u.mono (by omega)⟩;have e:cX .i64 (cA j) 1=((j.length-1:Nat):Int):=by rw[cW,iE];omega
 rw[e];exact iX (by omega) (by omega) λa _ _=>iX (by omega) (by omega) λb _ _=>cH ⟨by show(du _ _ _).length<=10;rw[lR];omega,u.mono (by omega)⟩
def aa2{x:cq}(h:x∈jy):x.length<=1000:=by
 simp only[jy,eG,mq,l8] at h;rcases h with rfl|rfl|rfl<;>simp
def ahg{v:Int}{d:Nat}:kJ (d+1) (cn.mk 1 v [] [] [])/\mc jy (d+1) (cn.mk 1 v [] [] []):=⟨⟨by show(0:Nat)<=10;omega,by show(0:Nat)<=10;omega,by show(0:Nat)<=1000;omega,λk a=>by cases a⟩,(λh=>absurd (show(1:Int)=2 from h) (by omega)),λk a=>by cases a⟩
def Qa{s:cq}{d:Nat}(h:s∈jy):kJ (d+1) (cn.mk 2 0 s [] [])/\mc jy (d+1) (cn.mk 2 0 s [] []):=⟨⟨by show(0:Nat)<=10;omega,by show(0:Nat)<=10;omega,aa2 h,λk a=>by cases a⟩,λ_=>h,λk a=>by cases a⟩
def V6{e M B:Int}{d f:Nat}(A:0<=B/\B<=1000000)(I:M<=999900000000){F:Rd->Int->List cq->Option (cn×Rd)}(y:∀(r:Rd)(N:Int),N<=M+B*3->dU N r->Ok (F r (cz .i64 e 1) jy) λx=>(kJ d x.1/\mc jy d x.1)/\dU (N+B) x.2){op:Int}(C:op≠2){k:cn->Rd->Option (cn×Rd)}{Q:cn×Rd->Prop}:∀(m c:Nat)(a:List cn)(r:Rd),c+a.length<=4->c<m->(∀k∈a,kJ d k/\mc jy d k)->dU (M+B*a.length) r->(∀j H,j.length<=4->(∀k∈j,kJ d k/\mc jy d k)->dU (M+B*4) H->Ok (k (cn.mk op 0 [] j []) H) Q)->Ok (D9 f F m e jy c (cn.mk op 0 [] a []) r k) Q
 |0,c,a,r,J,P,D,E,K=>by omega
 |m+1,c,a,r,J,P,D,E,K=>by
  have U:B*a.length<=B*4:=Q5 (by omega) A.1;rw[D9];refine eu (λR=>?_) λR=>?_
  ·have S:B*a.length<=B*3:=Q5 (by omega) A.1;refine dq (y r (M+B*a.length) (by omega) E) λx hx=>?_;rw[iD];show Ok (ck (cZ 80 a [x.1]) _) Q;refine fc (by simp;omega) (by omega) ?_;rw[show cX .i64 (c:Int) 1=((c-1:Nat):Int) by rw[iE];omega];refine V6 A I y C m (c-1) (a++[x.1]) x.2 (by simp;omega) (by omega) (λk u=>?_) (hx.2.mono (by rw[fg,uE];push_cast;rw[ZM];omega)) K;rcases eJ.1 u with u|u
   ·exact D k u
   ·rw[gf] at u;rw[u];exact hx.1
  ·exact K a r (by omega) D (E.mono (by omega))
def WU{e:Nat}:∀(n:Nat)(r:Rd)(N:Int),N<=999999000000->dU N r->∀Q:cn×Rd->Prop,(∀x M,kJ (e+1) x/\mc jy (e+1) x->dU (N+10) M->Q (x,M))->Ok (ck (cS n r 2) λA=>
 cond (cp A.1 0)
  (ck (mX n A.2 jy) λP=>
  some (cn.mk 2 0 P.1 [] [],P.2))
  (ck (cS n A.2 40) λC=>
  ck (cS n C.2 9) λD=>
  ck (cS n D.2 3) λE=>
  ck (cS n E.2 5) λF=>
  ck (cm [C.1,cX .i64 D.1 4,100,1000000000,E.1] F.1) λY=>
  ck (cm [C.1,cX .i64 D.1 4,100,1000000000,E.1] F.1) λR=>
  some (cn.mk 1 R [] [] [],F.2))) Q:=by
 intro n r N Z S Q K;refine ei S (by omega) (by omega) λa r1 _ _ y=>dr (λ_=>?_) λ_=>?_
 ·exact Ag y (by omega) (by decide) λx U hx j=>cH (K _ _ (Qa hx) (j.mono (by omega)))
 ·refine ei y (by omega) (by omega) λb U _ _ j=>ei j (by omega) (by omega) λc r3 _ _ H=>ei H (by omega) (by omega) λd r4 _ _ I=>ei I (by omega) (by omega) λf r5 f0 f1 J=>?_;dsimp only;exact iX f0 (by simp;omega) λu _ _=>iX f0 (by simp;omega) λv _ _=>cH (K _ _ ahg (J.mono (by omega)))
def ab6:∀(e n:Nat)(r:Rd)(j N:Int),2^41+e<=n->e<=4->j=5-e->N+((30*5^e:Nat):Int)<=999900000000->dU N r->Ok (zj n r j jy) λx=>(kJ (e+1) x.1/\mc jy (e+1) x.1)/\dU (N+((30*5^e:Nat):Int)) x.2:=by
 intro e;induction e with
 |zero=>
  intro n r j N P Q R S A;obtain⟨n,rfl⟩:∃m,n=m+1:=⟨n-1,by omega⟩;rw[zj];refine nV (λ_=>?_) λh=>by omega
  exact WU n r N (by omega) A _ λx C D E=>⟨D,E.mono (by omega)⟩
 |succ e U=>
  intro n r j N P Q R S A;obtain⟨n,rfl⟩:∃m,n=m+1:=⟨n-1,by omega⟩;have hp:(5:Nat)^(e+1)=5*5^e:=by rw[uF];omega
  have Y:1<=5^e:=Q6 _ _ (by omega);have Z:5^e<=5^4:=v8 (by omega) (by omega);rw[zj];refine nV (λh=>by omega) λ_=>?_;refine ei A (by omega) (by omega) λa r1 _ _ u=>dr (λ_=>?_) λ_=>?_
  ·exact WU n r1 (N+1) (by omega) u _ λx C D E=>⟨D,E.mono (by omega)⟩
  ·refine ei u (by omega) (by omega) λb r2 b0 b1 F=>?_;dsimp only;rw[jb (a:=3) (b:=b) (by omega) (by omega) (by omega) (by omega),Pk,cw];obtain⟨c,hc⟩:∃c:Nat,qu (3+b)=c/\c<=4:=by
    have:b=0\/b=1\/b=2\/b=3\/b=4\/b=5\/b=6\/b=7:=by omega
    rcases this with rfl|rfl|rfl|rfl|rfl|rfl|rfl|rfl<;>exact⟨_,rfl,by decide⟩
   rw[hc.1];refine V6 (op:=3+b) (M:=N+2) (B:=((30*5^e:Nat):Int)) (d:=e+1) ⟨by omega,by omega⟩ (by omega) (λC N' aa H=>?_) (by omega) n c [] r2 (by simp;omega) (by omega) (by simp) (F.mono (by simp;omega)) λI r3 k1 k2 y=>?_
   ·rw[jb (by omega) (by omega) (by omega) (by omega)];exact U n C (j+1) N' (by omega) (by omega) (by omega) (by omega) H
   ·have g:kJ (e+1+1) (cn.mk (3+b) 0 [] I [])/\mc jy (e+1+1) (cn.mk (3+b) 0 [] I []):=⟨⟨by show I.length<=10;omega,by show(0:Nat)<=10;omega,by show(0:Nat)<=1000;omega,λk J=>(k2 k J).1⟩,(λh=>absurd (show 3+b=2 from h) (by omega)),λk J=>(k2 k J).2⟩;refine dr (λ_=>?_) λ_=>cH ⟨g,y.mono (by omega)⟩;exact dq (aa1 y (by omega) (by omega)) λx hx=>cH ⟨⟨⟨g.1.1,hx.1,g.1.2.2.1,g.1.2.2.2⟩,g.2⟩,hx.2.mono (by omega)⟩
end
end
section
section
variable{n:Nat}
def z8(n:Nat)(r:cn):Prop:=rj n r/\∃d,d<=6/\mc jy d r/\kJ d r
def WV{d:Nat}{r:cn}(e:d<=6)(j:mc jy d r)(a:kJ d r)(h:∀m,r8 (m+1000) r=some true)(u:2^41+6<=n):z8 n r:=by
 refine⟨rj.of a ?_ u,d,e,j,a⟩;obtain⟨m,rfl⟩:∃m,n=m+1000:=⟨n-1000,by omega⟩;exact h m
abbrev Qb:cq:=[108,101,103,115]
abbrev agt:cq:=[115,101,97,116,115]
abbrev Xs:cq:=[116,105,109,101]
def ahh(a:2^41+6<=n):z8 n (cn.mk 2 0 Qb [] []):=WV (d:=1) (by omega) (Qa (by decide)).2 (Qa (by decide)).1 (λm=>rfl) a
def So{N:Int}{r:Rd}(F:dU N r)(U:N<=999000000000)(Y:2^42<=n):Ok (Ew n r jy) λx=>z8 n x.1/\dU (N+100000) x.2:=by
 have j:∀(K:List cq->Rd->Option (cn×Rd)),(∀u,dU (N+80000) u->Ok (K jy u) λx=>z8 n x.1/\dU (N+100000) x.2)->∀m i:Nat,∀r,i<=4->4<m+i->dU (N+20000*i) r->Ok (D1 n m jy i r K) λx=>z8 n x.1/\dU (N+100000) x.2:=by
  intro K H m
  induction m with
  |zero=>intro i r I J;omega
  |succ m M=>
   intro i r I J D
   rw[D1]
   refine eu (λP=>?_) λP=>H r (D.mono (by omega))
   refine ei D (by omega) (by omega) λx Q R Z A=>?_
   obtain⟨x,rfl⟩:=hV R
   dsimp only
   rw[jb (a:=1) (by omega) (by omega) (by omega) (by omega)]
   have S:5^(4-x)<=5^4:=v8 (by omega) (by omega)
   refine dq (ab6 (4-x) n Q (1+x) (N+20000*i+1) (by omega) (by omega) (by omega) (by omega) A) λy e=>?_
   generalize 5^(4-x)=p at S e
   rw[iD]
   obtain⟨b,E,hb⟩:=Tc e.1.1 (n:=n) (by omega)
   refine Lh E (ef (λc=>cH ?_) λc=>?_)
   ·subst c;exact⟨⟨rj.of e.1.1 E (by omega),4-x+1,by omega,e.1.2,e.1.1⟩,e.2.mono (by omega)⟩
   ·rw[dO (by omega)];exact M (i+1) y.2 (by omega) (by omega) (e.2.mono (by omega))
 unfold Ew;refine j _ (λu C=>?_) n 0 r (by omega) (by omega) (F.mono (by omega));exact Lh (show cm jy 0=some Qb from rfl) (cH ⟨ahh (by omega),C.mono (by omega)⟩)
structure C2(n:Nat)(fs:List fN):Prop where
 f:∀f∈fs,vv n f
 d:∀i j(hi:i<fs.length)(hj:j<i),fs[j].name≠fs[i].name
 l:1<=fs.length/\fs.length<=4
def aaz{fs:List fN}(h:C2 n fs)(C:2^41<=n):I3 n fs=some true:=by
 have D:=h.l;have k2:∀i(a:i<fs.length),∀K:List fN->Int->Option Bool,∀m j:Nat,j<=i->i<m+j->Eb n m fs i j K=K fs i:=by
  intro i a K m
  induction m with
  |zero=>intro j u x;omega
  |succ m y=>
   intro j u x
   rw[Eb]
   by_cases A:j<i
   ·rw[show cC (j:Int) (i:Int)=true from xK (by omega),cP,dA (show j<fs.length by omega),cw,dA a,cw,kX,gP (h.d i j a A),cR,dO (by omega)];exact y (j+1) (by omega) (by omega)
   ·rw[show cC (j:Int) (i:Int)=false from tX (by omega),cR]
 have k1:∀K:List fN->Option Bool,∀m i:Nat,i<=fs.length->fs.length<m+i->Ec n m fs i K=K fs:=by
  intro K m
  induction m with
  |zero=>intro j u x;omega
  |succ m y=>
   intro i u x
   rw[Ec]
   by_cases a:i<fs.length
   ·obtain⟨r,_,_,e⟩:=(h.f _ (dM a)).r;rw[show cC (i:Int) (cA fs)=true from xK (by rw[cW];omega),cP,dA a,cw,e,cw,dT,eW,cR];refine(k2 i a _ n 0 (by omega) (by omega)).trans ?_;rw[dO (by omega)];exact y (i+1) (by omega) (by omega)
   ·rw[show cC (i:Int) (cA fs)=false from tX (by rw[cW];omega),cR]
 unfold I3;refine(k1 _ n 0 (by omega) (by omega)).trans ?_;rw[gR,cW,gF (by omega)]
def Qc{name text:cq}{a:Int}{r:cn}(e:gY name=true)(j:0<=a/\a<=2)(u:z8 n r)(x:text=fL 6 r)(y:2^41+6<=n):vv n ⟨name,a,text⟩:=by
 obtain⟨A,d,C,D,E⟩:=u;exact adS e j x A C D E y
abbrev ahi:cn:=cn.mk 5 0 [] [cn.mk 2 0 Qb [] [],cn.mk 1 500 [] [] []] []
abbrev ahj:cn:=cn.mk 1 100 [] [] []
abbrev ahk:cn:=cn.mk 3 0 [] [cn.mk 1 50 [] [] [],cn.mk 5 0 [] [cn.mk 2 0 Xs [] [],cn.mk 1 10 [] [] []] []] []
abbrev ahl:cn:=cn.mk 6 0 [] [cn.mk 1 1000 [] [] [],cn.mk 2 0 agt [] [],cn.mk 1 3 [] [] []] []
abbrev ahm:cn:=cn.mk 10 0 [] [cn.mk 2 0 Xs [] []] [⟨0,30⟩,⟨5,10⟩]
def ahn{r:cn}{text:cq}(e:z8 n r)(h:∀m,qf (m+1000) r=some text)(j:2^41+6<=n):text=fL 6 r:=by
 have a:=Jy 6 n r j (by omega) e.1.p;obtain⟨m,rfl⟩:∃m,n=m+1000:=⟨n-1000,by omega⟩;rw[h m] at a;injection a
def GA{name text:cq}{a:Int}{r:cn}(u:gY name=true)(x:0<=a/\a<=2)(y:mc jy 3 r)(A:kJ 3 r)(h:∀m,r8 (m+1000) r=some true)(C:∀m,qf (m+1000) r=some text)(e:2^41+6<=n):vv n ⟨name,a,text⟩:=
 have j:=WV (by omega) y A h e
 Qc u x j (ahn j C e) e
def aho(a:2^41+6<=n):vv n ⟨[102,117,108,108],0,[109,117,108,40,108,101,103,115,44,53,48,48,41]⟩:=GA (r:=ahi) (by decide) (by omega) (by simp[mc,jy,cn.op,cn.cU,cn.name]) (by simp[kJ,cn.op,cn.cU,cn.name,cn.db]) (λm=>rfl) (λm=>rfl) a
def X0:List cq:=[[49,48,48],[97,100,100,40,53,48,44,109,117,108,40,116,105,109,101,44,49,48,41,41],[112,97,114,116,40,49,48,48,48,44,115,101,97,116,115,44,51,41],[116,105,101,114,115,40,116,105,109,101,59,48,58,51,48,44,53,58,49,48,41]]
def ahQ{dh:Int}{text:cq}(a:0<=dh/\dh<=2)(h:text∈X0)(e:2^41+6<=n):vv n ⟨[108,111,119],dh,text⟩:=by
 simp only[X0,eG,mq,l8] at h;rcases h with rfl|rfl|rfl|rfl
 ·exact GA (r:=ahj) (by decide) a (by simp[mc,jy,cn.op,cn.cU,cn.name]) (by simp[kJ,cn.op,cn.cU,cn.name,cn.db]) (λm=>rfl) (λm=>rfl) e
 ·exact GA (r:=ahk) (by decide) a (by simp[mc,jy,cn.op,cn.cU,cn.name]) (by simp[kJ,cn.op,cn.cU,cn.name,cn.db]) (λm=>rfl) (λm=>rfl) e
 ·exact GA (r:=ahl) (by decide) a (by simp[mc,jy,cn.op,cn.cU,cn.name]) (by simp[kJ,cn.op,cn.cU,cn.name,cn.db]) (λm=>rfl) (λm=>rfl) e
 ·exact GA (r:=ahm) (by decide) a (by simp[mc,jy,cn.op,cn.cU,cn.name]) (by simp[kJ,cn.op,cn.cU,cn.name,cn.db]) (λm=>rfl) (λm=>rfl) e
def KZ{fs:List fN}(h:∀f∈fs,vv n f)(a:(fs.map fN.name).Pairwise (·≠·))(e:1<=fs.length/\fs.length<=4):C2 n fs:=by
 refine⟨h,λi j x u=>?_,e⟩;have:=ZN.1 a j i (by simp;omega) (by simp;omega) u;simpa using this
def aa3{N:Int}{r:Rd}(J:dU N r)(R:N<=998000000000)(I:2^42<=n):Ok (Im n r) λx=>C2 n x.1/\dU (N+200000) x.2:=by
 have E:=aho (n:=n) (by omega);unfold Im;refine ei J (by omega) (by omega) λa S _ _ D=>eu (λ_=>?_) λ_=>?_
 ·refine ei D (by omega) (by omega) λb U Y Z F=>Ag F (by omega) (by simp) λt r3 M H=>?_;dsimp only;rw[jb (a:=1) (by omega) (by omega) (by omega) (by omega)];have u:=ahQ (n:=n) (dh:=1+b) (text:=t) (by omega) M (by omega);refine fc (by simp) (by omega) (ei H (by omega) (by omega) λc P _ _ j=>dr (λ_=>?_) λ_=>cH ⟨KZ ?_ ?_ (by simp),j.mono (by omega)⟩)
  ·refine ei j (by omega) (by omega) λd Q d0 d1 A=>dq (So A (by omega) I) λy C=>?_;rw[iD,C.1.1.write (by omega),cw];refine fc (by simp) (by omega) (cH ⟨KZ ?_ ?_ (by simp),C.2.mono (by omega)⟩)
   ·intro f e;simp only[o9,iC,eG,mq,l8] at e;rcases e with rfl|rfl|rfl
    ·exact E
    ·exact u
    ·exact Qc (by decide) (by show 0<=d/\d<=2;omega) C.1 rfl (by omega)
   ·simp
  ·intro f e;simp only[o9,iC,eG,mq,l8] at e;rcases e with rfl|rfl
   ·exact E
   ·exact u
  ·simp
 ·refine ei D (by omega) (by omega) λc P _ _ j=>dr (λ_=>?_) λ_=>cH ⟨KZ ?_ ?_ (by simp),j.mono (by omega)⟩
  ·refine ei j (by omega) (by omega) λd Q d0 d1 A=>dq (So A (by omega) I) λy C=>?_;rw[iD,C.1.1.write (by omega),cw];refine fc (by simp) (by omega) (cH ⟨KZ ?_ ?_ (by simp),C.2.mono (by omega)⟩)
   ·intro f e;simp only[o9,iC,eG,mq,l8] at e;rcases e with rfl|rfl
    ·exact E
    ·exact Qc (by decide) (by show 0<=d/\d<=2;omega) C.1 rfl (by omega)
   ·simp
  ·intro f e;simp only[eG,mq,l8] at e;rw[e];exact E
  ·simp
end
end
end Go.Ev
