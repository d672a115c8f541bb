/- Laws of the plain functions, second part. -/
import Derived.Test.YtfnlbejcgjlclaaGreatDoorG
set_option linter.all false
namespace Go.Ev
open Go Go.Lib
section
section
variable{n:Nat}
theorem C5{p:Prop}{o:Option Bool}(h:Ok o λr=>r=true↔p):o=some (@decide p (Classical.propDecidable p)):=by
 obtain⟨r,e,h⟩:=h;rw[e]
 congr 1
 rw[G6,h];simp
structure xC(s:cS):Prop where
 bl:s.base.length<=1000
 bz:∀l∈s.base,ph l
 lg:s.log.length<100000
 ll:s.legs.length<=1000
 lr:∀l∈s.legs,rY l
 tl:s.cB.length<=20000
 tz:∀t∈s.cB,t.ops.length<=1000
theorem Ru{a b:eH}:a=b↔a.txn=b.txn/\a.da=b.da/\a.ops=b.ops:=by
 cases a;cases b;simp
theorem afu{a b:cS}(Q:∀l∈a.legs,rY l)(R:a.legs.length<=1000)(S:∀l∈b.legs,rY l)(U:a.cB.length<=20000)(u:∀t∈a.cB,t.ops.length<=1000)(I:2^41<=n):Ok (IU n a b) λr=>r=true↔a.legs=b.legs/\a.cB=b.cB:=by
 unfold IU;refine dS (ok_eq (λx=>dS (ok_eq (λy=>?_) λy=>?_)) λx=>?_)
 ·have Y:a.legs.length=b.legs.length:=by simp only[go_sem] at x;omega
  have Z:a.cB.length=b.cB.length:=by simp only[go_sem] at y;omega
  have A:=kD (N:=a.cB.length) (by omega) (L:=λm i=>vH n m i a b (some true)) (P:=λj=>decide ((gT a.cB j).txn=(gT b.cB j).txn)&&(decide ((gT a.cB j).da=(gT b.cB j).da)&&@decide ((gT a.cB j).ops=(gT b.cB j).ops) (Classical.propDecidable _))) (k:=some true) (r:=some false) (λm=>by simp[go_sem,vH]) (λm i e=>by
   have C:decide ((i:Int)<a.cB.length)=true:=by simp;omega
   have D:=C5 (aft (n:=n) (a:=(gT a.cB i).ops) (b:=(gT b.cB i).ops) (by rw[Cz e];have:=u _ (dG e);omega) I)
   simp only[vH,dv,cP,C,cL,eG e ⟨0,0,[]⟩,eG (show i<b.cB.length by omega) ⟨0,0,[]⟩,cu,en,dO,D]
   generalize decide ((gT a.cB i).txn=(gT b.cB i).txn)=z1
   generalize decide ((gT a.cB i).da=(gT b.cB i).da)=z2
   generalize@decide ((gT a.cB i).ops=(gT b.cB i).ops) (Classical.propDecidable _)=z3
   cases z1<;>cases z2<;>cases z3<;>rfl) (m:=n) (by omega);have E:=kD (N:=a.legs.length) (by omega) (L:=λm i=>AN n m i a b (λa6 b7=>vH n n 0 a6 b7 (some true))) (P:=λj=>@decide (gL a.legs j=gL b.legs j) (Classical.propDecidable _)) (k:=vH n n 0 a b (some true)) (r:=some false) (λm=>by simp[go_sem,AN]) (λm i e=>by
   have C:decide ((i:Int)<a.legs.length)=true:=by simp;omega
   have D:=C5 (agi (n:=n) (a:=gL a.legs i) (b:=gL b.legs i) (Q _ (wN e)) (S _ (wN (by omega))) I)
   simp only[AN,dv,cP,C,cL,eG e ⟨[],[],[],0,0,0,[],[],[],[]⟩,eG (show i<b.legs.length by omega) ⟨[],[],[],0,0,0,[],[],[],[]⟩,cu,dO,D]
   generalize@decide (gL a.legs i=gL b.legs i) (Classical.propDecidable _)=z
   cases z<;>rfl) (m:=n) (by omega);rw[E,A];have J:(fL a.legs.length λj=>@decide (gL a.legs j=gL b.legs j) (Classical.propDecidable _))=true↔a.legs=b.legs:=by
   rw[<-ug ⟨[],[],[],0,0,0,[],[],[],[]⟩ Y,mn]
   simp only[dF]
  have M:(fL a.cB.length λj=>decide ((gT a.cB j).txn=(gT b.cB j).txn)&&(decide ((gT a.cB j).da=(gT b.cB j).da)&&@decide ((gT a.cB j).ops=(gT b.cB j).ops) (Classical.propDecidable _)))=true↔a.cB=b.cB:=by
   rw[<-ug ⟨0,0,[]⟩ Z,mn]
   simp only[du,dF,Ru]
  split
  ·rename_i F;split
   ·rename_i H;exact cF ⟨λ_=>⟨J.1 F,M.1 H⟩,λ_=>rfl⟩
   ·rename_i H;exact cF ⟨λh=>(by cases h),λh=>absurd (M.2 h.2) H⟩
  ·rename_i F;exact cF ⟨λh=>(by cases h),λh=>absurd (J.2 h.1) F⟩
 ·exact cF ⟨λh=>(by cases h),λh=>absurd (by rw[h.2]) y⟩
 ·exact cF ⟨λh=>(by cases h),λh=>absurd (by rw[h.1]) x⟩
theorem acM{s:cq}(e:s.length<2^28)(j:2^41<=n):JW n s=some (decide ((ed s).2=s.length/\(ed s).2<=9000)):=by
 unfold JW;rw[H9 e j];simp only[cu,en,fV,gv]
 by_cases h:(ed s).2=s.length
 ·have a:((ed s).2:Int)=s.length:=by omega
  rw[show decide (((ed s).2:Int)=s.length)=true by simpa using a,cL];exact congrArg some (decide_eq_decide.2 (by omega))
 ·have a:¬ ((ed s).2:Int)=s.length:=by omega
  rw[show decide (((ed s).2:Int)=s.length)=false by simpa using a,cN];exact congrArg some (gB (by omega)).symm
theorem Bz{a:List cE}(h:nZ a=true):iJ a/\a.length<=6/\∀l∈a,l.holds=[]:=by
 simp only[nZ,u5,pc,du,jh,dF,mn] at h;refine⟨⟨by omega,λl e=>?_⟩,by omega,λl e=>h.1 l e⟩;obtain⟨j,u,rfl⟩:=pD e;have:=(h.2.1 j u).1;rw[rR u] at this;exact Tk.1 this
def pB(s:cS):Prop:=(1<=s.id/\s.id<=2)/\nZ s.base=true/\s.log.length<=9000/\∃y,nB s.base [] (ed s.log).1=some y/\(if s.up=true then(ed s.log).2=s.log.length/\s.legs=y.1/\s.cB=y.2 else s.legs=[]/\s.cB=[])
theorem tV:qQ []:=⟨by simp,by simp⟩
theorem Rv{s:cS}(u:xC s)(D:2^41<=n):Ok (rm n s) λr=>r=true↔pB s:=by
 have P:=u.lg;unfold rm;rw[rG,cu];refine dS (dR (λx=>?_) λx=>cF ⟨λh=>(by cases h),λh=>?_⟩)
 rotate_left
 ·have:=h.1;simp only[kS] at x;exact absurd this x
 rw[dF] at x;rw[Oh (by have:=u.bl;omega) (λl F=>(u.bz l F).s) D,cu];refine dS (dR (λE=>?_) λE=>cF ⟨λh=>(by cases h),λh=>?_⟩)
 rotate_left
 ·have:=h.2.1;rw[E] at this;cases this
 obtain⟨A,Q,_⟩:=Bz E;refine dY (λH=>cF ⟨λh=>(by cases h),λh=>?_⟩) λH=>?_
 ·have:=h.2.2.1;simp only[fV] at H;omega
 simp only[fV] at H;rw[Sj (by omega) A D,cu];cases j:nB s.base [] (ed s.log).1 with
 |none=>
  simp only[dO,gE,cL];refine cF ⟨λh=>(by cases h),λh=>?_⟩;obtain⟨_,_,_,y,N,_⟩:=h;rw[j] at N;cases N
 |some y=>
  obtain⟨C,I,J,_⟩:=Cm (l:=y.1) (t:=y.2) A tV j;have R:=rB (s:=s.log) (by omega);simp only[dO,eN,cN];have M:pB s↔(if s.up=true then(ed s.log).2=s.log.length/\s.legs=y.1/\s.cB=y.2 else s.legs=[]/\s.cB=[]):=by
   constructor
   ·rintro⟨_,_,_,z,u,h⟩;rw[j] at u;cases u;exact h
   ·exactλh=>⟨x,E,by omega,y,j,h⟩
  rw[show(λr=>r=true↔pB s)=(λr=>r=true↔(if s.up=true then(ed s.log).2=s.log.length/\s.legs=y.1/\s.cB=y.2 else s.legs=[]/\s.cB=[])) from funext λr=>by rw[M]];cases U:s.up with
  |false=>
   simp only[gE,cL,iN,iD];refine ok_eq (λe=>cF ?_) λe=>cF ⟨λh=>(by cases h),λh=>absurd (by rw[h.1];rfl) e⟩;have:s.legs=[]:=nL.1 (by simp only[cP] at e;omega);rw[en,cP,dF];constructor
   ·intro h;exact⟨this,nL.1 (by omega)⟩
   ·intro h;rw[h.2];rfl
  |true=>
   simp only[eN,cN,gr];rw[acM (by omega) D,cu];refine dR (λe=>?_) λe=>cF ⟨λh=>(by cases h),λh=>?_⟩
   ·rw[dF] at e;refine agS (c8 (afu (n:=n) (a:=⟨s.id,s.base,s.log.take (ed s.log).2,true,y.1,y.2⟩) (b:=s) (λl F=>(C.2 l F).r) C.1 u.lr (by simp at J;show y.2.length<=20000;omega) (λt S=>by have:=(nP (I.t t S).2).2;omega) D) λr j=>cF j) λr j=>?_;rw[j];constructor
    ·rintro⟨a,b⟩;exact⟨e.1,a.symm,b.symm⟩
    ·rintro⟨_,a,b⟩;exact⟨a.symm,b.symm⟩
   ·rw[kS] at e;exact absurd ⟨h.1,by rw[h.1];omega⟩ e
theorem I0{s:cS}(e:xC s)(x:2^41<=n):yJ n s=some s:=by
 have H:=e.tl;unfold yJ;rw[yA (by have:=e.bl;omega) e.bz x,cu,yA (by have:=e.ll;omega) (λl y=>(e.lr l y).toph) x,cu];have j:∀m i:Nat,i<=s.cB.length->s.cB.length<m+i->AG n m i s {s with base:=s.base,legs:=s.legs,cB:=s.cB.take i} (λA=>some A)=some s:=by
  intro m
  induction m with
  |zero=>intro i C D;omega
  |succ m E=>
   intro i C D
   by_cases u:i<s.cB.length
   ·have a:cA (i:Int) (cz s.cB)=true:=by rw[dv,cP];simp;omega
    have F:=e.tz _ (dG u);rw[AG,a,cL,dt u,cu,fH (by simp;omega) (by omega),cu,fH (by simp;omega) (by omega),cu,dE (by omega)];have:s.cB.take i++[{s.cB[i] with ops:=[]++s.cB[i].ops}]=s.cB.take (i+1):=by
     rw[mi u];rfl
    dsimp only;rw[this];exact E (i+1) (by omega) (by omega)
   ·have:i=s.cB.length:=by omega
    subst this;have a:cA (s.cB.length:Int) (cz s.cB)=false:=by rw[dv,cP];simp
    rw[AG,a,cN,sD]
 exact j n 0 (by omega) (by omega)
def Pt(s:cS):List cR:=(s.cB.filter λt=>decide (t.da=1)).map λt=>⟨5,s.id,0,t.txn,[],false⟩
theorem aen{s:cS}(C:s.cB.length<=20000)(D:2^41<=n):Ez n s=some (Pt s):=by
 have j:∀m i:Nat,i<=s.cB.length->s.cB.length<m+i->∀a:List cR,a.length<=i->yi n m a i s some=some (a++((s.cB.drop i).filter λt=>decide (t.da=1)).map λt=>⟨5,s.id,0,t.txn,[],false⟩):=by
  intro m
  induction m with
  |zero=>intro i y A;omega
  |succ m u=>
   intro i y A a E
   by_cases x:i<s.cB.length
   ·have e:cA (i:Int) (cz s.cB)=true:=by rw[dv,cP];simp;omega
    rw[yi,e,cL,dt x,cu,dE (by omega),kR x,List.filter_cons,en]
    by_cases h:s.cB[i].da=1
    ·simp only[h,fU,cL,cu,gr];rw[fH (by simp;omega) (by omega),cu,u (i+1) (by omega) (by omega) _ (by simp;omega)];simp
    ·simp only[h,gF,cN,iN,iD];exact u (i+1) (by omega) (by omega) a (by omega)
   ·have:i=s.cB.length:=by omega
    subst this;have e:cA (s.cB.length:Int) (cz s.cB)=false:=by rw[dv,cP];simp
    rw[yi,e,cN,q7];simp
 exact j n 0 (by omega) (by omega) [] (by simp)
def kj(s:cS):cS:=if s.up=true then s else match nB s.base [] (ed s.log).1 with
 |some y=>⟨s.id,s.base,s.log.take (ed s.log).2,true,y.1,y.2⟩
 |none=>s
theorem Vb{s:cS}(j:s.log.length<100000)(a:iJ s.base)(e:2^41<=n):Bw n s=some (kj s):=by
 unfold Bw kj;cases u:s.up with
 |true=>rfl
 |false=>
  rw[Sj (by omega) a e];simp only[cN,cu,iN,iD];cases nB s.base [] (ed s.log).1<;>rfl
def qE(s:cS)(a:cq):Option cS:=match tF s.log a with
 |none=>none
 |some log=>match oc s.legs s.cB a with
  |none=>none
  |some y=>some {s with log:=log,legs:=y.1,cB:=y.2}
theorem M6{s:cS}{record:cq}(A:s.log.length<100000)(C:record.length<100000)(h:iJ s.legs)(D:s.cB.length<=20000)(e:2^41<=n):vT n s record=some (match qE s record with|some x=>(x,true)|none=>(s,false)):=by
 unfold vT qE;rw[M1 (by omega) (by omega) e,cu];cases E:tF s.log record with
 |none=>rfl
 |some u=>
  simp only[dO,eN,cN];have a:=Sh (n:=n) (s:=s) (record:=record) (by omega) h (by omega) e;cases j:oc s.legs s.cB record with
  |none=>
   rw[j] at a;obtain⟨x,hx⟩:=a;rw[hx];rfl
  |some y=>
   rw[j] at a;simp only at a;rw[a];rfl
def Gl(m:cR):cq:=(if m.yes=true then[67,32] else[65,32])++itoa m.txn
def K3(s:cS)(m:cR):cS×List cR:=
 let a:=iz s.cB m.txn
 let e:=if 0<=a then(gT s.cB a.toNat).da else 0
 if e=1 then match qE s (Gl m) with
  |some x=>(x,[⟨4,s.id,0,m.txn,[],m.yes⟩])
  |none=>(s,[])
 else if(if m.yes=true then e=2 else e≠2) then(s,[⟨4,s.id,0,m.txn,[],m.yes⟩]) else(s,[])
theorem aaY{s:cS}{m:cR}(Q:1<=m.txn/\m.txn<=99)(C:s.log.length<100000)(h:iJ s.legs)(D:s.cB.length<=20000)(e:2^41<=n):Hy n s m=some (K3 s m):=by
 have F:=ki (x:=m.txn) (by omega) (by omega);have hC:cV [67,32] (itoa m.txn)=some ([67,32]++itoa m.txn):=fP (by simp;omega);have H:cV [65,32] (itoa m.txn)=some ([65,32]++itoa m.txn):=fP (by simp;omega);have I:=M6 (n:=n) (s:=s) (record:=[67,32]++itoa m.txn) C (by simp;omega) h D e;have J:=M6 (n:=n) (s:=s) (record:=[65,32]++itoa m.txn) C (by simp;omega) h D e;unfold Hy K3 Gl;rw[OZ (by omega) e];simp only[cu,mS e (show-9000000000000000000<=m.txn/\m.txn<=9000000000000000000 by omega),hC,H,I,J,gv]
 by_cases j:0<=iz s.cB m.txn
 ·obtain⟨k,M,u,N⟩:=Ca j;have d1:decide ((0:Int)<=(k:Int))=true:=by simp
  have P:(0:Int)<=(k:Int):=by omega
  rw[M,d1,cL,eG u ⟨0,0,[]⟩,cJ P,fB];simp only[cu,en]
  by_cases a:(gT s.cB k).da=1
  ·rw[cJ a];cases E:m.yes with
   |true=>
    simp only[a,fU,cL,gr];cases qE s ([67,32]++itoa m.txn)<;>rfl
   |false=>
    simp only[a,fU,cL,cN,iN,iD];cases qE s ([65,32]++itoa m.txn)<;>rfl
  ·rw[cK a];cases E:m.yes with
   |true=>
    simp only[a,gF,cL,cN,gr,dO,eN]
    by_cases y:(gT s.cB k).da=2<;>simp only[y,fU,gF,cL,cN,gr,iD]
   |false=>
    simp only[a,gF,cL,cN,iN,iD,dO,gE]
    by_cases y:(gT s.cB k).da=2<;>simp only[y,fU,gF,eN,gE,cL,cN,gr,iD,LQ,not_true_eq_false,Y1]
 ·have A:decide (0<=iz s.cB m.txn)=false:=by simpa using j
  rw[A,cN,cK j,cK (by decide)];cases E:m.yes with
  |true=>rfl
  |false=>rfl
def F9(m:cR):cq:=[80,32]++itoa m.txn++[32]++gG m.ops
def KQ(s:cS)(m:cR):cS×List cR:=
 let a:=iz s.cB m.txn
 if 0<=a then(s,[⟨2,s.id,0,m.txn,[],!decide ((gT s.cB a.toNat).da=3)⟩])
 else if iS m.ops=true then match qE s (F9 m) with
  |some x=>(x,[⟨2,s.id,0,m.txn,[],true⟩])
  |none=>(s,[⟨2,s.id,0,m.txn,[],false⟩])
 else(s,[⟨2,s.id,0,m.txn,[],false⟩])
theorem Z0{s:cS}{m:cR}(J:1<=m.txn/\m.txn<=99)(A:xi m.ops)(C:s.log.length<100000)(h:iJ s.legs)(D:s.cB.length<=20000)(a:2^41<=n):Hm n s m=some (KQ s m):=by
 have E:=ki (x:=m.txn) (by omega) (by omega);unfold Hm KQ F9;rw[OZ (by omega) a];simp only[cu,gv]
 by_cases e:0<=iz s.cB m.txn
 ·obtain⟨k,F,j,H⟩:=Ca e;have d1:decide ((0:Int)<=(k:Int))=true:=by simp
  have I:(0:Int)<=(k:Int):=by omega
  rw[F,d1,cL,eG j ⟨0,0,[]⟩,cJ I,fB];rfl
 ·have u:decide (0<=iz s.cB m.txn)=false:=by simpa using e
  rw[u,cN,cK e,VZ A a,cu];cases y:iS m.ops with
  |false=>rfl
  |true=>
   have M:=IY (nP y).1;have N:=(nP y).2;simp only[dO,eN,cN,gr,mS a (show-9000000000000000000<=m.txn/\m.txn<=9000000000000000000 by omega),cu];rw[fP (by simp;omega),cu,fP (by simp;omega),cu,QU A a,cu,y,cJ rfl,fP (by simp;omega),cu];rw[M6 C (by simp;omega) h D a,cu];cases qE s ([80,32]++itoa m.txn++[32]++gG m.ops)<;>rfl
def zm(s:cS)(m:cR):cS×List cR:=
 if s.up=true/\m.to=s.id/\m.cI=0/\1<=m.txn/\m.txn<=99 then(if m.kind=1 then KQ s m else if m.kind=3 then K3 s m else(s,[])) else(s,[])
theorem aeo{s:cS}{m:cR}(D:xi m.ops)(x:s.log.length<100000)(h:iJ s.legs)(y:s.cB.length<=20000)(A:2^41<=n):Bv n s m=some (zm s m):=by
 unfold Bv zm;simp only[rG,cu,dO,en]
 by_cases a:s.up=true
 ·by_cases e:m.to=s.id
  ·by_cases u:m.cI=0
   ·by_cases j:1<=m.txn/\m.txn<=99
    ·rw[cJ ⟨a,e,u,j⟩,Z0 j D x h y A,aaY j x h y A];simp only[a,e,u,j,ua,fU,eN,cN,cu]
     by_cases C:m.kind=1
     ·simp[C]
     ·by_cases E:m.kind=3<;>simp[C,E]
    ·rw[cK (λh=>j h.2.2.2)];simp[a,e,u,j]
   ·rw[cK (λh=>u h.2.2.1)];simp[a,e,u]
  ·rw[cK (λh=>e h.2.1)];simp[a,e]
 ·rw[cK (λh=>a h.1)];simp[a]
end
end
section
section
variable{n:Nat}{l:cE}
theorem TE{c:Nat}(H:l.dq.length=3)(I:l.holds.length<2^29)(a:c<=3)(J:2^41<=n):D4 n l c=some (used l c):=by
 have e:eR l.dq (c:Int) (cz l.dq)=some (l.dq.drop c):=by
  unfold eR cz
  rw[cJ (by omega)]
  simp[xN]
 have y:=λk=>Cy (xs:=l.dq.drop c) (by simp;omega) (L:=λm j x=>Aq n m c x (l.dq.drop c) (cz (l.dq.drop c)) j l k) (G:=λxs x=>k (c:Int) (xs.foldl (cw .i64) x) l) (λm x=>by simp[go_sem,Aq]) (λm i h u x=>by
  have a:decide ((i:Int)<(l.dq.drop c).length)=true:=by simp only[dF];omega
  simp only[Aq,dv,cP,dt h,a,cL,cu,vt]
  exact u _) (m:=n) (by simp;omega) 0;have A:=Cy (xs:=l.holds) (by omega) (L:=λm j x=>vB n m c x l.holds (cz l.holds) j some) (G:=λC x=>some (uV C c x)) (λm x=>by simp[go_sem,vB,uV]) (λm i h u x=>by
  have a:cA (i:Int) (cz l.holds)=true:=by rw[dv,cP];simp;omega
  have e:uV (l.holds[i]::l.holds.drop (i+1)) c x=uV (l.holds.drop (i+1)) c (if(c:Int)<=l.holds[i].cls/\0<l.holds[i].cM then cw .i64 x l.holds[i].cM else x):=rfl
  rw[vB,a,cL,dt h,cu,u,u,e,gv,dv]
  by_cases D:(c:Int)<=l.holds[i].cls<;>by_cases E:0<l.holds[i].cM<;>simp[D,E]) (m:=n) (by omega);unfold D4;rw[e,cu];refine(y _).trans ?_;have F:wX l c 0=(l.dq.drop c).foldl (cw .i64) 0:=by unfold wX;rw[fB]
 rw[<-F];exact A _
theorem TF{c:Int}(D:l.holds.length<2^29)(E:2^41<=n):D5 n l c=some (ns l.holds c 0):=by
 have:=Cy (xs:=l.holds) (by omega) (L:=λm j x=>vC n m c x l.holds (cz l.holds) j some) (G:=λu x=>some (ns u c x)) (λm x=>by simp[go_sem,vC,ns]) (λm i h a x=>by
  have y:cA (i:Int) (cz l.holds)=true:=by rw[dv,cP];simp;omega
  have e:ns (l.holds[i]::l.holds.drop (i+1)) c x=ns (l.holds.drop (i+1)) c (if l.holds[i].cls=c/\l.holds[i].cM<0 then cQ .i64 x l.holds[i].cM else x):=rfl
  rw[vC,y,cL,dt h,cu,a,a,e,en,dv]
  by_cases A:l.holds[i].cls=c<;>by_cases C:l.holds[i].cM<0<;>simp[A,C]) (m:=n) (by omega) 0;exact this
theorem QW{xs:List Int}{hi:Int}(C:xs.length<2^29)(D:2^41<=n):EB n xs hi=some (fL xs.length λj=>decide (0<=gI xs j/\gI xs j<=hi)&&decide (0<j->gI xs j<=gI xs (j-1))):=by
 have:=kD (N:=xs.length) (by omega) (L:=λm i=>yk n m xs hi xs (cz xs) i (some true)) (P:=λj=>decide (0<=gI xs j/\gI xs j<=hi)&&decide (0<j->gI xs j<=gI xs (j-1))) (k:=some true) (r:=some false) (λm=>by simp[go_sem,yk]) (λm i h=>by
  have A:decide ((i:Int)<xs.length)=true:=by simp;omega
  simp only[yk,dv,cP,A,cL,eG h 0,cu,uK,dO]
  by_cases u:0<=gI xs i/\gI xs i<=hi
  ·simp only[u,ua,fU,eN,cN,mZ]
   by_cases x:0<i
   ·have a:decide ((0:Int)<i)=true:=by simp;omega
    have:cQ .i64 i 1=((i-1:Nat):Int):=by rw[ij];omega
    rw[a,cL,this,eG (show i-1<xs.length by omega) 0,cu]
    by_cases y:gI xs i<=gI xs (i-1)
    ·have e:decide (gI xs (i-1)<gI xs i)=false:=by simp only[kS];omega
     rw[e,cN,cJ (by rw[dF];exactλ_=>y)]
    ·have e:decide (gI xs (i-1)<gI xs i)=true:=by simp only[dF];omega
     rw[e,cL,cK (by rw[dF];exactλh=>y (h x))]
   ·have a:decide ((0:Int)<i)=false:=by simp;omega
    rw[a,cN,cJ (by rw[dF];exactλh=>absurd h x)]
  ·simp only[u,gF,gE,cL,xM,iN,iD]) (m:=n) (by omega);unfold EB;rw[this];cases fL xs.length λj=>decide (0<=gI xs j/\gI xs j<=hi)&&decide (0<j->gI xs j<=gI xs (j-1))<;>rfl
theorem Vc{h:dj}:ED n l h=some (decide (1<=h.txn/\h.txn<=99)&&(decide (0<=h.cls/\h.cls<=2)&&(decide (gj .i64 l.cap<=h.cM/\h.cM<=l.cap)&&!decide (h.cM=0)))):=by
 unfold ED B7 EC;simp only[uK,cu,dO,en];generalize decide (1<=h.txn/\h.txn<=99)=a;generalize decide (0<=h.cls/\h.cls<=2)=e;generalize decide (gj .i64 l.cap<=h.cM/\h.cM<=l.cap)=j;cases a<;>cases e<;>cases j<;>rfl
theorem Z1{xs:List Int}(C:xs.length<2^29)(D:2^41<=n):Hb n xs l=some (!fL xs.length λj=>decide (0<=gI xs j/\gI xs j<=l.cap)):=by
 have y:LW n xs l=some (lW (λx=>!decide (0<=x/\x<=l.cap)) 0 xs):=
  wH (by omega) (L:=λm i=>zX n m xs (l,()) (cz xs) i (some (-1))) (f:=some) (λm=>by simp[go_sem,zX]) (λm i h=>by
   have A:decide ((i:Int)<xs.length)=true:=by simp;omega
   simp only[zX,dv,cP,A,cL,dt h,cu,MW,uK,dO]
   generalize decide (0<=xs[i]/\xs[i]<=l.cap)=z
   cases z<;>rfl) (by omega);unfold Hb;rw[y,cu,gv]
 congr 1
 rcases qu (p:=λx:Int=>!decide (0<=x/\x<=l.cap)) (xs:=xs) (i:=0) with⟨e,a⟩|⟨j,u,e,a,_⟩
 ·rw[e];have:fL xs.length (λj=>decide (0<=gI xs j/\gI xs j<=l.cap))=true:=mn.2 λj u=>by
   have:=a _ (OU u)
   simpa using this
  rw[this];rfl
 ·rw[e];have:fL xs.length (λj=>decide (0<=gI xs j/\gI xs j<=l.cap))=false:=by
   rw[<-pH,mn]
   intro h
   have:=h j u
   rw[F6 u] at this
   rw[this] at a
   cases a
  rw[this];simp
theorem ZC(R:l.dy.length=3)(I:l.dq.length=3)(E:l.holds.length<2^29)(F:2^41<=n):Hi n l=some (fL l.holds.length (λj=>(decide (1<=(gH l.holds j).txn/\(gH l.holds j).txn<=99)&&(decide (0<=(gH l.holds j).cls/\(gH l.holds j).cls<=2)&&(decide (gj .i64 l.cap<=(gH l.holds j).cM/\(gH l.holds j).cM<=l.cap)&&!decide ((gH l.holds j).cM=0))))&&decide (0<j->(gH l.holds (j-1)).txn<(gH l.holds j).txn))&&(fL 3 (nY l)&&decide ((l.holds.length:Int)<=6))):=by
 have J:=λk=>kD (N:=l.holds.length) (by omega) (L:=λm i=>xQ n m l.holds (cz l.holds) i l k) (P:=λj=>(decide (1<=(gH l.holds j).txn/\(gH l.holds j).txn<=99)&&(decide (0<=(gH l.holds j).cls/\(gH l.holds j).cls<=2)&&(decide (gj .i64 l.cap<=(gH l.holds j).cM/\(gH l.holds j).cM<=l.cap)&&!decide ((gH l.holds j).cM=0))))&&decide (0<j->(gH l.holds (j-1)).txn<(gH l.holds j).txn)) (k:=k l) (r:=some false) (λm=>by simp[go_sem,xQ]) (λm i h=>by
  have A:decide ((i:Int)<l.holds.length)=true:=by simp;omega
  simp only[xQ,dv,gv,cP,A,cL,eG h ⟨0,0,0⟩,cu,Vc,dO]
  generalize(decide (1<=(gH l.holds i).txn/\(gH l.holds i).txn<=99)&&(decide (0<=(gH l.holds i).cls/\(gH l.holds i).cls<=2)&&(decide (gj .i64 l.cap<=(gH l.holds i).cM/\(gH l.holds i).cM<=l.cap)&&!decide ((gH l.holds i).cM=0))))=z
  cases z with
  |false=>rfl
  |true=>
   simp only[eN,cN,mZ]
   by_cases H:0<i
   ·have e:decide ((0:Int)<i)=true:=by simp;omega
    have:cQ .i64 i 1=((i-1:Nat):Int):=by rw[ij];omega
    rw[e,cL,this,eG (show i-1<l.holds.length by omega) ⟨0,0,0⟩,cu]
    by_cases x:(gH l.holds (i-1)).txn<(gH l.holds i).txn
    ·have a:decide ((gH l.holds i).txn<=(gH l.holds (i-1)).txn)=false:=by simp only[kS];omega
     rw[a,cN,cJ (by rw[dF];exactλ_=>x)]
    ·have a:decide ((gH l.holds i).txn<=(gH l.holds (i-1)).txn)=true:=by simp only[dF];omega
     rw[a,cL,cK (by rw[dF];exactλh=>x (h H))]
   ·have e:decide ((0:Int)<i)=false:=by simp;omega
    rw[e,cN,cJ (by rw[dF];exactλh=>absurd h H)]) (m:=n) (by omega);have M:=λk=>kD (N:=3) (by omega) (L:=λm i=>Ag n m i l k) (P:=nY l) (k:=k l) (r:=some false) (λm=>by simp[go_sem,Ag]) (λm i h=>by
  have A:decide ((i:Int)<3)=true:=by simp;omega
  simp only[Ag,dv,A,cL,TE I E (show i<=3 by omega) F,TF E F,eG (show i<l.dy.length by omega) 0,eG (show i<l.dq.length by omega) 0,cu]
  by_cases C:used l i<=gI l.dy i
  ·have u:decide (gI l.dy i<used l i)=false:=by simp only[kS];omega
   rw[u,cN]
   by_cases x:ns l.holds i 0<=gI l.dq i
   ·have a:decide (gI l.dq i<ns l.holds i 0)=false:=by simp only[kS];omega
    have y:nY l i=true:=by simp only[nY,C,x,fU,Bool.and_self]
    rw[a,cN,cJ y]
   ·have a:decide (gI l.dq i<ns l.holds i 0)=true:=by simp only[dF];omega
    have y:¬ nY l i=true:=by simp only[nY,C,x,fU,gF,YN,iN,Y1]
    rw[a,cL,cK y]
  ·have u:decide (gI l.dy i<used l i)=true:=by simp only[dF];omega
   have y:¬ nY l i=true:=by simp only[nY,C,gF,xM,iN,Y1]
   rw[u,cL,cK y]) (m:=n) (by omega);unfold Hi;refine(J _).trans ?_;have:=M λD=>some (dz (cz D.holds) 6);rw[this];generalize fL l.holds.length _=Q;cases Q with
 |false=>rfl
 |true=>
  cases fL 3 (nY l) with
  |false=>rfl
  |true=>rfl
theorem aaZ(h:CN l)(hz:l.holds.length<2^29/\l.eu.length<2^29)(C:2^41<=n):JR n l=some (ku l):=by
 unfold JR;rw[Ia h.1 C,Ia h.2.1 C,Ia h.2.2 C];simp only[cu,uK,dO,kF,en,cP];have aa:∀{b:Bool},(b=true↔ku l=true)->some b=some (ku l):=λh=>by rw[G6.2 h]
 have a:ku l≠true->some false=some (ku l):=λh=>by rw[aiq.2 h]
 by_cases u:gy l.name=true
 rotate_left
 ·rw[pH] at u;rw[u];exact a λh=>by simp[ku,nk,u] at h
 by_cases x:gy l.cI=true
 rotate_left
 ·rw[pH] at x;rw[u,x];exact a λh=>by simp[ku,nk,x] at h
 by_cases y:gy l.to=true
 rotate_left
 ·rw[pH] at y;rw[u,x,y];exact a λh=>by simp[ku,nk,y] at h
 by_cases A:l.cI=l.to
 ·simp only[u,x,y,A,fU,eN,cL,cN];exact a λh=>by simp[ku,nk,A] at h
 by_cases D:0<=l.fb/\l.fb<=9999
 rotate_left
 ·simp only[u,x,y,A,D,gF,gE,cL,cN];exact a λh=>by simp only[ku,nk,du,dF] at h;exact D h.1.2.2.2.2.1
 by_cases E:cw .i64 l.fb 1<=l.arr/\l.arr<=9999
 rotate_left
 ·simp only[u,x,y,A,D,E,ua,fU,gF,gE,cL,cN];exact a λh=>by simp only[ku,nk,du,dF] at h;exact E h.1.2.2.2.2.2.1
 by_cases J:1<=l.cap/\l.cap<=9
 rotate_left
 ·simp only[u,x,y,A,D,E,J,ua,fU,gF,gE,cL,cN];exact a λh=>by simp only[ku,nk,du,dF] at h;exact J h.1.2.2.2.2.2.2.1
 by_cases P:(l.dy.length:Int)=3
 rotate_left
 ·simp only[u,x,y,A,D,E,J,P,ua,fU,gF,gE,cL,cN];exact a λh=>by simp only[ku,nk,du,dF] at h;exact P h.1.2.2.2.2.2.2.2.1
 have l3:l.dy.length=3:=by omega
 have Y:cm l.dy 0=some (gI l.dy 0):=eG (i:=0) (by omega) 0;simp only[u,x,y,A,D,E,J,P,ua,fU,gF,gE,cL,Y,cu,QW (n:=n) (xs:=l.dy) (hi:=l.cap) (by omega) C,QW (n:=n) (xs:=l.eu) (hi:=1000000000) (by omega) C]
 by_cases Q:(l.dq.length:Int)=3
 rotate_left
 ·have:ku l≠true:=λh=>by simp only[ku,nk,du,dF] at h;exact Q h.1.2.2.2.2.2.2.2.2.1
  simp only[Q,gF,cN];rw[aiq.2 this];generalize(fL l.dy.length λj=>decide (0<=gI l.dy j/\gI l.dy j<=l.cap)&&decide (0<j->gI l.dy j<=gI l.dy (j-1)))=F;generalize decide (gI l.dy 0=l.cap)=H;cases F<;>cases H<;>rfl
 have s3:l.dq.length=3:=by omega
 simp only[Q,fU,cL,Z1 (n:=n) (l:=l) (xs:=l.dq) (by omega) C,ZC l3 s3 hz.1 C,cu,Bool.not_not];have Z:∀(F H R S U z6:Bool),((F&&H&&R&&S&&U&&z6)=true↔ku l=true)->(cond F (cond H (cond R (cond S (cond U (some z6) (some false)) (some false)) (some false)) (some false)) (some false):Option Bool)=some (ku l):=λF H R S U z6 h=>by
  rw[<-G6.2 h]
  cases F<;>cases H<;>cases R<;>cases S<;>cases U<;>rfl
 refine Z _ _ _ _ _ _ ?_;rw[l3,s3];simp only[ku,nk,u,x,y,A,D,E,J,P,Q,qO,wY,ua,fU,gF,gE,mZ,du,dF,mn,lj,kS,xh];constructor
 ·rintro⟨⟨⟨⟨⟨h1,h2⟩,h3⟩,h4⟩,h5⟩,I,h7,h8⟩;exact⟨⟨h2,h4,by omega,λj e=>⟨h1 j e,h3 j e⟩,h5⟩,λj e=>⟨⟨⟨⟨(I j e).1.1,(I j e).2⟩,(I j e).1.2.1⟩,(I j e).1.2.2.2⟩,(I j e).1.2.2.1⟩,h7⟩
 ·rintro⟨⟨h2,h4,I,M,h5⟩,N,h7⟩;exact⟨⟨⟨⟨⟨λj e=>(M j e).1,h2⟩,λj e=>(M j e).2⟩,h4⟩,h5⟩,λj e=>⟨⟨(N j e).1.1.1.1,(N j e).1.1.2,(N j e).2,(N j e).1.2⟩,(N j e).1.1.1.2⟩,h7,by omega⟩
end
end
section
section
variable{n:Nat}{l:cE}
theorem od{a b:Int}(h:a<b):cA a b=true:=by rw[dv];exact gu h
theorem CQ{a b:Int}(h:¬ a<b):cA a b=false:=by rw[dv];exact gB h
theorem Sl{a:List cE}{name:cq}(u:a.length<2^29)(x:2^41<=n):Fp n a name=some (ky a name):=by
 have e:LX n a name=some (ky a name):=
  wH (by omega) (L:=λm i=>zY n m a (name,()) (cz a) i (some (-1))) (f:=some) (p:=λl:cE=>decide (l.name=name)) (λm=>by simp[go_sem,zY]) (λm i h=>by
   have j:cA (i:Int) (cz a)=true:=by rw[dv,cP];simp;omega
   rw[zY,j,cL,dt h,cu]
   simp only[MX,cu,kF]
   cases decide (a[i].name=name)<;>rfl) (by omega);unfold Fp;rw[e,cu]
theorem ZD{a:List cE}(x:a.length<2^29)(E:2^41<=n):IL n a=some (!a.all λl=>decide (l.holds=[])):=by
 have A:LY n a=some (lW (λl:cE=>cA 0 (cz l.holds)) 0 a):=
  wH (by omega) (L:=λm i=>zZ n m a (cz a) i (some (-1))) (f:=some) (p:=λl:cE=>cA 0 (cz l.holds)) (λm=>by simp[go_sem,zZ]) (λm i h=>by
   have C:cA (i:Int) (cz a)=true:=by rw[dv,cP];simp;omega
   rw[zZ,C,cL,dt h,cu]
   simp only[Mj,cu]
   cases cA 0 (cz a[i].holds)<;>rfl) (by omega);have y:∀l:cE,cA 0 (cz l.holds)=!decide (l.holds=[]):=λl=>by
  rw[dv,cP]
  cases l.holds<;>simp
 unfold IL LS;rw[A];simp only[cu,gv]
 congr 1
 rcases qu (p:=λl:cE=>cA 0 (cz l.holds)) (xs:=a) (i:=0) with⟨e,u⟩|⟨j,D,e,u,_⟩
 ·rw[e];have:(a.all λl=>decide (l.holds=[]))=true:=jh.2 λl x=>by
   have:=u l x
   rw[y] at this
   simpa using this
  rw[this];rfl
 ·rw[e];have:(a.all λl=>decide (l.holds=[]))=false:=by
   rw[<-pH,jh]
   intro h
   have:=h _ (dG D)
   rw[y,this] at u
   cases u
  rw[this];simp
theorem TG{u:Type}{p:u->Bool}{xs:List u}{i:Nat}(C:i<xs.length)(x:p xs[i]=true):lW p 0 xs=i↔∀k(y:k<i),p (xs[k]'(by omega))=false:=by
 rcases qu (p:=p) (xs:=xs) (i:=0) with⟨e,a⟩|⟨j,E,e,a,A⟩
 ·have:=a _ (dG C);rw[x] at this;cases this
 ·rw[e];constructor
  ·intro h k y;have:j=i:=by omega
   subst this;exact A k y
  ·intro h
   by_cases c:j<i
   ·have:=h j c;rw[a] at this;cases this
   ·by_cases D:i<j
    ·have:=A i D;rw[x] at this;cases this
    ·omega
theorem aa0{a:List cE}(R:a.length<2^28)(h:∀l∈a,ph l)(H:2^41<=n):JS n a=some (u5 a):=by
 have:=λk=>kD (N:=a.length) (by omega) (L:=λm i=>Bi n m a a (cz a) i k) (P:=pc a) (k:=k a) (r:=some false) (λm=>by simp[go_sem,Bi]) (λm i y=>by
  have J:cA (i:Int) (cz a)=true:=by rw[dv,cP];simp;omega
  have C:=h _ (dG y)
  have e:eR a 0 (i:Int)=some (a.take i):=by unfold eR;rw[cJ (by omega)];simp
  rw[Bi,J,cL,dt y,cu,aaZ C.s ⟨by have:=C.z4;omega,by have:=C.z3;omega⟩ H,cu,e,cu,Sl (by simp;omega) H,cu,gv]
  have D:=rR y
  cases I:ku a[i] with
  |false=>
   have:¬ pc a i=true:=by unfold pc;rw[D,I];simp
   rw[cK this]
   rfl
  |true=>
   simp only[dO,eN,cN]
   have x:0<=ky (a.take i) a[i].name↔¬ lW (λl=>decide (l.name=a[i].name)) 0 a=i:=by
    rw[TG y (by simp)]
    constructor
    ·intro E A
     obtain⟨k,M,F,u⟩:=J3 E
     rw[kh] at F
     have:=A k (by omega)
     rw[rR (by simp;omega)] at u
     simp at u this
     exact this u
    ·intro E
     unfold ky
     rcases qu (p:=λl:cE=>decide (l.name=a[i].name)) (xs:=a.take i) (i:=0) with⟨Q,A⟩|⟨j,S,Q,A,_⟩
     ·exfalso
      apply E
      intro k M
      exact A _ (by
       have:(a.take i)[k]'(by simp;omega)=a[k]:=by simp
       rw[<-this];exact dG _)
     ·omega
   by_cases c:0<=ky (a.take i) a[i].name
   ·have:¬ pc a i=true:=by
      unfold pc
      rw[D]
      simp only[du,dF]
      exactλh=>x.1 c h.2
    rw[cK this,show decide (0<=ky (a.take i) a[i].name)=true by simpa using c]
    rfl
   ·have:pc a i=true:=by
      unfold pc
      rw[D,I]
      simp only[mZ,dF]
      exact Classical.not_not.1 λh=>c (x.2 h)
    rw[cJ this,show decide (0<=ky (a.take i) a[i].name)=false by simpa using c]
    rfl) (m:=n) (by omega);unfold JS u5;rw[this];cases fL a.length (pc a)<;>simp[go_sem]
theorem agj{xs:List Int}:HU n xs=some xs:=by
 unfold HU;simp[kr,oY,fC,cp,cz,tf,cu]
theorem agk{xs:List dj}:HV n xs=some xs:=by
 unfold HV;simp[kr,oY,fC,cp,cz,tf,cu]
theorem O1{xs:List Int}(h:xs.length<4294967296):A5 n xs=some xs:=by
 unfold A5 ET;rw[cJ h,cu,agj,cu]
theorem Ks{xs:List dj}(h:xs.length<4294967296):yt n xs=some xs:=by
 unfold yt EU;rw[cJ h,cu,agk,cu]
theorem acN(h:ph l):Hn n l=some l:=by
 unfold Hn;rw[O1 (by have:=h.z1;omega),cu,O1 (by have:=h.z2;omega),cu,O1 (by have:=h.z3;omega),cu,Ks (by have:=h.z4;omega),cu]
theorem HC{net:List cE}(E:net.length<=100000)(h:∀l∈net,ph l)(F:2^41<=n):wc n net=some net:=by
 unfold wc;have e:xj 168 (cz net) (cz net) (cE.mk [] [] [] 0 0 0 [] [] [] [])=some (List.replicate net.length (cE.mk [] [] [] 0 0 0 [] [] [] [])):=by
  unfold xj cz
  rw[cJ (by omega)]
  simp
 rw[e,cu];have a:∀m i:Nat,i<=net.length->net.length<m+i->AK n m (net.take i++List.replicate (net.length-i) (cE.mk [] [] [] 0 0 0 [] [] [] [])) net (cz net) i some=some net:=by
  intro m
  induction m with
  |zero=>intro i A C;omega
  |succ m D=>
   intro i A C
   by_cases j:i<net.length
   ·have u:cA (i:Int) (cz net)=true:=by rw[dv,cP];simp;omega
    have x:i<(net.take i++List.replicate (net.length-i) (cE.mk [] [] [] 0 0 0 [] [] [] [])).length:=by simp;omega
    rw[AK,u,cL,dt j,cu,acN (h _ (dG j)),cu,dt x,cu,cu,dE (by omega)];have:db (net.take i++List.replicate (net.length-i) (cE.mk [] [] [] 0 0 0 [] [] [] [])) (i:Int) net[i]=net.take (i+1)++List.replicate (net.length-(i+1)) (cE.mk [] [] [] 0 0 0 [] [] [] []):=by
     have y:(net.take i).length=i:=by simp;omega
     rw[show net.length-i=(net.length-(i+1))+1 by omega,C8]
     unfold db
     rw[fB,air _ _ (by omega),y,vq,ais,mi j,jW]
     rfl
    rw[this];exact D (i+1) (by omega) (by omega)
   ·have:i=net.length:=by omega
    subst this;have u:cA (net.length:Int) (cz net)=false:=by rw[dv,cP];simp
    rw[AK,u,cN];simp
 have:=a n 0 (by omega) (by omega);simpa using this
theorem TH{txn:Int}(j:l.holds.length<2^29)(u:2^41<=n):D7 n l txn=some (lW (λh=>decide (h.txn=txn)) 0 l.holds):=by
 have a:LV n l.holds txn=some (lW (λh:dj=>decide (h.txn=txn)) 0 l.holds):=
  wH (by omega) (L:=λm i=>zW n m l.holds (txn,()) (cz l.holds) i (some (-1))) (f:=some) (λm=>by simp[go_sem,zW]) (λm i h=>by
   have e:cA (i:Int) (cz l.holds)=true:=by rw[dv,cP];simp;omega
   rw[zW,e,cL,dt h,cu]
   simp only[L8,cu,en]
   cases decide (l.holds[i].txn=txn)<;>rfl) (by omega);unfold D7;rw[a,cu]
theorem TJ{y:List dj}{u:Int}(A:sx y):lW (λh=>decide (h.txn=u)) 0 y=if jz u y=true then((fw u y:Nat):Int) else-1:=by
 cases D:jz u y with
 |true=>
  obtain⟨a,x,b,e,F,H,C,J⟩:=Ea A D;rw[cJ rfl,F];subst e;rw[TG (by simp) (by simp[H])];intro k E;have:(a++x::b)[k]'(by simp;omega)=a[k]:=by simp[List.getElem_append,E]
  rw[this];have:=C _ (dG E);simp;omega
 |false=>
  rw[cK (by simp)];rcases qu (p:=λh:dj=>decide (h.txn=u)) (xs:=y) (i:=0) with⟨e,_⟩|⟨j,I,e,C,_⟩
  ·exact e
  ·have:=(Tl A).2 ⟨_,dG I,by simpa using C⟩;rw[D] at this;cases this
theorem TK(a:gP l)(E:2^41<=n){c:Nat}(J:c<=2):D8 n l c=some (iH l c):=by
 have C:=a.cap;have F:∀m j x,j<=c+1->c+1<m+j->As n m c x j l some=some ((List.range' j (c+1-j)).foldl (λx i=>min x (gI l.dy i-mg l i)) x):=by
  intro m
  induction m with
  |zero=>intro j x A y;omega
  |succ m H=>
   intro j x A y
   by_cases D:j<=c
   ·have M:=Oo a (show j<3 by omega);have N:=sY a (show j<3 by omega);have e:cQ .i64 (gI l.dy j) (mg l j)=gI l.dy j-mg l j:=lJ (by omega) (by omega) (by omega) (by omega);have u:dz (j:Int) c=true:=by rw[gv];simp;omega
    have I:j<l.dy.length:=by have:=a.l3;omega
    rw[As,u,cL,eG I 0,cu,TE a.s3 (by have:=a.h6;omega) (by omega) E,cu,(Kn a j).1,e,dE (by omega),H (j+1) _ (by omega) (by omega),show c+1-j=(c+1-(j+1))+1 by omega,P4,vt]
    congr 2
    unfold zp;split
    ·rw[Qe (by omega)]
    ·rw[Qf (by omega)]
   ·have:j=c+1:=by omega
    subst this;have u:dz (((c+1:Nat)):Int) c=false:=by rw[gv];simp;omega
    rw[As,u,cN,vq,List.range'_zero,GY]
 have h:=F n 0 9 (by omega) (by omega);refine h.trans ?_
 congr 1
 refine ZW λz=>?_;rw[On];simp only[List.mem_range'_1,xD,vn,ia,Qc];have P:=Oo a (show 0<3 by omega);have Q:=a.l0;constructor
 ·rintro⟨A,y⟩;exact⟨by have:=y 0 (by omega);omega,λj D=>y j (by omega)⟩
 ·rintro⟨A,y⟩;exact⟨by omega,λj D=>y j (by omega)⟩
theorem aep(a:gP l)(j:2^41<=n):IQ n l=some (pA l):=by
 have y:=UX a (show 0<=2 by omega);have A:=a.b;unfold IQ pA;rw[show(0:Int)=((0:Nat):Int) from rfl,TK a j (by omega),cu,cP];have u:cQ .i64 (l.eu.length:Int) 1=l.eu.length-1:=lJ (by omega) (by omega) (by omega) (by omega);have x:zp (iH l 0) ((l.eu.length:Int)-1)=min (iH l 0) (l.eu.length-1):=by
  unfold zp
  split
  ·rw[Qe (by omega)]
  ·rw[Qf (by omega)]
 rw[u,x];obtain⟨r,e⟩:=gD (show 0<=min (iH l 0) ((l.eu.length:Int)-1) by omega);rw[e,eG (by omega) 0,cu];rfl
theorem aeq{h:dj}{a:Int}(j:gP l)(y:2^41<=n):IS n l h a=some (rW l h a):=by
 have U:=j.cap;have Y:=j.h6;unfold IS rW;rw[TH (by omega) y,cu,TJ j.nJ,Vc,cP];simp only[cu,gv,en,dv,dO];rw[vV (show-1000000<=l.cap by omega) (by omega)];cases Z:jz h.txn l.holds with
 |true=>
  have:decide (0<=((fw h.txn l.holds:Nat):Int))=true:=by simp
  simp only[gr,this,cL,eN,xM]
 |false=>
  have:decide ((0:Int)<=-1)=false:=rfl;simp only[iN,iD,this,cN,gE,mZ]
  by_cases F:(l.holds.length:Int)=6
  ·have u:decide ((6:Int)<=l.holds.length)=true:=by simp;omega
   have e:decide ((l.holds.length:Int)=6)=true:=by simpa using F
   rw[u,e];rfl
  ·have u:decide ((6:Int)<=l.holds.length)=false:=by simp;omega
   have e:decide ((l.holds.length:Int)=6)=false:=by simpa using F
   rw[u,e];simp only[cN,gE,mZ]
   by_cases C:1<=h.txn/\h.txn<=99
   rotate_left
   ·rw[show decide (1<=h.txn/\h.txn<=99)=false by simpa using C];rfl
   by_cases D:0<=h.cls/\h.cls<=2
   rotate_left
   ·rw[show decide (1<=h.txn/\h.txn<=99)=true by simpa using C,show decide (0<=h.cls/\h.cls<=2)=false by simpa using D];rfl
   by_cases H:h.cM=0
   ·rw[show decide (h.cM=0)=true by simpa using H];simp
   by_cases I:-l.cap<=h.cM/\h.cM<=l.cap
   rotate_left
   ·rw[show decide (-l.cap<=h.cM/\h.cM<=l.cap)=false by simpa using I];simp
   rw[show decide (1<=h.txn/\h.txn<=99)=true by simpa using C,show decide (0<=h.cls/\h.cls<=2)=true by simpa using D,show decide (h.cM=0)=false by simpa using H,show decide (-l.cap<=h.cM/\h.cM<=l.cap)=true by simpa using I];simp only[gE,eN,mZ,cN];obtain⟨c,x⟩:=gD D.1;have E:c<=2:=by omega
   have b1:=sY j (show c<3 by omega);have b2:=UY j (show c<3 by omega);have M:D8 n l h.cls=some (iH l c):=by rw[x];exact TK j y E
   have N:cm l.dq h.cls=some (gI l.dq c):=by rw[x];exact eG (by have:=j.s3;omega) 0
   have P:D5 n l h.cls=some (ow l c):=by rw[TF (by omega) y,x,(Kn j c).2]
   have Q:h.cls.toNat=c:=by omega
   have R:cQ .i64 (gI l.dq c) (ow l c)=gI l.dq c-ow l c:=lJ (by omega) (by omega) (by omega) (by omega);have S:gj .i64 h.cM=-h.cM:=vV (by omega) (by omega);rw[M,N,P,Q];simp only[cu,R,S,aep j y]
   by_cases A:0<h.cM
   ·rw[show decide (0<h.cM)=true by simpa using A,cL,cJ A]
    by_cases J:h.cM<=iH l c
    ·rw[show decide (h.cM<=iH l c)=true by simpa using J];rfl
    ·rw[show decide (h.cM<=iH l c)=false by simpa using J];rfl
   ·rw[show decide (0<h.cM)=false by simpa using A,cN,cK A]
theorem afv{a:List cE}{k:Nat}{h:dj}(y:k<a.length)(C:(gL a k).holds.length<2^29)(D:2^41<=n){K:Int->Int->List cE->dj->Option (Bool×List cE)}:xZ n n k 0 a h K=K k (fw h.txn (gL a k).holds:Nat) a h:=by
 have u:cm a (k:Int)=some (gL a k):=eG y _;have:=KM (N:=(gL a k).holds.length) (by omega) (L:=λm i=>xZ n m k i a h K) (G:=λi=>K k ((i+fw h.txn ((gL a k).holds.drop i):Nat):Int) a h)
  (λm=>by
    have j:cA ((gL a k).holds.length:Int) (cz (gL a k).holds)=false:=CQ (show¬ ((gL a k).holds.length:Int)<((gL a k).holds.length:Nat) by omega)
    rw[xZ,u]
    simp only[cu,j,cN]
    simp[fw]) (λm i x A=>by
    have j:cA (i:Int) (cz (gL a k).holds)=true:=od (show(i:Int)<((gL a k).holds.length:Nat) by omega)
    rw[xZ,u]
    simp only[cu]
    rw[j,cL,dt x]
    simp only[cu]
    rw[kR x,H7]
    by_cases e:(gL a k).holds[i].txn<h.txn
    ·rw[cJ e,od e,cL,A];congr 2;omega
    ·rw[cK e,CQ e,cN];rfl) (m:=n) (by omega);simpa using this
theorem acO{a:List cE}{k:Nat}{h:dj}{share:Int}(j:k<a.length)(u:gP (gL a k))(x:2^41<=n):HW n (a,(k:Int)) h share=some (if rW (gL a k) h share=true then(true,a.set k (w6 (gL a k) h)) else(false,a)):=by
 have y:cm a (k:Int)=some (gL a k):=eG j _;have C:=u.h6;have A:=Fc (txn:=h.txn) (hs:=(gL a k).holds);unfold HW;dsimp only;rw[y];simp only[cu,aeq u x];cases D:rW (gL a k) h share with
 |false=>rfl
 |true=>
  simp only[dO,eN,cN,gr];refine(afv j (by omega) x).trans ?_;rw[y];simp only[cu];have e:BM n (gL a k).holds ((fw h.txn (gL a k).holds:Nat):Int) [h]=some (nz h (gL a k).holds):=by
   unfold BM nz
   rw[cJ ⟨by omega,by omega,rfl,by omega⟩,fB]
  rw[e,cu,Ks (by rw[To];omega),cu];have:dJ (cp (k:Int) (k:Int))=some ():=by rw[en];simp[tf]
  rw[this,cu];simp only[db,fB];rfl
theorem QX{txn:Int}{ops:List de}(F:ops.length<2^29)(C:2^41<=n):∀(m i:Nat)(a:List cE),i<=ops.length->ops.length<m+i->iJ a->match oU txn a (ops.drop i) with
  |some x=>xR n m txn ops (cz ops) i a (λt12=>some (true,t12))=some (true,x)
  |none=>∃y,xR n m txn ops (cz ops) i a (λt12=>some (true,t12))=some (false,y)
 |0,i,a,H,I,u=>by omega
 |m+1,i,a,H,I,u=>by
  have J:=u.1
  by_cases E:i<ops.length
  ·have j:cA (i:Int) (cz ops)=true:=by rw[dv,cP];simp;omega
   rw[xR,j,cL,dt E,cu,Sl (by omega) C,cu,kR E,oU]
   by_cases D:ky a ops[i].di<0
   ·have:cA (ky a ops[i].di) 0=true:=by rw[dv];simpa using D
    rw[this,cL,cJ D];exact⟨_,rfl⟩
   ·have M:cA (ky a ops[i].di) 0=false:=by rw[dv];simp;omega
    obtain⟨k,N,e,P⟩:=J3 (show 0<=ky a ops[i].di by omega);rw[M,cN,cK D,N,eG e ⟨[],[],[],0,0,0,[],[],[],[]⟩];simp only[cu,My,fB];have Q:=acO (n:=n) (h:=⟨txn,ops[i].cls,ops[i].cM⟩) (share:=ops[i].share) e (u.2 _ (wN e)) C;rw[Q,cu]
    by_cases A:rW (gL a k) ⟨txn,ops[i].cls,ops[i].cM⟩ ops[i].share=true
    ·rw[cJ A,cJ A];simp only[dO,eN,cN];rw[dE (by omega)];exact QX F C m (i+1) _ (by omega) (by omega) (u.set (Ou (u.2 _ (wN e)) A))
    ·rw[cK A,cK A];exact⟨_,rfl⟩
  ·have:i=ops.length:=by omega
   subst this;have j:cA (ops.length:Int) (cz ops)=false:=by rw[dv,cP];simp
   rw[xR,j,cN,q7];rfl
theorem acP{legs:List cE}{k:Nat}{txn:Int}{a:Bool}(C:k<legs.length)(y:gP (gL legs k))(H:2^41<=n):HX n (legs,(k:Int)) txn a=some (legs.set k (if a=true then qJ (gL legs k) txn else n5 (gL legs k) txn)):=by
 have I:cm legs (k:Int)=some (gL legs k):=eG C _;have Y:=y.h6;have F:=Fc (txn:=txn) (hs:=(gL legs k).holds);have u:legs.set k (gL legs k)=legs:=by rw[rR C,Qm]
 unfold HX;dsimp only;rw[I];simp only[cu,TH (n:=n) (l:=gL legs k) (txn:=txn) (by omega) H,TJ y.nJ];cases e:jz txn (gL legs k).holds with
 |false=>
  have J:qJ (gL legs k) txn=gL legs k:=by unfold qJ;rw[e];rfl
  have M:n5 (gL legs k) txn=gL legs k:=by unfold n5 j3;rw[e];rfl
  rw[cK (by simp),J,M,ite_self,u];rfl
 |true=>
  have D:fw txn (gL legs k).holds<(gL legs k).holds.length:=by
   unfold jz at e
   by_cases c:fw txn (gL legs k).holds<(gL legs k).holds.length
   ·exact c
   ·rw[mY (by omega)] at e;simp at e
  obtain⟨_,N,Z⟩:=yT (f:=λ_=>0) y.nJ e;have P:=y.hold _ N;have hs:cm (gL legs k).holds ((fw txn (gL legs k).holds:Nat):Int)=some (nK (gL legs k).holds txn):=eG D _;have Q:cA ((fw txn (gL legs k).holds:Nat):Int) 0=false:=by rw[dv];simp
  have j:yP n (gL legs k).holds ((fw txn (gL legs k).holds:Nat):Int) ((fw txn (gL legs k).holds+1:Nat):Int)=some (j3 txn (gL legs k).holds):=by
   unfold yP j3
   rw[cJ ⟨by omega,by omega,by omega,by omega⟩,fB,fB,cJ e]
  have A:dJ (cp (k:Int) (k:Int))=some ():=by rw[en];simp[tf]
  have R:=Tp (txn:=txn) (hs:=(gL legs k).holds);rw[cJ rfl,Q,cN,hs];simp only[cu];cases a with
  |false=>
   simp only[cN];rw[dE (by omega),j,cu,Ks (by omega),cu,A,cu];simp[db,n5]
  |true=>
   obtain⟨c,S⟩:=gD P.2.1.1;have h3:=y.s3;have U:cm (gL legs k).dq (nK (gL legs k).holds txn).cls=some (gI (gL legs k).dq (nK (gL legs k).holds txn).cls.toNat):=by
    rw[S,fB]
    exact eG (by omega) 0
   have E:∀x:cE,cm (db legs (k:Int) x) (k:Int)=some x:=λx=>by simp[cm,db,C]
   simp only[cL,U,cu,E];rw[dE (by omega),j,cu,Ks (by omega),cu,A,cu];simp only[gr,qJ,cJ e];simp[db,n5,pf]
theorem ZE{e:Int}{a:Bool}{legs:List cE}(h:iJ legs)(D:2^41<=n):rk n legs e a=some (mT legs e a):=by
 have I:=h.1;have y:∀m i:Nat,i<=legs.length->legs.length<m+i->AL n m e a (cz legs) i (mT (legs.take i) e a++legs.drop i) some=some (mT legs e a):=by
  intro m
  induction m with
  |zero=>intro i E F;omega
  |succ m H=>
   intro i E F
   by_cases A:i<legs.length
   ·have j:cA (i:Int) (cz legs)=true:=by rw[dv,cP];simp;omega
    have u:(mT (legs.take i) e a).length=i:=by simp[mT];omega
    have x:i<(mT (legs.take i) e a++legs.drop i).length:=by rw[eS,u,mF];omega
    have C:gL (mT (legs.take i) e a++legs.drop i) i=legs[i]:=by
     rw[rR x,List.getElem_append_right (by omega)]
     simp[u]
    rw[AL,j,cL,eG x ⟨[],[],[],0,0,0,[],[],[],[]⟩];simp only[cu];rw[acP x (by rw[C];exact h.2 _ (dG A)) D,cu,dE (by omega),C];have:(mT (legs.take i) e a++legs.drop i).set i (if a=true then qJ legs[i] e else n5 legs[i] e)=mT (legs.take (i+1)) e a++legs.drop (i+1):=by
     rw[air _ _ (by omega),u,vq,kR A,ais,mi A]
     unfold mT
     rw[mG,jW]
     rfl
    rw[this];exact H (i+1) (by omega) (by omega)
   ·have:i=legs.length:=by omega
    subst this;have j:cA (legs.length:Int) (cz legs)=false:=by rw[dv,cP];simp
    rw[AL,j,cN];simp
 have:=y n 0 (by omega) (by omega);unfold rk;simpa[mT] using this
end
end
section
section
variable{n:Nat}
theorem agl{xs:List de}:rh n xs=some xs:=by
 unfold rh;simp[kr,oY,fC,cp,cz,tf,cu]
theorem agm{xs:List eH}:H4 n xs=some xs:=by
 unfold H4;simp[kr,oY,fC,cp,cz,tf,cu]
theorem Ze{text:cq}(x:text.length<2^28)(y:Ps text)(A:2^41<=n):EE n text=some (jA text):=by
 obtain⟨r,e,C,D,E⟩:=Zd (n:=n) x A;rw[e]
 congr 1
 cases j:r.2 with
 |true=>
  obtain⟨a,b⟩:=C j;have:=Sg a (y _ a b);rw[<-b] at this;rw[this];exact C9 rfl j
 |false=>
  cases u:(jA text).2 with
  |true=>
   obtain⟨a,b,_⟩:=Ee u;have:=E _ a b;rw[this] at j;cases j
  |false=>
   rw[ZB u];exact C9 (D j) j
def zn(r:cq):Prop:=∀a b c,dr 32 r=[a,b,c]->Ps c
theorem aa1{s:cS}{a:Int}(u:s.cB.length<2^29)(x:2^41<=n):Hj n s a=some (iz s.cB a,s):=by
 have e:LU n s.cB a=some (iz s.cB a):=
  wH (by omega) (L:=λm i=>zV n m s.cB (a,()) (cz s.cB) i (some (-1))) (f:=some) (p:=λt:eH=>decide (t.txn=a)) (λm=>by simp[go_sem,zV]) (λm i h=>by
   have j:cA (i:Int) (cz s.cB)=true:=od (show(i:Int)<(s.cB.length:Nat) by omega)
   rw[zV,j,cL,dt h,cu]
   simp only[L3,cu,en]
   cases decide (s.cB[i].txn=a)<;>rfl) (by omega);unfold Hj;rw[e,cu]
theorem agW{e:List eH}{k:Nat}(j:k<e.length)(a b:Int):db (db e (k:Int) {gT e k with da:=a}) (k:Int) {({gT e k with da:=a}:eH) with da:=b}=rX e k b:=by
 simp[db,rX]
theorem aa2{b:cq}{v:Int}{j:Bool}(x:j=true->b=itoa v/\-9223372036854775808<=v/\v<=9223372036854775807)(y:∀u:Int,-1000000000000000000<u->u<1000000000000000000->b=itoa u->j=true/\v=u):(j=true->1<=v->v<=99->ea b=v)/\(1<=ea b->ea b<=99->j=true/\v=ea b):=by
 constructor
 ·intro h a c;rw[(x h).1,EH (by omega) (by omega)]
 ·intro a c;rcases Eb b with⟨u,e,_,A,_⟩|⟨e,_⟩
  ·have:=y u (by omega) (by omega) (by rw[nh];exact e);exact⟨this.1,by rw[this.2,A]⟩
  ·omega
theorem afw{s:cS}{r:cq}(hr:r.length<2^28)(hg:zn r)(h:iJ s.legs)(ht:qQ s.cB)(ap:s.cB.length<2^28)(R:2^41<=n):HY n s r=some (match oc s.legs s.cB r with|some y=>(true,{s with legs:=y.1,cB:=y.2})|none=>(false,s)):=by
 unfold HY oc;rw[show qA n r [32]=some (dr 32 r) from Jm (by omega),cu];have I:∀w∈dr 32 r,w.length<2^28:=λw hw=>by have:=uo hw;omega
 have hj:=acC 32 r;unfold zn at hg;generalize ae:dr 32 r=ws at I hj hg
 match ws with
 |[]=>exact absurd ae (Ft 32 r)
 |[a]=>rfl
 |a::b::j=>
  have af:cA (cz (a::b::j)) 2=false:=CQ (show¬ ((a::b::j).length:Int)<2 by simp;omega);have l0:cm (a::b::j) 0=some a:=rfl;have l1:cm (a::b::j) 1=some b:=rfl;obtain⟨v,D,S,U,ah⟩:=DO (n:=n) (s:=b) (by have:=I b (by simp);omega);obtain⟨Y,Z⟩:=aa2 U ah;rw[af,cN,l1,l0];simp only[cu,S,aa1 (n:=n) (s:=s) (by omega) R];have hE:j=[]->∀(F:Bool),(F=true↔D=true/\0<=iz s.cB v/\(gT s.cB (iz s.cB v).toNat).da=1/\(a=[67]\/a=[65]))->(F=true↔(a=[67]\/a=[65])/\0<=iz s.cB (ea b)/\(gT s.cB (iz s.cB (ea b)).toNat).da=1/\r=a++[32]++itoa (ea b))/\(F=true->ea b=v):=by
   intro J F E
   subst J
   have ai:r=a++32::b:=hj.symm
   have aa:∀x,0<=iz s.cB x->1<=x/\x<=99:=λx hx=>by
    obtain⟨k,_,A,ab⟩:=Ca hx
    have:=(ht.t _ (dG A)).1
    rw[<-Cz A,ab] at this
    exact this
   have P:F=true->ea b=v:=λu=>by
    obtain⟨H,C,_⟩:=E.1 u
    have:=aa v C
    exact Y H this.1 this.2
   refine⟨?_,P⟩
   constructor
   ·intro u;have e:=P u;obtain⟨H,C,Q,c4⟩:=E.1 u;rw[e];exact⟨c4,C,Q,by rw[ai,(U H).1];simp⟩
   ·rintro⟨c4,C,Q,c5⟩;have:=aa _ C;obtain⟨c6,c7⟩:=Z this.1 this.2;rw[E,c7];exact⟨c6,C,Q,c4⟩
  match j with
  |[]=>
   have e2:cp (cz [a,b]) 2=true:=rfl;have e3:cp (cz [a,b]) 3=false:=rfl;simp only[e2,e3,cN,dO,eN,kF]
   by_cases C:0<=iz s.cB v
   ·obtain⟨k,hk,A,ab⟩:=Ca C;have E:=hE rfl (D&&(decide ((gT s.cB k).da=1)&&(decide (a=[67])||decide (a=[65])))) (by
     rw[hk,fB]
     simp only[du,xL,dF]
     constructor
     ·rintro⟨d1,d2,d3⟩;exact⟨d1,by omega,d2,d3⟩
     ·rintro⟨d1,_,d2,d3⟩;exact⟨d1,d2,d3⟩);have ad:cA ((k:Nat):Int) 0=false:=CQ (by omega);have aj:∀x:eH,cm (db s.cB ((k:Nat):Int) x) ((k:Nat):Int)=some x:=λx=>by simp[cm,db,A]
    rw[hk,ad,eG A ⟨0,0,[]⟩];simp only[cu,cN,en,aj,agW A,ZE h R]
    by_cases u:(D&&(decide ((gT s.cB k).da=1)&&(decide (a=[67])||decide (a=[65]))))=true
    ·have ak:=E.1.1 u;have P:=E.2 u;rw[cJ ak,P,hk,fB];simp only[du,xL,dF] at u;obtain⟨d1,d2,d3⟩:=u;have hp:a≠[80]:=by rcases d3 with rfl|rfl<;>decide
     rw[show decide (a=[80])=false by simpa using hp,d1,show decide ((gT s.cB k).da=1)=true by simpa using d2];simp only[eN,cN];rcases d3 with rfl|rfl
     ·simp[rX,-List.getD_eq_getElem?_getD]
     ·simp[rX,db,-List.getD_eq_getElem?_getD]
    ·rw[cK (λh=>u (E.1.2 h))];rw[pH] at u;generalize decide (a=[80])=z0;generalize decide ((gT s.cB k).da=1)=z1 at u⊢;generalize decide (a=[67])=z2 at u⊢;generalize decide (a=[65])=z3 at u⊢;cases z0<;>cases D<;>cases z1<;>cases z2<;>cases z3<;>first|rfl|(simp at u)
   ·have am:=(V3 (show iz s.cB v<0 by omega)).1;have E:=hE rfl false (by simp;intro _ h;exact absurd h C);rw[cK (λh=>by cases E.1.2 h),am];have:cA (-1) 0=true:=rfl;rw[this];cases decide (a=[80])<;>cases D<;>rfl
  |[c]=>
   have e2:cp (cz [a,b,c]) 2=false:=rfl;have e3:cp (cz [a,b,c]) 3=true:=rfl;have l2:cm [a,b,c] 2=some c:=rfl;simp only[e2,e3,l2,cL,dO,gE,kF,cu,Ze (I c (by simp)) (hg a b c rfl) R,HC (n:=n) (net:=s.legs) (by have:=h.1;omega) (λl hl=>(h.2 l hl).z) R]
   by_cases H:a=[80]
   rotate_left
   ·rw[cK (λh=>H h.1),show decide (a=[80])=false by simpa using H];cases D<;>rfl
   rw[show decide (a=[80])=true by simpa using H,cL];have an:B7 n v=some (decide (1<=v/\v<=99)):=by unfold B7;rw[uK,cu]
   simp only[an,cu,gv]
   by_cases C:D=true/\1<=v/\v<=99
   ·obtain⟨d1,d2,d3⟩:=C;have P:=Y d1 d2 d3;rw[P,d1,show decide (1<=v/\v<=99)=true by simpa using⟨d2,d3⟩];simp only[eN,cN];cases ao:(jA c).2 with
    |false=>
     rw[cK (λh=>by cases h.2.2.2)];rfl
    |true=>
     simp only[eN,cN]
     by_cases Q:iz s.cB v<0
     ·have M:decide (0<=iz s.cB v)=false:=by simp;omega
      rw[cJ ⟨H,Q,⟨d2,d3⟩,trivial⟩,M,cN];have aq:=(nP (Ee ao).1).2;have N:=QX (n:=n) (txn:=v) (ops:=(jA c).1) (by omega) R n 0 s.legs (by omega) (by omega) h;rw[sE] at N;unfold L4;cases hA:oU v s.legs (jA c).1 with
      |none=>
       rw[hA] at N;obtain⟨y,hy⟩:=N;rw[show((0:Nat):Int)=0 from rfl] at hy;rw[hy];rfl
      |some x=>
       rw[hA] at N;simp only at N;rw[show((0:Nat):Int)=0 from rfl] at N;rw[N];simp only[cu,eN,cN];rw[fH (by simp;omega) (by omega),cu];rfl
     ·have M:decide (0<=iz s.cB v)=true:=by simp;omega
      rw[cK (λh=>Q h.2.1),M];rfl
   ·rw[cK (λh=>C (by
      obtain⟨_,_,⟨d2,d3⟩,_⟩:=h
      obtain⟨d4,d5⟩:=Z d2 d3
      exact⟨d4,by omega,by omega⟩))];have:(D&&decide (1<=v/\v<=99))=false:=by
     rw[<-pH,du,dF]
     exactλh=>C ⟨h.1,h.2⟩
    generalize decide (1<=v/\v<=99)=z at this⊢;cases D<;>cases(jA c).2<;>cases z<;>first|rfl|(simp at this)
  |c::d::j=>
   have e2:cp (cz (a::b::c::d::j)) 2=false:=by rw[en,cP];simp;omega
   have e3:cp (cz (a::b::c::d::j)) 3=false:=by rw[en,cP];simp;omega
   simp only[e2,e3,cN,dO,gE,kF];cases decide (a=[80])<;>cases D<;>rfl
theorem TL{rs:List cq}(A:∀r∈rs,r.length<2^28/\zn r)(E:rs.length<2^27)(C:2^41<=n):∀(m i:Nat)(x:cS),i<=rs.length->rs.length<m+i->iJ x.legs->qQ x.cB->x.cB.length<=i->Ac n m rs (cz rs) i x (λF=>some (F,true))=some (match nB x.legs x.cB (rs.drop i) with|some y=>({x with legs:=y.1,cB:=y.2},true)|none=>(⟨0,[],[],false,[],[]⟩,false))
 |0,i,x,H,I,e,j,J=>by omega
 |m+1,i,x,H,I,e,j,J=>by
  by_cases u:i<rs.length
  ·have a:cA (i:Int) (cz rs)=true:=od (show(i:Int)<(rs.length:Nat) by omega);have D:=A _ (dG u);rw[Ac,a,cL,dt u,cu,kR u,nB,afw D.1 D.2 e j (by omega) C,cu];cases M:oc x.legs x.cB rs[i] with
   |none=>rfl
   |some y=>
    obtain⟨N,P,Q,_⟩:=Kq (l:=y.1) (t:=y.2) e j M;simp only[dO,eN,cN];rw[dE (by omega)];exact TL A E C m (i+1) _ (by omega) (by omega) N P (by simp;omega)
  ·have:i=rs.length:=by omega
   subst this;have a:cA (rs.length:Int) (cz rs)=false:=CQ (show¬ (rs.length:Int)<(rs.length:Nat) by omega);rw[Ac,a,cN,q7];rfl
def pW(s:cq):Prop:=∀r∈(ed s).1,zn r
theorem Rw{s:cS}(j:s.log.length<100000)(x:pW s.log)(a:iJ s.base)(e:2^41<=n):Dm n s=some (match nB s.base [] (ed s.log).1 with|some y=>(⟨s.id,s.base,s.log.take (ed s.log).2,true,y.1,y.2⟩,true)|none=>(⟨0,[],[],false,[],[]⟩,false)):=by
 have A:=rB (s:=s.log) (by omega);unfold Dm;rw[ZA (by omega) e,cu];dsimp only;rw[HC (by have:=a.1;omega) (λl j=>(a.2 l j).z) e,cu,show fg s.log 0 ((ed s.log).2:Int)=some (s.log.take (ed s.log).2) by unfold fg;rw[cJ (by omega)];simp,cu,cu];have:=TL (n:=n) (rs:=(ed s.log).1) (λr u=>⟨by have:=NK (by omega) u;omega,x r u⟩) (by omega) e n 0 (cS.mk s.id s.base (s.log.take (ed s.log).2) true s.base []) (by omega) (by omega) a tV (by simp);rw[sE] at this;exact this
theorem PI{a b:List Int}(D:a.length<2^29)(E:2^41<=n):Ok (Bn n a b) λr=>r=true↔a=b:=by
 unfold Bn;refine dS (ok_eq (λu=>?_) λu=>cF ⟨λh=>(by cases h),λh=>absurd (by rw[h]) u⟩);have x:a.length=b.length:=by simp only[go_sem] at u;omega
 have A:=kD (N:=a.length) (by omega) (L:=λm i=>At n m a b (cz a) i (some true)) (P:=λj=>decide (gI a j=gI b j)) (k:=some true) (r:=some false) (λm=>by simp[go_sem,At]) (λm i C=>by
  have e:cA (i:Int) (cz a)=true:=od (show(i:Int)<(a.length:Nat) by omega)
  rw[At,e,cL,eG C 0,eG (show i<b.length by omega) 0,cu,cu,en,dO]
  cases decide (gI a i=gI b i)<;>rfl) (m:=n) (by omega);have y:(fL a.length λj=>decide (gI a j=gI b j))=true↔a=b:=by
  rw[<-ug 0 x,mn]
  simp only[dF]
 rw[A];split
 ·rename_i e;exact cF ⟨λ_=>y.1 e,λ_=>rfl⟩
 ·rename_i e;exact cF ⟨λh=>(by cases h),λh=>absurd (y.2 h) e⟩
theorem agX{a b:List dj}(D:a.length<2^29)(E:2^41<=n):Ok (HZ n a b) λr=>r=true↔a=b:=by
 unfold HZ;refine dS (ok_eq (λu=>?_) λu=>cF ⟨λh=>(by cases h),λh=>absurd (by rw[h]) u⟩);have x:a.length=b.length:=by simp only[go_sem] at u;omega
 have A:=kD (N:=a.length) (by omega) (L:=λm i=>Au n m a b (cz a) i (some true)) (P:=λj=>decide ((gH a j).txn=(gH b j).txn)&&(decide ((gH a j).cls=(gH b j).cls)&&decide ((gH a j).cM=(gH b j).cM))) (k:=some true) (r:=some false) (λm=>by simp[go_sem,Au]) (λm i C=>by
  have e:cA (i:Int) (cz a)=true:=od (show(i:Int)<(a.length:Nat) by omega)
  rw[Au,e,cL,eG C ⟨0,0,0⟩,eG (show i<b.length by omega) ⟨0,0,0⟩,cu,cu]
  simp only[fC,en,dO]
  generalize(decide ((gH a i).txn=(gH b i).txn)&&(decide ((gH a i).cls=(gH b i).cls)&&decide ((gH a i).cM=(gH b i).cM)))=z
  cases z<;>rfl) (m:=n) (by omega);have y:(fL a.length λj=>decide ((gH a j).txn=(gH b j).txn)&&(decide ((gH a j).cls=(gH b j).cls)&&decide ((gH a j).cM=(gH b j).cM)))=true↔a=b:=by
  rw[<-ug ⟨0,0,0⟩ x,mn]
  simp only[du,dF,QV]
 rw[A];split
 ·rename_i e;exact cF ⟨λ_=>y.1 e,λ_=>rfl⟩
 ·rename_i e;exact cF ⟨λh=>(by cases h),λh=>absurd (y.2 h) e⟩
theorem agY{a b:List de}(D:a.length<2^29)(E:2^41<=n):Ok (H2 n a b) λr=>r=true↔a=b:=by
 unfold H2;refine dS (ok_eq (λu=>?_) λu=>cF ⟨λh=>(by cases h),λh=>absurd (by rw[h]) u⟩);have x:a.length=b.length:=by simp only[go_sem] at u;omega
 have A:=kD (N:=a.length) (by omega) (L:=λm i=>Av n m a b (cz a) i (some true)) (P:=λj=>decide ((gO a j).di=(gO b j).di)&&(decide ((gO a j).cls=(gO b j).cls)&&(decide ((gO a j).cM=(gO b j).cM)&&decide ((gO a j).share=(gO b j).share)))) (k:=some true) (r:=some false) (λm=>by simp[go_sem,Av]) (λm i C=>by
  have e:cA (i:Int) (cz a)=true:=od (show(i:Int)<(a.length:Nat) by omega)
  rw[Av,e,cL,eG C ⟨[],0,0,0⟩,eG (show i<b.length by omega) ⟨[],0,0,0⟩,cu,cu]
  simp only[fC,en,kF,dO]
  generalize(decide ((gO a i).di=(gO b i).di)&&(decide ((gO a i).cls=(gO b i).cls)&&(decide ((gO a i).cM=(gO b i).cM)&&decide ((gO a i).share=(gO b i).share))))=z
  cases z<;>rfl) (m:=n) (by omega);have y:(fL a.length λj=>decide ((gO a j).di=(gO b j).di)&&(decide ((gO a j).cls=(gO b j).cls)&&(decide ((gO a j).cM=(gO b j).cM)&&decide ((gO a j).share=(gO b j).share))))=true↔a=b:=by
  rw[<-ug ⟨[],0,0,0⟩ x,mn]
  simp only[du,dF,Rs]
 rw[A];split
 ·rename_i e;exact cF ⟨λ_=>y.1 e,λ_=>rfl⟩
 ·rename_i e;exact cF ⟨λh=>(by cases h),λh=>absurd (y.2 h) e⟩
theorem Z2{a b:cE}:a=b↔a.name=b.name/\a.cI=b.cI/\a.to=b.to/\a.fb=b.fb/\a.arr=b.arr/\a.cap=b.cap/\a.dy=b.dy/\a.dq=b.dq/\a.eu=b.eu/\a.holds=b.holds:=by
 cases a;cases b;simp
theorem acQ{a b:cE}(u:ph a)(A:2^41<=n):Ok (Ho n a b) λr=>r=true↔a=b:=by
 have J:=u.z1;have M:=u.z2;have N:=u.z3;have P:=u.z4;have j:∀{p:Prop},(a=b->p)->¬ p->Ok (some false) λr=>r=true↔a=b:=λf h=>cF ⟨λh=>(by cases h),λe=>absurd (f e) h⟩;unfold Ho;refine n4 (λQ=>n4 (λR=>n4 (λS=>ok_eq (λU=>ok_eq (λY=>ok_eq (λZ=>c8 (PI (by omega) A) λx hx=>dR (λE=>c8 (PI (by omega) A) λy C=>dR (λF=>c8 (PI (by omega) A) λz D=>dR (λH=>c8 (agX (by omega) A) λw I=>cF ?_) λc=>?_) λc=>?_) λc=>?_) λc=>?_) λc=>?_) λc=>?_) λc=>?_) λc=>?_) λc=>?_
 ·rw[I,Z2];have:=hx.1 E;have:=C.1 F;have:=D.1 H
  simp_all
 ·exact j (λe=>D.2 (by rw[e])) (by simp[c])
 ·exact j (λe=>C.2 (by rw[e])) (by simp[c])
 ·exact j (λe=>hx.2 (by rw[e])) (by simp[c])
 ·exact j (λe=>by rw[e]) c
 ·exact j (λe=>by rw[e]) c
 ·exact j (λe=>by rw[e]) c
 ·exact j (λe=>by rw[e]) c
 ·exact j (λe=>by rw[e]) c
 ·exact j (λe=>by rw[e]) c
theorem aa3{a b:List cE}(H:a.length<2^29)(D:∀l∈a,ph l)(E:2^41<=n):Ok (H0 n a b) λr=>r=true↔a=b:=by
 unfold H0;refine c8 ?_ λx hx=>cF hx;unfold LZ;refine dS (ok_eq (λu=>?_) λu=>cF ⟨λh=>(by cases h),λh=>absurd (by rw[h]) u⟩);have y:a.length=b.length:=by simp only[go_sem] at u;omega
 have F:=kD (N:=a.length) (by omega) (L:=λm i=>z7 n m b a (cz a) i (some true)) (P:=λj=>@decide (gL a j=gL b j) (Classical.propDecidable _)) (k:=some true) (r:=some false) (λm=>by simp[go_sem,z7]) (λm i A=>by
  have e:cA (i:Int) (cz a)=true:=od (show(i:Int)<(a.length:Nat) by omega)
  rw[z7,e,cL,eG A ⟨[],[],[],0,0,0,[],[],[],[]⟩,eG (show i<b.length by omega) ⟨[],[],[],0,0,0,[],[],[],[]⟩,cu,cu,C5 (acQ (n:=n) (a:=gL a i) (b:=gL b i) (D _ (wN A)) E),cu,dO]
  generalize@decide (gL a i=gL b i) (Classical.propDecidable _)=z
  cases z<;>rfl) (m:=n) (by omega);have C:(fL a.length λj=>@decide (gL a j=gL b j) (Classical.propDecidable _))=true↔a=b:=by
  rw[<-ug ⟨[],[],[],0,0,0,[],[],[],[]⟩ y,mn]
  simp only[dF]
 rw[F];split
 ·rename_i e;exact cF ⟨λ_=>C.1 e,λ_=>rfl⟩
 ·rename_i e;exact cF ⟨λh=>(by cases h),λh=>absurd (C.2 h) e⟩
theorem aa4{a b:List eH}(S:a.length<2^29)(F:∀t∈a,t.ops.length<=1000)(H:2^41<=n):Ok (H3 n a b) λr=>r=true↔a=b:=by
 have I:∀x y:eH,x.ops.length<=1000->Ok (Hp n x y) λr=>r=true↔x=y:=λx y hx=>by
  unfold Hp
  refine ok_eq (λJ=>ok_eq (λM=>c8 (agY (by omega) H) λz Q=>cF ?_) λc=>?_) λc=>?_
  ·rw[Q,Ru];simp[J,M]
  ·exact cF ⟨λh=>(by cases h),λe=>absurd (by rw[e]) c⟩
  ·exact cF ⟨λh=>(by cases h),λe=>absurd (by rw[e]) c⟩
 unfold H3;refine c8 ?_ λx hx=>cF hx;unfold L0;refine dS (ok_eq (λA=>?_) λA=>cF ⟨λh=>(by cases h),λh=>absurd (by rw[h]) A⟩);have C:a.length=b.length:=by simp only[go_sem] at A;omega
 have R:=kD (N:=a.length) (by omega) (L:=λm i=>z8 n m b a (cz a) i (some true)) (P:=λj=>@decide (gT a j=gT b j) (Classical.propDecidable _)) (k:=some true) (r:=some false) (λm=>by simp[go_sem,z8]) (λm i D=>by
  have u:cA (i:Int) (cz a)=true:=od (show(i:Int)<(a.length:Nat) by omega)
  rw[z8,u,cL,eG D ⟨0,0,[]⟩,eG (show i<b.length by omega) ⟨0,0,[]⟩,cu,cu,C5 (I (gT a i) (gT b i) (by rw[Cz D];exact F _ (dG D))),cu,dO]
  generalize@decide (gT a i=gT b i) (Classical.propDecidable _)=z
  cases z<;>rfl) (m:=n) (by omega);have E:(fL a.length λj=>@decide (gT a j=gT b j) (Classical.propDecidable _))=true↔a=b:=by
  rw[<-ug ⟨0,0,[]⟩ C,mn]
  simp only[dF]
 rw[R];split
 ·rename_i u;exact cF ⟨λ_=>E.1 u,λ_=>rfl⟩
 ·rename_i u;exact cF ⟨λh=>(by cases h),λh=>absurd (E.2 h) u⟩
end
end
section
section
variable{n:Nat}
theorem Vd{s:cq}(a:s.length<1000000000000):s.take (ed s).2=s↔(ed s).2=s.length:=by
 have h:=(rB a).1;constructor
 ·intro e;have:=congrArg List.length e;simp at this;omega
 ·intro e;rw[e,sD]
theorem ZF{s:cS}(e:xC s)(R:pW s.log)(x:2^41<=n):Ok (um n s) λr=>r=true↔pB s:=by
 have E:=e.lg;have N:=e.bl;unfold um MU;rw[uK];simp only[cu];refine dS (dR (λA=>?_) λA=>cF ⟨λh=>(by cases h),λh=>?_⟩)
 rotate_left
 ·have:=h.1;simp only[kS] at A;exact absurd this A
 rw[dF] at A;rw[aa0 (by omega) e.bz x,ZD (by omega) x];simp only[cu];refine dS (dR (λC=>dR (λj=>cF ⟨λh=>(by cases h),λh=>?_⟩) λj=>?_) λC=>cF ⟨λh=>(by cases h),λh=>?_⟩)
 ·have:=h.2.1;simp only[nZ,du] at this;rw[this.1] at j;cases j
 rotate_left
 ·have:=h.2.1;simp only[nZ,du] at this;rw[this.2] at C;cases C
 have D:nZ s.base=true:=by
  simp only[nZ,du]
  exact⟨by simpa using j,C⟩
 obtain⟨F,S,_⟩:=Bz D;refine dY (λH=>cF ⟨λh=>(by cases h),λh=>?_⟩) λH=>?_
 ·have:=h.2.2.1;simp only[fV] at H;omega
 simp only[fV] at H;rw[Rw E R F x,cu];cases I:nB s.base [] (ed s.log).1 with
 |none=>
  simp only[dO,gE,cL];refine cF ⟨λh=>(by cases h),λh=>?_⟩;obtain⟨_,_,_,y,P,_⟩:=h;rw[I] at P;cases P
 |some y=>
  simp only[dO,eN,cN];have J:pB s↔(if s.up=true then(ed s.log).2=s.log.length/\s.legs=y.1/\s.cB=y.2 else s.legs=[]/\s.cB=[]):=by
   constructor
   ·rintro⟨_,_,_,z,e,h⟩;rw[I] at e;cases e;exact h
   ·exactλh=>⟨A,D,by omega,y,I,h⟩
  rw[show(λr=>r=true↔pB s)=(λr=>r=true↔(if s.up=true then(ed s.log).2=s.log.length/\s.legs=y.1/\s.cB=y.2 else s.legs=[]/\s.cB=[])) from funext λr=>by rw[J]];cases Z:s.up with
  |false=>
   simp only[gE,cL,iN,iD];refine ok_eq (λu=>cF ?_) λu=>cF ⟨λh=>(by cases h),λh=>absurd (by rw[h.1];rfl) u⟩;have:s.legs=[]:=nL.1 (by simp only[cP] at u;omega);rw[en,cP,dF];constructor
   ·intro h;exact⟨this,nL.1 (by omega)⟩
   ·intro h;rw[h.2];rfl
  |true=>
   simp only[eN,cN,gr];refine n4 (λu=>?_) λu=>cF ⟨λh=>(by cases h),λh=>absurd ((Vd (by omega)).2 h.1) u⟩;have U:=(Vd (by omega)).1 u;refine c8 (aa3 (by have:=e.ll;omega) (λl Y=>(e.lr l Y).toph) x) λa Q=>dR (λM=>c8 (aa4 (by have:=e.tl;omega) e.tz x) λb D=>cF ?_) λM=>cF ⟨λh=>(by cases h),λh=>absurd (Q.2 h.2.1) (by simp[M])⟩;rw[D];exact⟨λh=>⟨U,Q.1 M,h⟩,λh=>h.2.2⟩
noncomputable def okB(s:cS):Bool:=@decide (pB s) (Classical.propDecidable _)
theorem OB{s:cS}:okB s=true↔pB s:=by unfold okB;simp
structure Good(s:cS):Prop where
 z:xC s
 g:pW s.log
theorem O2{s:cS}(h:Good s)(a:2^41<=n):rm n s=some (okB s):=C5 (Rv h.z a)
theorem Kt{s:cS}(h:Good s)(a:2^41<=n):um n s=some (okB s):=C5 (ZF h.z h.g a)
theorem Rx{s:cS}(j:xC s)(y:2^41<=n):Dn n s=some s:=by
 have H:=j.tl;unfold Dn;rw[HC (by have:=j.bl;omega) j.bz y,cu,HC (by have:=j.ll;omega) (λl A=>(j.lr l A).toph) y,cu];have e:H5 n s.cB=some s.cB:=by
  unfold H5 EV
  rw[cJ (by omega),cu,agm,cu]
 rw[e,cu];have u:∀m i:Nat,i<=s.cB.length->s.cB.length<m+i->Ad n m (cz s.cB) i s some=some s:=by
  intro m
  induction m with
  |zero=>intro i C D;omega
  |succ m E=>
   intro i C D
   by_cases x:i<s.cB.length
   ·have a:cA (i:Int) (cz s.cB)=true:=od (show(i:Int)<(s.cB.length:Nat) by omega);have F:H6 n s.cB[i].ops=some s.cB[i].ops:=by
     unfold H6 EW
     rw[cJ (by have:=j.tz _ (dG x);omega),cu,agl,cu]
    rw[Ad,a,cL,dt x];simp only[cu,F];rw[dE (by omega)];have:({s with cB:=db s.cB (i:Int) {s.cB[i] with ops:=s.cB[i].ops}}:cS)=s:=by
     have:db s.cB (i:Int) {s.cB[i] with ops:=s.cB[i].ops}=s.cB:=by
      unfold db
      rw[fB]
      exact Qm x
     rw[this]
    rw[this];exact E (i+1) (by omega) (by omega)
   ·have:i=s.cB.length:=by omega
    subst this;have a:cA (s.cB.length:Int) (cz s.cB)=false:=CQ (show¬ (s.cB.length:Int)<(s.cB.length:Nat) by omega);rw[Ad,a,cN]
 exact u n 0 (by omega) (by omega)
theorem Sm{s:cq}(a:s.length<1000000000000):ed (s.take (ed s).2)=((ed s).1,(ed s).2):=by
 have j:∀(k i:Nat)(s:cq),s.length<1000000000000->s.length<k->eW k i (s.take (eW k i s).2)=eW k i s:=by
  intro k
  induction k with
  |zero=>intro i s _ h;omega
  |succ k A=>
   intro i s a E
   cases h:il i s with
   |none=>
    have e:eW (k+1) i s=([],0):=by unfold eW;rw[h]
    rw[e]
    unfold eW
    have:il i (s.take 0)=none:=by rw[xF];rfl
    rw[this]
   |some r=>
    have F:=wA a h
    have H:=ry i r
    have e:eW (k+1) i s=(r::(eW k (i+1) (s.drop (ei i r).length)).1,(ei i r).length+(eW k (i+1) (s.drop (ei i r).length)).2):=by
     conv=>lhs;unfold eW
     rw[h]
    rw[e]
    simp only
    have u:=A (i+1) (s.drop (ei i r).length) (by simp;omega) (by simp;omega)
    generalize I:eW k (i+1) (s.drop (ei i r).length)=R at*
    have C:=(ux a).1 h
    have x:ei i r<+:s.take ((ei i r).length+R.2):=by
     obtain⟨y,rfl⟩:=C
     rw[List.take_append]
     rw[xN (by omega)]
     exact qZ _ _
    have D:il i (s.take ((ei i r).length+R.2))=some r:=(ux (by simp;omega)).2 x
    conv=>lhs;unfold eW
    rw[D]
    simp only
    rw[List.drop_take,YK,u]
 have J:=rB a;have:=j (s.length+1) 0 s a (by omega);unfold ed at*;rw[Ec _ (s.length+1) 0 _ (by simp;omega) (by simp) (by simp;omega),this]
theorem acR{s:cS}(h:pB s):iJ s.base:=(Bz h.2.1).1
theorem aer{s:cS}(h:pB s):pB (kj s)/\(kj s).up=true/\(kj s).log.length<=s.log.length:=by
 obtain⟨e,j,x,y,a,A⟩:=h;unfold kj;cases C:s.up with
 |true=>
  rw[cJ rfl];exact⟨⟨e,j,x,y,a,A⟩,C,hY _⟩
 |false=>
  rw[cK (by simp),a];have D:=rB (s:=s.log) (by omega);have u:=Sm (s:=s.log) (by omega);refine⟨⟨e,j,by simp;omega,y,?_,?_⟩,rfl,by simp;omega⟩
  ·dsimp only;rw[u];exact a
  ·rw[cJ rfl];dsimp only;rw[u];exact⟨by simp;omega,rfl,rfl⟩
theorem Sn{s:cS}(a:Good s)(h:pB s):Good (kj s):=by
 obtain⟨E,x,F,y,e,H⟩:=h;unfold kj;cases I:s.up with
 |true=>rw[cJ rfl];exact a
 |false=>
  rw[cK (by simp),e];obtain⟨j,A,C,J⟩:=Cm (l:=y.1) (t:=y.2) (Bz x).1 tV e;have u:=rB (s:=s.log) (by omega);refine⟨⟨a.z.bl,a.z.bz,by show(s.log.take _).length<_;simp;omega,j.1,λl u=>(j.2 l u).r,by simp at C;show y.2.length<=20000;omega,λt D=>by have:=(nP (A.t t D).2).2;omega⟩,?_⟩;show pW (s.log.take _);unfold pW;rw[Sm (by omega)];exact a.g
def tG:cS:=⟨0,[],[],false,[],[]⟩
theorem QD{s:cS}(h:Good s)(a:2^41<=n):HA n s=some (if okB s=true then kj s else tG)/\DN n s=some (if okB s=true then kj s else tG):=by
 unfold HA DN;rw[O2 h a,Kt h a];cases C:okB s with
 |false=>exact⟨rfl,rfl⟩
 |true=>
  have e:=OB.1 C;have u:=acR e;have j:=Sn h e;simp only[cu,dO,eN,cN,gr];constructor
  ·rw[Vb h.z.lg u a,cu,I0 j.z a,cu]
  ·unfold L9;cases x:s.up with
   |true=>
    have:kj s=s:=by unfold kj;rw[cJ x]
    rw[this,cL,Rx h.z a];rfl
   |false=>
    obtain⟨D,E,F,y,A,H⟩:=e;have:kj s=⟨s.id,s.base,s.log.take (ed s.log).2,true,y.1,y.2⟩:=by unfold kj;rw[cK (by simp[x]),A]
    rw[cN,Rw h.z.lg h.g u a,A,cu];rw[this] at j⊢;dsimp only;rw[Rx j.z a];rfl
end
end
section
section
variable{n:Nat}
theorem acS{s:cS}(h:pB s):iJ s.legs/\qQ s.cB:=by
 obtain⟨C,j,D,y,u,a⟩:=h;obtain⟨x,A,E,F⟩:=Cm (l:=y.1) (t:=y.2) (Bz j).1 tV u;cases e:s.up with
 |true=>
  rw[e,cJ rfl] at a;rw[a.2.1,a.2.2];exact⟨x,A⟩
 |false=>
  rw[e,cK (by simp)] at a;rw[a.1,a.2];exact⟨⟨by simp,by simp⟩,tV⟩
theorem ZG{s x:cS}{r:cq}(h:qE s r=some x):∃y,tF s.log r=some x.log/\oc s.legs s.cB r=some y/\x.legs=y.1/\x.cB=y.2/\x.id=s.id/\x.base=s.base/\x.up=s.up:=by
 unfold qE at h;split at h
 ·cases h
 ·rename_i a e;split at h
  ·cases h
  ·rename_i y j;cases h;exact⟨y,e,j,rfl,rfl,rfl,rfl,rfl⟩
theorem So{s x r:cq}(e:s.length<100000)(j:r.length<100000)(h:tF s r=some x):x.length<=9000/\(ed s).2=s.length/\ed x=((ed s).1++[r],x.length):=by
 unfold tF at h;split at h
 ·rename_i a;cases h;have:=acG (s:=s) (r:=r) (by rw[eS];omega) a.1;rw[this];exact⟨by rw[eS];omega,a.1,by rw[eS]⟩
 ·cases h
theorem acT{m:cR}(h:1<=m.txn/\m.txn<=99):(Gl m).length<100:=by
 have:=ki (x:=m.txn) (by omega) (by omega);unfold Gl;split<;>simp<;>omega
theorem Fw{R:Type}{N:Nat}(a:N<2^30){L:Nat->Int->Option R}{k:Option R}(e:∀m,L (m+1) N=k)(j:∀m i,i<N->L (m+1) i=L m (cw .i64 i 1)){m:Nat}(u:N<m):L m 0=k:=by
 have:=kD a (L:=L) (P:=λ_=>true) (k:=k) (r:=k) e (λm i x=>by rw[j m i x,cJ rfl]) u;rw[this];split<;>rfl
theorem Z3{a:List de}(x:a.length<2^29)(y:2^41<=n):Fq n a a=some true:=by
 have e:=Fw (N:=a.length) (by omega) (L:=λm i=>Bo n m a a i (some true)) (k:=some true) (λm=>by simp[go_sem,Bo]) (λm i j=>by
  have u:cA (i:Int) (cz a)=true:=od (show(i:Int)<(a.length:Nat) by omega)
  rw[Bo,u,cL,dt j,cu,cu]
  simp[fC,en,kF,dO]) (m:=n) (by omega);unfold Fq;rw[e];simp[en,dO]
theorem Mm{a:List Int}(x:a.length<2^29)(y:2^41<=n):BR n a a=some true:=by
 have e:=Fw (N:=a.length) (by omega) (L:=λm i=>A7 n m a a i (some true)) (k:=some true) (λm=>by simp[go_sem,A7]) (λm i j=>by
  have u:cA (i:Int) (cz a)=true:=od (show(i:Int)<(a.length:Nat) by omega)
  rw[A7,u,cL,dt j,cu,cu]
  simp[en,dO]) (m:=n) (by omega);unfold BR;rw[e];simp[en,dO]
theorem Z4{a:cE}(h:ph a)(e:2^41<=n):JX n a a=some true:=by
 have y:=h.z1;have A:=h.z2;have C:=h.z3;have D:=h.z4;have j:=Fw (N:=a.holds.length) (by omega) (L:=λm i=>Bp n m i a a (some true)) (k:=some true) (λm=>by simp[go_sem,Bp]) (λm i u=>by
  have x:cA (i:Int) (cz a.holds)=true:=od (show(i:Int)<(a.holds.length:Nat) by omega)
  rw[Bp,x,cL,dt u,cu,cu]
  simp[fC,en,dO]) (m:=n) (by omega);unfold JX;rw[j,Mm (by omega) e,Mm (by omega) e,Mm (by omega) e];simp[en,kF,dO,cu]
theorem QY{a:List cE}(y:a.length<2^29)(h:∀l∈a,ph l)(j:2^41<=n):E9 n a a=some true:=by
 have u:=Fw (N:=a.length) (by omega) (L:=λm i=>A8 n m a a i (some true)) (k:=some true) (λm=>by simp[go_sem,A8]) (λm i e=>by
  have x:cA (i:Int) (cz a)=true:=od (show(i:Int)<(a.length:Nat) by omega)
  rw[A8,x,cL,dt e,cu,cu,Z4 (h _ (dG e)) j]
  simp[dO,cu]) (m:=n) (by omega);unfold E9;rw[u];simp[en,dO]
theorem Hr{a:cS}(h:xC a)(e:2^41<=n):By n a a=some true:=by
 have A:=h.bl;have C:=h.ll;have D:=h.tl;have u:=Fw (N:=a.cB.length) (by omega) (L:=λm i=>AO n m i a a (some true)) (k:=some true) (λm=>by simp[go_sem,AO]) (λm i j=>by
  have x:cA (i:Int) (cz a.cB)=true:=od (show(i:Int)<(a.cB.length:Nat) by omega)
  rw[AO,x,cL,dt j]
  simp only[cu]
  rw[Z3 (by have:=h.tz _ (dG j);omega) e]
  simp[en,dO,cu]) (m:=n) (by omega);unfold By;rw[u,QY (by omega) h.bz e,QY (by omega) (λl y=>(h.lr l y).toph) e];simp[en,kF,kq,dO,cu]
theorem acU{s:cS}{code:List Int}(E:Dj n code=some s)(j:Good s)(a:2^41<=n):Dy n code=some true:=by
 unfold Dy;cases cA 1048576 (cz code) with
 |true=>rfl
 |false=>
  obtain⟨F,H⟩:=QD j a;rw[cN,E,cu,H,cu,F,cu];cases x:okB s with
  |false=>
   have I:xC tG:=⟨by simp[tG],by simp[tG],by simp[tG],by simp[tG],by simp[tG],by simp[tG],by simp[tG]⟩;rw[cK (by simp),Hr I a,Kt j a,O2 j a,x];rfl
  |true=>
   have u:=OB.1 x;obtain⟨J,y,P⟩:=aer u;have e:=Sn j u;obtain⟨_,M⟩:=QD e a;have A:okB (kj s)=true:=OB.2 J;have C:kj (kj s)=kj s:=by
    generalize kj s=z at y⊢
    unfold kj
    rw[cJ y]
   have D:dz (eg (kj s).log) (eg s.log)=true:=by rw[gv,fV,fV];simp;omega
   rw[cJ rfl,Hr e.z a,Kt j a,O2 j a,Kt e a,M,A,cJ rfl,C];simp only[Hr e.z a,x,y,D,cu];cases N:s.up with
   |false=>rfl
   |true=>
    have:kj s=s:=by unfold kj;rw[cJ N]
    rw[this,Hr j.z a];rfl
end
end
section
section
variable{n:Nat}{R:Type}{Q:R->Prop}
theorem Pu{a b c:Int}(e:-1000000000000000<=a/\a<=1000000000000000)(j:-1000000000000000<=b/\b<=1000000000000000)(u:-1000000000000000<=c/\c<=1000000000000000):cw .i64 (cw .i64 a b) c=a+b+c:=by
 rw[iY (a:=a) (b:=b) (by omega) (by omega) (by omega) (by omega),iY (by omega) (by omega) (by omega) (by omega)]
def zN(e:Int)(a:List Int):Prop:=∀j,j<a.length->(0<=gI a j/\gI a j<=e)/\(0<j->gI a j<=gI a (j-1))
theorem Ve{a:List Int}{x:Int}:gI (a++[x]) a.length=x:=by
 simp[gI,iE]
theorem Fx{a:List Int}{x:Int}{j:Nat}(h:j<a.length):gI (a++[x]) j=gI a j:=by
 simp[gI,iE,oB h]
theorem zN.app{hi x:Int}{xs:List Int}(h:zN hi xs)(h0:xs≠[])(hx:0<=x)(a:x<=gI xs (xs.length-1)):zN hi (xs++[x]):=by
 have y:0<xs.length:=Qg.2 h0;intro j e;rw[eS,tY] at e
 by_cases c:j<xs.length
 ·rw[Fx c];refine⟨(h j c).1,λu=>?_⟩;rw[Fx (by omega)];exact(h j c).2 u
 ·have:j=xs.length:=by omega
  subst this;rw[Ve,Fx (by omega)];have:=(h (xs.length-1) (by omega)).1;exact⟨by omega,λ_=>a⟩
theorem OC{l:cE}{M:Int}(H:M<=999999999000){k:cE->Rd->Option (cE×Rd)}{Q:cE×Rd->Prop}:∀(m i:Nat)(u:List Int)(r:Rd),zN 9 u->u.length=i->1<=i->i<=3->4<m+i->dN (M+i) r->(∀j r',zN 9 j->j.length=3->gI j 0=gI u 0->dN (M+3) r'->Ok (k {l with dy:=j} r') Q)->Ok (AP n m i {l with dy:=u} r k) Q
 |0,i,u,r,A,C,J,N,P,E,K=>by omega
 |m+1,i,u,r,A,C,J,N,P,E,K=>by
  rw[AP];refine dY (λS=>?_) λS=>?_
  ·have e:cQ .i64 (i:Int) 1=((i-1:Nat):Int):=by rw[ij];omega
   dsimp only;rw[e,iZ (show i-1<u.length by omega),cu,cu];refine ef E (by omega) (by omega) λx r' Z x1 F=>?_;have hb:=(A (i-1) (by omega)).1;have U:cQ .i64 (gI u (i-1)) x=gI u (i-1)-x:=lJ (by omega) (by omega) (by omega) (by omega);have I:u≠[]:=by rintro rfl;simp at C;omega
   have Y:cw .i64 (i:Int) 1=((i+1:Nat):Int):=dE (by omega);dsimp only;rw[U,Y];have D:dN (M+((i+1:Nat):Int)) r':=F.mono (by omega);refine dY (λc=>eU (by simp;omega) (by omega) ?_) λc=>eU (by simp;omega) (by omega) ?_
   ·refine OC H m (i+1) _ r' (A.app I (by omega) (by rw[C];omega)) (by simp;omega) (by omega) (by omega) (by omega) D λj y a b c d=>K j y a b (by rw[c,Fx (by omega)]) d
   ·refine OC H m (i+1) _ r' (A.app I (by omega) (by rw[C];omega)) (by simp;omega) (by omega) (by omega) (by omega) D λj y a b c d=>K j y a b (by rw[c,Fx (by omega)]) d
  ·have:i=3:=by omega
   subst this;exact K u r A C rfl E
theorem Vf{l:cE}{M:Int}(H:M<=999999999000){k:cE->Rd->Option (cE×Rd)}{Q:cE×Rd->Prop}:∀(m c:Nat)(a:List Int)(r:Rd),zN 899 a->1<=a.length->c+a.length<=4->c<m->dN (M+a.length) r->(∀j u,zN 899 j->1<=j.length->j.length<=4->dN (M+4) u->Ok (k {l with eu:=j} u) Q)->Ok (DL n m c {l with eu:=a} r k) Q
 |0,i,a,r,y,A,I,J,C,K=>by omega
 |m+1,c,a,r,y,A,I,J,C,K=>by
  rw[DL];refine dY (λN=>?_) λN=>?_
  ·have e:cQ .i64 (cz a) 1=((a.length-1:Nat):Int):=by rw[cP,ij];omega
   dsimp only;rw[e,iZ (show a.length-1<a.length by omega),cu,cu];refine ef C (by omega) (by omega) λx u P Y D=>?_;have F:=(y (a.length-1) (by omega)).1;have S:a≠[]:=by rintro rfl;simp at A
   have E:0<=gI a (a.length-1)*x:=Ha F.1 P;have U:gI a (a.length-1)*x<=gI a (a.length-1)*9:=Qp (by omega) F.1;dsimp only;rw[mO (by omega)];refine s6 (by omega) E (by omega) ?_;refine eU (by simp;omega) (by omega) ?_;rw[show cQ .i64 (c:Int) 1=((c-1:Nat):Int) by rw[ij];omega];exact Vf H m (c-1) _ u (y.app S (by omega) (by omega)) (by simp) (by simp;omega) (by omega) (D.mono (by simp;omega)) K
  ·exact K a r y A (by omega) (C.mono (by omega))
theorem aa5{name e to:cq}{fb N:Int}{r:Rd}(h1:gy name=true)(h2:gy e=true)(h3:gy to=true)(h4:e≠to)(h5:0<=fb/\fb<=5000)(hr:dN N r)(hN:N<=999999990000)(hn:2^41<=n):Ok (I7 n r name e to fb) λx=>(gP x.1/\x.1.holds=[]/\x.1.name=name/\x.1.arr<=fb+6)/\dN (N+20) x.2:=by
 unfold I7;refine ef hr (by omega) (by omega) λc r1 c0 c1 F=>ef F (by omega) (by omega) λa r2 a0 u H=>ef H (by omega) (by omega) λb r3 b0 b1 I=>ef I (by omega) (by omega) λq r4 q0 q1 J=>?_;dsimp only;refine iI q0 (by simp;omega) λx hx _=>iI q0 (by simp;omega) λx hx _=>?_;have hx:0<=x/\x<=899:=by
  simp only[eo,mH,mI] at hx
  omega
 rw[Pu (a:=fb) (by omega) (by omega) (by omega),iY (a:=1) (b:=c) (by omega) (by omega) (by omega) (by omega)];refine OC (n:=n) (M:=N+3) (by omega) (l:=cE.mk name e to fb (fb+1+a) (1+c) [1+c] [0,0,0] [x] []) n 1 [1+c] r4 (λj A=>?_) rfl (by omega) (by omega) (by omega) (J.mono (by omega)) λC r5 D g2 g3 P=>?_
 ·have:j=0:=by simpa using A
  subst this;exact⟨by show 0<=1+c/\1+c<=9;omega,λh=>by omega⟩
 refine ef P (by omega) (by omega) λy r6 y0 y1 S=>?_;obtain⟨y,rfl⟩:=gD y0;dsimp only;refine Vf (n:=n) (M:=N+3+3) (by omega) (l:=cE.mk name e to fb (fb+1+a) (1+c) C [0,0,0] [x] []) n y [x] r6 (λj A=>?_) (by simp) (by simp;omega) (by omega) (S.mono (by simp)) λbs r7 w1 w2 w3 U=>cF ⟨⟨?_,rfl,rfl,by show fb+1+a<=fb+6;omega⟩,U.mono (by omega)⟩
 ·have:j=0:=by simpa using A
  subst this;exact⟨by show 0<=x/\x<=899;omega,λh=>by omega⟩
 have Y:gI C 0=1+c:=g3;refine{n1:=h1,n2:=h2,n3:=h3,ne:=h4,fb:=by show 0<=fb/\fb<=9999;omega,arr:=by show fb+1<=fb+1+a/\fb+1+a<=9999;omega,cap:=by show 1<=1+c/\1+c<=9;omega,l3:=g2,s3:=rfl,l0:=Y,b:=⟨w2,w3⟩,h6:=by simp,xB:=λj A=>?_,pA:=λj A=>?_,hold:=by simp,nJ:=by simp,iH:=λj A=>?_}
 ·have Z:∀j,j<3->gI C j<=1+c:=λj A=>by
    have u:=(D 1 (by omega)).2 (by omega)
    have a2:=(D 2 (by omega)).2 (by omega)
    have:j=0\/j=1\/j=2:=by omega
    rcases this with rfl|rfl|rfl<;>simp only[vq,Nat.reduceSub] at u a2<;>omega
  have E:gI [0,0,0] j=0:=by
   have:j=0\/j=1\/j=2:=by omega
   rcases this with rfl|rfl|rfl<;>rfl
  have u:=D j (by omega);simp only[qO,du,dF];exact⟨⟨⟨u.1.1,Z j A⟩,u.2⟩,by rw[E];omega⟩
 ·have u:=w1 j A;simp only[xh,du,dF];exact⟨⟨u.1.1,by have:=u.1.2;show gI bs j<=1000000000;omega⟩,u.2⟩
 ·have E:gI [0,0,0] j=0/\fc id (List.drop j [0,0,0])=0:=by
    have:j=0\/j=1\/j=2:=by omega
    rcases this with rfl|rfl|rfl<;>exact⟨rfl,rfl⟩
  have u:=(D j (by omega)).1;exact⟨by show fc id (List.drop j [0,0,0])+fc (lN j) []<=gI C j;rw[E.2];simp[fc];exact u.1,by show fc (ma j) []<=gI [0,0,0] j;rw[E.1];simp[fc]⟩
def places:List cq:=[[97,109,115],[98,114,117],[99,100,103],[100,117,98]]
def y9:List cq:=[[108,97],[108,98],[108,99],[108,100],[108,101],[108,102]]
structure Gm(net:List cE):Prop where
 l:∀l∈net,gP l/\l.holds=[]
 nm:∀j(h:j<net.length),net[j].name=gS y9 j
 len:net.length<=6
theorem PJ{k:List cE->Rd->Option (List cE×Rd)}{Q:List cE×Rd->Prop}{M:Int}(hM:M<=999999000000)(S:2^41<=n):∀(m i:Nat)(out:List cE)(at' e:Int)(r:Rd),i<=6->7<m+i->out.length=i->Gm out->0<=at'/\at'<4->0<=e/\e<=100+10*i->dN (M+50*i) r->(∀A r',Gm A->2<=A.length->dN (M+400) r'->Ok (k A r') Q)->Ok (AQ n m places y9 out at' e i r k) Q
 |0,i,out,at',e,r,U,Y,h3,N,h5,h6,h7,K=>by omega
 |m+1,i,out,at',e,r,U,Y,h3,N,h5,h6,h7,K=>by
  rw[AQ];refine ef h7 (by omega) (by omega) λx r1 x0 x1 F=>?_;dsimp only;rw[iY (by omega) (by omega) (by omega) (by omega)];refine dY (λhi=>?_) λhi=>K out r1 N (by omega) (F.mono (by omega));refine ef F (by omega) (by omega) λd r2 d0 d1 Z=>?_;dsimp only;rw[Pu (a:=at') (by omega) (by omega) (by omega)];refine s7 (by omega) (by omega) ?_;have H:0<=(at'+1+d) % 4:=De _ (by omega);have aa:(at'+1+d) % 4<4:=Df _ (by omega);have C:(at'+1+d) % 4≠at':=by omega
  generalize(at'+1+d) % 4=to at H aa C;obtain⟨a,rfl⟩:=gD h5.1;obtain⟨t,rfl⟩:=gD H;have pl:∀j:Nat,j<4->cm places (j:Int)=some (gS places j)/\gy (gS places j)=true:=λj hj=>by
   have:j=0\/j=1\/j=2\/j=3:=by omega
   rcases this with rfl|rfl|rfl|rfl<;>exact⟨rfl,by decide⟩
  have pd:gS places a≠gS places t:=by
   have U:a=0\/a=1\/a=2\/a=3:=by omega
   have Y:t=0\/t=1\/t=2\/t=3:=by omega
   rcases U with rfl|rfl|rfl|rfl<;>rcases Y with rfl|rfl|rfl|rfl<;>first|(exfalso;exact C rfl)|decide
  have nl:∀j:Nat,j<6->cm y9 (j:Int)=some (gS y9 j)/\gy (gS y9 j)=true:=λj hj=>by
   have:j=0\/j=1\/j=2\/j=3\/j=4\/j=5:=by omega
   rcases this with rfl|rfl|rfl|rfl|rfl|rfl<;>exact⟨rfl,by decide⟩
  rw[(nl i (by omega)).1,(pl a (by omega)).1,(pl t (by omega)).1];simp only[cu];refine c8 (aa5 (nl i (by omega)).2 (pl a (by omega)).2 (pl t (by omega)).2 pd (by omega) Z (by omega) S) λy hy=>?_;obtain⟨⟨P,y2,y3,y4⟩,I⟩:=hy;obtain⟨l,r3⟩:=y;dsimp only at P y2 y3 y4 I⊢;refine eU (by simp;omega) (by omega) ?_;have hN:Gm (out++[l]):=by
   refine⟨λq E=>?_,λj hj=>?_,by simp;omega⟩
   ·rcases eB.1 E with E|E
    ·exact N.l q E
    ·rw[fM] at E;subst E;exact⟨P,y2⟩
   ·by_cases c:j<out.length
    ·rw[List.getElem_append_left c];exact N.nm j c
    ·have:j=out.length:=by simp at hj;omega
     subst this;simp[y3,h3]
  have ad:=P.arr;have ae:=P.fb;rw[dE (show i<2^31 by omega)];refine ef I (by omega) (by omega) λz r4 z0 z1 J=>?_;refine dY (λhz=>?_) λhz=>?_
  ·refine ef J (by omega) (by omega) λu r5 u0 u1 D=>?_;dsimp only;rw[Pu (a:=l.arr) (by omega) (by omega) (by omega)];exact PJ hM S m (i+1) _ _ _ r5 (by omega) (by omega) (by simp;omega) hN (by omega) (by omega) (D.mono (by omega)) K
  ·refine ef J (by omega) (by omega) λu r5 u0 u1 D=>ef D (by omega) (by omega) λv r6 v0 v1 ab=>?_;exact PJ hM S m (i+1) _ _ _ r6 (by omega) (by omega) (by simp;omega) hN (by omega) (by omega) (ab.mono (by omega)) K
theorem aa6{N:Int}{r:Rd}(y:dN N r)(H:N<=999990000000/2)(A:2^41<=n):Ok (I8 n r) λx=>(Gm x.1/\2<=x.1.length)/\dN (N+402) x.2:=by
 unfold I8;refine ef y (by omega) (by omega) λa I J P e=>ef e (by omega) (by omega) λt C t0 t1 j=>?_;exact PJ (n:=n) (M:=N+2) (by omega) A n 0 [] a t C (by omega) (by omega) rfl ⟨by simp,by simp,by simp⟩ (by omega) (by omega) (j.mono (by omega)) λu S D E F=>cF ⟨⟨D,E⟩,F.mono (by omega)⟩
theorem afx{a:List cE}(h:Gm a):u5 a=true/\nZ a=true:=by
 have y:∀i,i<6->∀j,j<i->gS y9 j≠gS y9 i:=by decide
 have A:u5 a=true:=by
  simp only[u5,pc,du,dF,mn]
  refine⟨λj x=>⟨?_,?_⟩,by have:=h.len;omega⟩
  ·rw[rR x];exact Tk.2 (h.l _ (dG x)).1
  ·rw[rR x];rcases qu (p:=λl:cE=>decide (l.name=a[j].name)) (xs:=a) (i:=0) with⟨e,u⟩|⟨q,D,e,u,H⟩
   ·have:=u _ (dG x);simp at this
   ·rw[e];have C:=h.len;have u:=fj u;rw[h.nm q D,h.nm j x] at u
    by_cases c:q<j
    ·exact absurd u (y j (by omega) q c)
    ·by_cases E:j<q
     ·exact absurd u.symm (y q (by omega) j E)
     ·omega
 refine⟨A,?_⟩;simp only[nZ,du,A,jg,jh,dF];exactλl F=>(h.l l F).2
def zy(w:List Int):Prop:=∀x∈w,1<=x/\x<=2
theorem V4{e:List cE}(H:e.length<=6){k:List Int->Rd->Option (List Int×Rd)}{Q:List Int×Rd->Prop}{M:Int}(I:M<=999999000000):∀(m i:Nat)(a:List Int)(r:Rd),i<=e.length->e.length<m+i->a.length=i->zy a->dN (M+i) r->(∀j F,zy j->j.length=e.length->dN (M+6) F->Ok (k j F) Q)->Ok (Dp n m e a i r k) Q
 |0,i,a,r,J,N,P,A,C,K=>by omega
 |m+1,i,a,r,J,N,P,A,C,K=>by
  rw[Dp];refine dY (λD=>?_) λD=>?_
  ·rw[cP] at D;refine ef C (by omega) (by omega) λx S U Y E=>?_;dsimp only;refine eU (by simp;omega) (by omega) ?_;rw[iY (by omega) (by omega) (by omega) (by omega),dE (by omega)];refine V4 H I m (i+1) _ S (by omega) (by omega) (by simp;omega) (λy u=>?_) (E.mono (by omega)) K;rcases eB.1 u with u|u
   ·exact A y u
   ·rw[fM] at u;omega
  ·rw[cP] at D;exact K a r A (by omega) (C.mono (by omega))
theorem ZH{N:Int}{r:Rd}{a:List cE}(j:a.length<=6)(u:dN N r)(D:N<=999990000000/2)(E:2^41<=n):Ok (HH n r a) λx=>(zy x.1/\x.1.length=a.length)/\dN (N+6) x.2:=by
 unfold HH;exact V4 (n:=n) (M:=N) j (by omega) n 0 [] r (by omega) (by omega) rfl (by intro x hx;simp at hx) (u.mono (by omega)) λe F y A C=>cF ⟨⟨y,A⟩,C⟩
end
end
section
section
variable{n:Nat}
theorem agn{l:List cq}{i:Nat}(h:i<l.length):cm l (i:Int)=some (gS l i):=eG h []
theorem ig(r:cn):cn.mk (cn.op r) (cn.num r) (cn.name r) (cn.kids r) (cn.marks r)=r:=by cases r;rfl
def pX(a:Int):Int:=if a=1\/a=2 then 0 else if a=10 then 1 else if a=3\/a=4\/a=5\/a=7\/a=8 then 2 else if a=6 then 3 else if a=9 then 4 else-1
theorem OD(a:Int):wu n a=some (pX a):=by
 unfold wu pX;simp only[en,YR,dF]
 by_cases j:a=1
 ·simp[j]
 by_cases u:a=2
 ·simp[u]
 by_cases e:a=10
 ·simp[e]
 by_cases x:a=3
 ·simp[x]
 by_cases y:a=4
 ·simp[y]
 by_cases A:a=5
 ·simp[A]
 by_cases C:a=7
 ·simp[C]
 by_cases D:a=8
 ·simp[D]
 by_cases E:a=6
 ·simp[E]
 by_cases F:a=9
 ·simp[F]
 simp[j,u,x,y,A,E,C,D,F,e]
theorem wi(a:Int):pX a<=4/\(0<=pX a->1<=a/\a<=10):=by
 unfold pX;split
 ·omega
 split
 ·omega
 split
 ·omega
 split
 ·omega
 split<;>omega
abbrev gM(l:List Mark)(i:Nat):Mark:=l.getD i ⟨0,0⟩
def Ga(a:List Mark)(j:Nat):Bool:=decide (0<=(gM a j).cI/\(gM a j).cI<=1000000000)&&(decide (0<=(gM a j).dV/\(gM a j).dV<=1000000)&&(decide (j=0->(gM a j).cI=0)&&decide (0<j->(gM a (j-1)).cI<(gM a j).cI)))
def wO(a:List Mark):Bool:=fL a.length (Ga a)&&decide (1<=(a.length:Int)/\(a.length:Int)<=5)
theorem TM{a:List Mark}(J:a.length<2^29)(M:2^41<=n):qw n a=some (wO a):=by
 have:=λk=>kD (N:=a.length) (by omega) (L:=λm i=>ud n m a i k) (P:=Ga a) (k:=k a) (r:=some false) (λm=>by simp[go_sem,ud]) (λm i A=>by
  have C:cA (i:Int) (cz a)=true:=by rw[dv];exact gu (by rw[cP];omega)
  have e:cQ .i64 (i:Int) 1=((i-1:Nat):Int)\/i=0:=by
   by_cases c:i=0
   ·exact .inr c
   ·exact .inl (by rw[ij];omega)
  have j:Ga a i=(decide (0<=(gM a i).cI/\(gM a i).cI<=1000000000)&&(decide (0<=(gM a i).dV/\(gM a i).dV<=1000000)&&(decide (i=0->(gM a i).cI=0)&&decide (0<i->(gM a (i-1)).cI<(gM a i).cI)))):=rfl
  rw[ud,C,cL,eG A ⟨0,0⟩,cu]
  simp only[rG,cu,dO]
  generalize D:decide (0<=(gM a i).cI/\(gM a i).cI<=1000000000)=E at j⊢
  generalize F:decide (0<=(gM a i).dV/\(gM a i).dV<=1000000)=H at j⊢
  cases E with
  |false=>rw[cK (by rw[j];simp)];rfl
  |true=>
   cases H with
   |false=>rw[cK (by rw[j];simp)];rfl
   |true=>
    simp only[eN,cN,mZ] at j⊢
    by_cases y:i=0
    ·subst y
     have u:cp ((0:Nat):Int) 0=true:=rfl
     have x:cA 0 ((0:Nat):Int)=false:=rfl
     rw[u,x,cL,cN,en]
     by_cases c:(gM a 0).cI=0
     ·rw[gu c,cJ (by rw[j];simp only[du,dF];exact⟨λ_=>c,λh=>absurd h (by omega)⟩)];rfl
     ·rw[gB c,cK (by rw[j];simp only[du,dF];exactλh=>c (h.1 trivial))];rfl
    ·have u:cp (i:Int) 0=false:=by rw[en];exact gB (by omega)
     have x:cA 0 (i:Int)=true:=by rw[dv];exact gu (by omega)
     have I:cQ .i64 (i:Int) 1=((i-1:Nat):Int):=by rw[ij];omega
     rw[u,x,cL,cN,I,eG (show i-1<a.length by omega) ⟨0,0⟩,cu,gv]
     by_cases c:(gM a (i-1)).cI<(gM a i).cI
     ·rw[gB (show¬ (gM a i).cI<=(gM a (i-1)).cI by omega),cJ (by rw[j];simp only[du,dF];exact⟨λh=>absurd h y,λ_=>c⟩)];rfl
     ·rw[gu (show(gM a i).cI<=(gM a (i-1)).cI by omega),cK (by rw[j];simp only[du,dF];exactλh=>c (h.2 (by omega)))];rfl) (m:=n) (by omega);unfold qw wO;rw[this];cases fL a.length (Ga a)<;>simp[go_sem]
structure uL(r:cn):Prop where
 k:(r.kids.length:Int)=pX r.op
 num:r.op≠1->r.num=0
 name:r.op≠2->r.name=[]
 qY:r.op≠10->r.marks=[]
 n1:r.op=1->-1000000000<=r.num/\r.num<=1000000000
 n2:r.op=2->gy r.name=true
 n3:r.op=10->wO r.marks=true
theorem aa7{r:cn}(Q:r.kids.length<2^29)(M:r.marks.length<2^29)(R:r.name.length<2^29)(J:2^41<=n):Ok (Iq n r) λb=>b=true↔uL r:=by
 have F:∀{p:Prop},(uL r->p)->¬ p->Ok (some false) λb=>b=true↔uL r:=λf h=>cF ⟨λh=>(by cases h),λe=>absurd (f e) h⟩;have N:∀{a b:Option Bool},Ok b (λx=>x=true↔uL r)->(cA 0 (cz r.marks)=true->¬ uL r)->Ok (cond (cA 0 (cz r.marks)) (some false) b) λx=>x=true↔uL r:=λD u=>dR (λc=>cF ⟨λh=>(by cases h),λe=>absurd e (u c)⟩) λ_=>D;have P:cA 0 (cz r.marks)=false->r.marks=[]:=λh=>by
  rw[dv,cP,kS] at h
  exact nL.1 (by omega)
 unfold Iq;rw[OD,cu];refine dS (ok_eq (λI=>?_) λI=>F (λh=>h.k) I);have E:(r.kids.length:Int)=pX r.op:=I;simp only[rG,ru (show r.name.length<2^30 by omega) J,TM M J,cu,kF];refine dS (ok_eq (λD=>?_) λD=>?_)
 ·refine dS (ok_eq (λu=>by omega) λu=>dS (dR (λy=>dS (ok_eq (λA=>by omega) λA=>dY (λj=>?_) λj=>ok_eq (λ_=>cF ?_) λh=>absurd D h)) λy=>?_))
  ·exact F (λh=>h.qY A) (λe=>by rw[cP,e] at j;simp at j)
  ·have C:r.marks=[]:=nL.1 (by rw[cP] at j;omega);rw[dF] at y⊢;exact⟨λh=>⟨E,λh=>absurd D h,λ_=>y,λ_=>C,λ_=>h,λh=>by omega,λh=>by omega⟩,λh=>h.n1 D⟩
  ·rw[kS] at y;exact F (λh=>h.name u) y
 ·refine dS (ok_eq (λH=>?_) λH=>F (λh=>h.num D) H);refine dS (ok_eq (λu=>?_) λu=>?_)
  ·refine dS (ok_eq (λA=>by omega) λA=>dY (λj=>?_) λj=>ok_eq (λh=>absurd h D) λ_=>ok_eq (λ_=>cF ?_) λh=>absurd u h)
   ·exact F (λh=>h.qY A) (λe=>by rw[cP,e] at j;simp at j)
   ·have C:r.marks=[]:=nL.1 (by rw[cP] at j;omega);exact⟨λh=>⟨E,λ_=>H,λh=>absurd u h,λ_=>C,λh=>by omega,λ_=>h,λh=>by omega⟩,λh=>h.n2 u⟩
  ·refine dS (dR (λy=>?_) λy=>?_)
   ·rw[dF] at y;refine dS (ok_eq (λA=>?_) λA=>dY (λj=>?_) λj=>?_)
    ·refine ok_eq (λh=>absurd h D) λ_=>ok_eq (λh=>absurd h u) λ_=>ok_eq (λ_=>cF ?_) λh=>absurd A h;exact⟨λh=>⟨E,λ_=>H,λ_=>y,λh=>absurd A h,λh=>by omega,λh=>by omega,λ_=>h⟩,λh=>h.n3 A⟩
    ·exact F (λh=>h.qY A) (λe=>by rw[cP,e] at j;simp at j)
    ·have C:r.marks=[]:=nL.1 (by rw[cP] at j;omega);refine ok_eq (λh=>absurd h D) λ_=>ok_eq (λh=>absurd h u) λ_=>ok_eq (λh=>absurd h A) λ_=>cF ⟨λ_=>?_,λ_=>rfl⟩;exact⟨E,λ_=>H,λ_=>y,λ_=>C,λh=>by omega,λh=>by omega,λh=>by omega⟩
   ·rw[kS] at y;exact F (λh=>h.name u) y
def lX:Nat->cn->Prop|0,_=>False|d+1,r=>uL r/\∀k∈r.kids,lX d k
def ja:Nat->cn->Nat|0,_=>0|d+1,r=>1+(r.kids.map (ja d)).sum
def kk:Nat->cn->Prop|0,_=>False|d+1,r=>r.kids.length<=10/\r.marks.length<=10/\r.name.length<=1000/\∀k∈r.kids,kk d k
theorem TN:∀(d z:Nat)(n:Nat)(r:cn)(a left:Int),2^41+d<=n->kk z r->a=7-d->0<=a->-2<=left/\left<=30->Ok (vZ n r a left) λx=>-1<=x/\x<30/\(0<=x->lX d r/\(x:Int)=left-ja d r)
 |d,0,n,r,a,left,N,A,P,Q,R=>absurd A (by simp[kk])
 |0,z+1,n,r,a,left,N,A,P,Q,R=>by
  obtain⟨n,rfl⟩:∃m,n=m+1:=⟨n-1,by omega⟩;rw[vZ,lJ (by omega) (by omega) (by omega) (by omega)];exact dY (λ_=>cF ⟨by omega,by omega,λh=>by omega⟩) λ_=>dY (λ_=>cF ⟨by omega,by omega,λh=>by omega⟩) λh=>by omega
 |d+1,z+1,n,r,a,left,N,A,P,Q,R=>by
  obtain⟨n,rfl⟩:∃m,n=m+1:=⟨n-1,by omega⟩;obtain⟨aa,ab,ad,D⟩:=A;rw[vZ,lJ (by omega) (by omega) (by omega) (by omega),ig];refine dY (λ_=>cF ⟨by omega,by omega,λh=>by omega⟩) λae=>dY (λ_=>cF ⟨by omega,by omega,λh=>by omega⟩) λaf=>?_;refine c8 (aa7 (by omega) (by omega) (by omega) (by omega)) λb hb=>dS (dR (λE=>?_) λah=>cF ⟨by omega,by omega,λh=>by omega⟩);have hP:=hb.1 E;have ai:=wi r.op;have F:∀m i:Nat,∀x:Int,i<=r.kids.length->r.kids.length<m+i->-1<=x->x<30->(0<=x->(∀k∈r.kids.take i,lX d k)/\x=left-1-((r.kids.take i).map (ja d)).sum)->Ok (DB n (vZ n) m a x i r λH=>some H) λx=>-1<=x/\x<30/\(0<=x->lX (d+1) r/\(x:Int)=left-ja (d+1) r):=by
   intro m
   induction m with
   |zero=>intro i x h1 h2;omega
   |succ m ih=>
    intro i x h1 h2 S U Y
    rw[DB]
    refine dY (λI=>nu (λhx=>?_) λhx=>cF ⟨S,U,λh=>by omega⟩) λI=>cF ⟨S,U,λh=>?_⟩
    ·rw[cP] at I;have j:i<r.kids.length:=by omega
     rw[dt j,cu,ig,iY (by omega) (by omega) (by omega) (by omega),dE (by omega),ig];refine c8 (TN d z n r.kids[i] (a+1) x (by omega) (D _ (dG j)) (by omega) (by omega) (by omega)) λy J=>?_;refine ih (i+1) y (by omega) (by omega) J.1 J.2.1 λM=>?_;obtain⟨p1,p2⟩:=J.2.2 M;obtain⟨C,Z⟩:=Y hx;rw[mi j];refine⟨λk u=>?_,?_⟩
     ·rcases eB.1 u with u|u
      ·exact C k u
      ·rw[fM] at u;subst u;exact p1
     ·rw[mG,Y2,lk,sC,Y3,List.sum_nil];omega
    ·rw[cP] at I;obtain⟨C,Z⟩:=Y h;have e:r.kids.take i=r.kids:=xN (by omega);rw[e] at C Z;exact⟨⟨hP,C⟩,by rw[ja];omega⟩
  exact F n 0 (left-1) (by omega) (by omega) (by omega) (by omega) λh=>by simp
def jj:List cq:=[[],[],[],[97,100,100],[115,117,98],[109,117,108],[112,97,114,116],[109,105,110],[109,97,120],[105,102],[116,105,101,114,115]]
def lY(m:Mark):cq:=itoa m.cI++[58]++itoa m.dV
def jk(l:List Mark):cq:=if l=[] then[] else[59]++eQ 44 (l.map lY)
def fu:Nat->cn->cq
 |0,_=>[]
 |d+1,r=>if r.op=1 then itoa r.num else if r.op=2 then r.name else gS jj r.op.toNat++[40]++eQ 44 (r.kids.map (fu d))++jk r.marks++[41]
theorem Ef{a:List Mark}(h:wO a=true):(∀m∈a,(0<=m.cI/\m.cI<=1000000000)/\0<=m.dV/\m.dV<=1000000)/\1<=a.length/\a.length<=5:=by
 simp only[wO,du,mn,Ga,dF] at h;refine⟨λm x=>?_,by omega,by omega⟩;obtain⟨j,u,rfl⟩:=pD x;have:=h.1 j u;have e:gM a j=a[j]:=by rw[gM,iE,eA u];rfl
 rw[e] at this;exact⟨this.1,this.2.1⟩
theorem Ry:∀a:Nat,(gS jj a).length<=5:=by
 intro a
 by_cases h:a<11
 ·have:∀i:Fin 11,(gS jj i.val).length<=5:=by decide
  exact this ⟨a,h⟩
 ·have:gS jj a=[]:=by
    unfold gS
    rw[iE,mY (by show jj.length<=a;simp[jj];omega)]
    rfl
  rw[this];simp
theorem Sp{m:Mark}(h:(0<=m.cI/\m.cI<=1000000000)/\0<=m.dV/\m.dV<=1000000):(lY m).length<=43:=by
 have a:=ki (x:=m.cI) (by omega) (by omega);have b:=ki (x:=m.dV) (by omega) (by omega);simp[lY];omega
theorem Mn{r:cn}(h:uL r):(∀m∈r.marks,(0<=m.cI/\m.cI<=1000000000)/\0<=m.dV/\m.dV<=1000000)/\r.marks.length<=5:=by
 by_cases c:r.op=10
 ·have:=Ef (h.n3 c);exact⟨this.1,this.2.2⟩
 ·rw[h.qY c];simp
theorem Z5{r:cn}(h:uL r):(jk r.marks).length<=221:=by
 obtain⟨a,u⟩:=Mn h;unfold jk;split
 ·simp
 ·have:=wh (c:=44) (b:=43) (l:=r.marks.map lY) (λw e=>by
    obtain⟨m,j,rfl⟩:=gR.1 e
    exact Sp (a m j));simp at this⊢;omega
theorem Rz:∀(d:Nat)(r:cn),lX d r->(fu d r).length<=300*5^d
 |0,r,h=>absurd h (by simp[lX])
 |d+1,r,h=>by
  obtain⟨e,y⟩:=h;have u:1<=5^d:=Qq _ _ (by omega);have C:(5:Nat)^(d+1)=5*5^d:=by rw[tZ];omega
  unfold fu;split
  ·rename_i c;have:=e.n1 c;have:=ki (x:=r.num) (by omega) (by omega);omega
  ·split
   ·rename_i c;have:=(ls (e.n2 c)).2.2;omega
   ·have a:=Ry r.op.toNat;have b:=Z5 e;have D:=e.k;have k4:=(wi r.op).1;have kl:r.kids.length<=4:=by omega
    have c:=wh (c:=44) (b:=300*5^d) (l:=r.kids.map (fu d)) (λw A=>by
     obtain⟨k,j,rfl⟩:=gR.1 A
     exact Rz d k (y k j));rw[oC] at c;have E:(300*5^d+1)*r.kids.length<=(300*5^d+1)*4:=Dg _ kl;simp only[eS,fY,jx];omega
theorem I1:∀(d:Nat)(n:Nat)(r:cn),2^41+d<=n->d<=6->lX d r->pK n r=some (fu d r)
 |0,n,r,hn,hd,h=>absurd h (by simp[lX])
 |d+1,n,r,hn,hd,h=>by
  obtain⟨n,rfl⟩:∃m,n=m+1:=⟨n-1,by omega⟩;obtain⟨U,hk⟩:=h;have ah:=(wi r.op).2 (by have:=U.k;omega);have k4:=(wi r.op).1;have kl:r.kids.length<=4:=by have:=U.k;omega
  have ai:5^d<=5^5:=vz (by omega) (by omega);have Z:∀k∈r.kids,(fu d k).length<=1000000:=λk y=>by
   have:=Rz d k (hk k y)
   omega
  obtain⟨J,aj⟩:=Mn U;rw[pK,fu]
  by_cases M:r.op=1
  ·have:=U.n1 M;rw[en,gu M,cL,cJ M,mS (by omega) (by omega),cu]
  ·rw[en,gB M,cN,cK M]
   by_cases Y:r.op=2
   ·rw[en,gu Y,cL,cJ Y]
   ·rw[en,gB Y,cN,cK Y,ig];have E:Ir n=some jj:=rfl;obtain⟨A,N⟩:=gD (show 0<=r.op by omega);have ak:=Ry A;rw[E,cu,N,agn (show A<jj.length by show A<11;omega),cu,cu,fP (by first|omega|(simp only[eS,fY,jx];omega)),cu,fB];have P:∀(K:cq->cn->Option cq),∀m i:Nat,i<=r.kids.length->r.kids.length<m+i->yb n (pK n) m (gS jj A++([40]:cq)++eQ 44 ((r.kids.take i).map (fu d))) i r K=K (gS jj A++([40]:cq)++eQ 44 (r.kids.map (fu d))) r:=by
     intro K m
     induction m with
     |zero=>intro i H I;omega
     |succ m Q=>
      intro i H I
      have F:=wh (c:=44) (b:=1000000) (l:=(r.kids.take i).map (fu d)) (λw E=>by
       obtain⟨k,y,rfl⟩:=gR.1 E
       exact Z k (ub y))
      have af:(eQ 44 ((r.kids.take i).map (fu d))).length<=5000000:=by
       simp only[oC,kh] at F
       have:(1000000+1)*min i r.kids.length<=(1000000+1)*4:=Dg _ (by omega)
       omega
      by_cases u:i<r.kids.length
      ·have j:cA (i:Int) (cz r.kids)=true:=by rw[dv];exact gu (by rw[cP];omega)
       have am:=Z _ (dG u);rw[yb,j,cL,dt u,ig];simp only[cu,ig];rw[I1 d n r.kids[i] (by omega) (by omega) (hk _ (dG u)),dE (by omega)];simp only[cu]
       by_cases h0:0<i
       ·have C:cA 0 (i:Int)=true:=by rw[dv];exact gu (by omega)
        rw[C,cL,fP (by first|omega|(simp only[eS,fY,jx];omega)),cu,fP (by first|omega|(simp only[eS,fY,jx];omega)),cu];have:gS jj A++([40]:cq)++eQ 44 ((r.kids.take i).map (fu d))++([44]:cq)++fu d r.kids[i]=gS jj A++([40]:cq)++eQ 44 ((r.kids.take (i+1)).map (fu d)):=by
         rw[mi u,mG,lk,sC,Ed _ _ _ (by simp;exact⟨by omega,by rintro e;rw[e] at u;simp at u⟩)]
         simp
        rw[this];exact Q (i+1) (by omega) (by omega)
       ·have C:cA 0 (i:Int)=false:=by rw[dv];exact gB (by omega)
        have aa:i=0:=by omega
        subst aa;rw[C,cN,fP (by first|omega|(simp only[eS,fY,jx];omega)),cu];have:gS jj A++([40]:cq)++eQ 44 ((r.kids.take 0).map (fu d))++fu d r.kids[0]=gS jj A++([40]:cq)++eQ 44 ((r.kids.take (0+1)).map (fu d)):=by
         rw[mi u]
         simp[eQ]
        rw[this];exact Q (0+1) (by omega) (by omega)
      ·have:i=r.kids.length:=by omega
       subst this;have j:cA (r.kids.length:Int) (cz r.kids)=false:=by rw[dv];exact gB (by rw[cP];omega)
       rw[yb,j,cN,ig,sD]
    have H:=λK=>P K n 0 (by omega) (by omega);simp only[xF,sC,eQ,G7] at H;refine(H _).trans ?_;have ab:(gS jj A++([40]:cq)++eQ 44 (r.kids.map (fu d))).length<=6000000:=by
     have F:=wh (c:=44) (b:=1000000) (l:=r.kids.map (fu d)) (λw E=>by
      obtain⟨k,y,rfl⟩:=gR.1 E
      exact Z k y)
     have:(1000000+1)*r.kids.length<=(1000000+1)*4:=Dg _ (by omega)
     simp only[oC] at F
     simp only[eS,fY,jx];omega
    generalize gS jj A++([40]:cq)++eQ 44 (r.kids.map (fu d))=o at ab⊢;rw[ig];have R:∀m i:Nat,i<=r.marks.length->r.marks.length<m+i->yc n (pK n) m (o++jk (r.marks.take i)) i r (λD=>ck (cV D [41]) λad=>some ad)=some (o++jk r.marks++[41]):=by
     intro m
     induction m with
     |zero=>intro i H I;omega
     |succ m Q=>
      intro i H I
      have ae:(jk (r.marks.take i)).length<=1000:=by
       have:=wh (c:=44) (b:=43) (l:=(r.marks.take i).map lY) (λw E=>by
        obtain⟨m,hm,rfl⟩:=gR.1 E
        exact Sp (J m (ub hm)))
       unfold jk
       split
       ·simp
       ·simp at this⊢;omega
      by_cases u:i<r.marks.length
      ·have j:cA (i:Int) (cz r.marks)=true:=by rw[dv];exact gu (by rw[cP];omega)
       have an:=J _ (dG u);have a:=ki (x:=r.marks[i].cI) (by omega) (by omega);have b:=ki (x:=r.marks[i].dV) (by omega) (by omega);rw[yc,j,cL,dt u,ig];simp only[cu];rw[mS (by omega) (by omega),mS (by omega) (by omega),dE (by omega)];simp only[cu]
       by_cases h0:i=0
       ·have e0:cp (i:Int) 0=true:=by rw[en];exact gu (by omega)
        rw[e0,cL,fP (by first|omega|(simp only[eS,fY,jx];omega)),cu,fP (by first|omega|(simp only[eS,fY,jx];omega)),cu,fP (by first|omega|(simp only[eS,fY,jx];omega)),cu,fP (by first|omega|(simp only[eS,fY,jx];omega)),cu];subst h0;have:o++jk (r.marks.take 0)++([59]:cq)++itoa r.marks[0].cI++([58]:cq)++itoa r.marks[0].dV=o++jk (r.marks.take (0+1)):=by
         rw[mi u]
         simp[jk,eQ,lY]
        rw[this];exact Q (0+1) (by omega) (by omega)
       ·have e0:cp (i:Int) 0=false:=by rw[en];exact gB (by omega)
        rw[e0,cN,fP (by first|omega|(simp only[eS,fY,jx];omega)),cu,fP (by first|omega|(simp only[eS,fY,jx];omega)),cu,fP (by first|omega|(simp only[eS,fY,jx];omega)),cu,fP (by first|omega|(simp only[eS,fY,jx];omega)),cu];have S:r.marks.take i≠[]:=by
         intro e
         have:=congrArg List.length e
         rw[kh,jx] at this
         omega
        have:o++jk (r.marks.take i)++([44]:cq)++itoa r.marks[i].cI++([58]:cq)++itoa r.marks[i].dV=o++jk (r.marks.take (i+1)):=by
         rw[mi u]
         unfold jk
         rw[cK S,cK (List.append_ne_nil_of_right_ne_nil _ (by simp)),mG,lk,sC,Ed _ _ _ (by simpa using S)]
         simp only[jW,lY]
        rw[this];exact Q (i+1) (by omega) (by omega)
      ·have:i=r.marks.length:=by omega
       subst this;have j:cA (r.marks.length:Int) (cz r.marks)=false:=by rw[dv];exact gB (by rw[cP];omega)
       rw[yc,j,cN];rw[sD] at ae⊢;rw[fP (by first|omega|(simp only[eS,fY,jx];omega)),cu]
    have I:=R n 0 (by omega) (by omega);simp only[xF,jk,cJ,G7] at I;exact I
end
end
section
section
variable{n:Nat}
def kQ(c:UInt8):Bool:=decide (97<=c.toNat/\c.toNat<=122)||decide (48<=c.toNat/\c.toNat<=57)||decide (c.toNat=45)
def CR(s:cq):Prop:=s=[]\/∃c t,s=c::t/\kQ c=false
theorem xa{a b:Int}(h:a<b):cA a b=true:=by rw[dv];exact gu h
theorem th{a b:Int}(h:¬ a<b):cA a b=false:=by rw[dv];exact gB h
theorem drop_cons{s:cq}{a:Nat}{c:UInt8}{t:cq}(h:s.drop a=c::t):a<s.length/\iq s (a:Int)=some (c.toNat:Int)/\s.drop (a+1)=t:=by
 have e:a<s.length:=by
  have:=congrArg List.length h
  simp at this;omega
 rw[kR e] at h;injection h with j u;exact⟨e,by rw[uU e,j],u⟩
theorem drop_nil{s:cq}{a:Nat}(h:s.drop a=[]):s.length<=a:=by
 have:=congrArg List.length h;simp at this;omega
theorem TO{s:cq}{a:Nat}{left:Int}{e:Bool}{f:Int}{m:Nat}{c:UInt8}{t:cq}(F:s.length<2^29)(h:s.drop a=c::t){k:Int->fo->Option (cq×fo)}:oD n (m+1) f ⟨s,a,left,e⟩ k=if kQ c=true then oD n m f ⟨s,((a+1:Nat):Int),left,e⟩ k else k f ⟨s,a,left,e⟩:=by
 obtain⟨H,D,I⟩:=drop_cons h;have j:cA (a:Int) (eg s)=true:=xa (by rw[fV];omega);have E:cw .i64 (a:Int) 1=((a+1:Nat):Int):=dE (by omega);rw[oD];dsimp only;rw[j,cL,D];simp only[cu,E,gv,en]
 by_cases u:97<=(c.toNat:Int)
 ·rw[gu u,cL]
  by_cases x:(c.toNat:Int)<=122
  ·have:kQ c=true:=by unfold kQ;rw[gu (show 97<=c.toNat/\c.toNat<=122 by omega)];rfl
   rw[gu x,cL,cJ this]
  ·have:kQ c=false:=by
     unfold kQ
     rw[gB (show¬ (97<=c.toNat/\c.toNat<=122) by omega),gB (show¬ (48<=c.toNat/\c.toNat<=57) by omega),gB (show¬ c.toNat=45 by omega)];rfl
   rw[gB x,gu (show(48:Int)<=c.toNat by omega),gB (show¬ (c.toNat:Int)<=57 by omega),gB (show¬ (c.toNat:Int)=45 by omega),cK (by simp[this])];rfl
 ·rw[gB u,cN]
  by_cases y:48<=(c.toNat:Int)
  ·rw[gu y,cL]
   by_cases A:(c.toNat:Int)<=57
   ·have:kQ c=true:=by unfold kQ;rw[gu (show 48<=c.toNat/\c.toNat<=57 by omega)];simp
    rw[gu A,cL,cJ this]
   ·have:kQ c=false:=by
      unfold kQ
      rw[gB (show¬ (97<=c.toNat/\c.toNat<=122) by omega),gB (show¬ (48<=c.toNat/\c.toNat<=57) by omega),gB (show¬ c.toNat=45 by omega)];rfl
    rw[gB A,gB (show¬ (c.toNat:Int)=45 by omega),cK (by simp[this])];rfl
  ·rw[gB y,cN]
   by_cases C:(c.toNat:Int)=45
   ·have:kQ c=true:=by unfold kQ;rw[gu (show c.toNat=45 by omega)];simp
    rw[gu C,cL,cJ this]
   ·have:kQ c=false:=by
      unfold kQ
      rw[gB (show¬ (97<=c.toNat/\c.toNat<=122) by omega),gB (show¬ (48<=c.toNat/\c.toNat<=57) by omega),gB (show¬ c.toNat=45 by omega)];rfl
    rw[gB C,cK (by simp[this])];rfl
theorem Wy{s:cq}{left:Int}{D:Bool}{f:Int}(y:s.length<2^29){k:Int->fo->Option (cq×fo)}:∀(w:cq)(m a:Nat)(e:cq),s.drop a=w++e->(∀c∈w,kQ c=true)->CR e->w.length<m->oD n m f ⟨s,a,left,D⟩ k=k f ⟨s,((a+w.length:Nat):Int),left,D⟩
 |_,0,a,e,h,j,u,A=>by omega
 |[],m+1,a,e,h,j,u,A=>by
  rw[ic] at h;rcases u with rfl|⟨c,t,rfl,E⟩
  ·have:=drop_nil h;have C:cA (a:Int) (eg s)=false:=th (by rw[fV];omega);rw[oD];dsimp only;rw[C,cN];rfl
  ·rw[TO y h,cK (by simp[E])];rfl
 |c::w,m+1,a,e,h,j,u,A=>by
  rw[TO y h,cJ (j c (by simp)),Wy y w m (a+1) e (drop_cons h).2.2 (λx hx=>j x (by simp[hx])) u (by simp at A;omega)]
  congr 2
  simp;omega
theorem J4{s w j:cq}{a:Nat}{left:Int}{u:Bool}(y:s.length<2^29)(h:s.drop a=w++j)(A:∀c∈w,kQ c=true)(C:CR j)(D:a<=s.length)(E:2^41<=n):Di n ⟨s,a,left,u⟩=some (w,⟨s,((a+w.length:Nat):Int),left,u⟩):=by
 have x:a+w.length<=s.length:=by
  have:=congrArg List.length h
  simp at this;omega
 unfold Di;dsimp only;refine(Wy y w n a j h A C (by omega)).trans ?_;dsimp only;have e:fg s (a:Int) ((a+w.length:Nat):Int)=some w:=by
  unfold fg
  rw[cJ (by omega),fB,fB,h]
  rw[show a+w.length-a=w.length by omega]
  simp
 rw[e,cu]
theorem yU{s t:cq}{a:Nat}{left:Int}{e:Bool}{c:UInt8}(u:s.length<2^29)(h:s.drop a=c::t):oE n ⟨s,a,left,e⟩ (c.toNat:Int)=some (true,⟨s,((a+1:Nat):Int),left,e⟩):=by
 obtain⟨x,j,y⟩:=drop_cons h;unfold oE;dsimp only;rw[show dz (eg s) (a:Int)=false by rw[gv,fV];exact gB (by omega),cN,j,cu,en,gu rfl];simp only[dO,eN,cN,dE (show a<2^31 by omega)]
theorem J5{s:cq}{a:Nat}{left:Int}{u:Bool}{c:UInt8}(A:a<=s.length)(h:∀t,s.drop a≠c::t):oE n ⟨s,a,left,u⟩ (c.toNat:Int)=some (false,⟨s,a,left,u⟩):=by
 unfold oE;dsimp only;cases j:s.drop a with
 |nil=>
  have:=drop_nil j;rw[show dz (eg s) (a:Int)=true by rw[gv,fV];exact gu (by omega),cL]
 |cons x t=>
  obtain⟨C,y,D⟩:=drop_cons j;have hx:x≠c:=λe=>h t (by rw[j,e]);rw[show dz (eg s) (a:Int)=false by rw[gv,fV];exact gB (by omega),cN,y,cu,en,gB (λe=>hx (OX.1 e))];rfl
theorem Vg{c:UInt8}(h:c.toNat=45\/(48<=c.toNat/\c.toNat<=57)):kQ c=true:=by
 unfold kQ;rcases h with h|h
 ·rw[gu h];simp
 ·rw[gu h];simp
theorem aes{c:UInt8}(h:97<=c.toNat/\c.toNat<=122):kQ c=true:=by
 unfold kQ;rw[gu h];rfl
theorem acV{a:Int}(e:-1000000000<=a)(j:a<=1000000000):gj .i64 a=-a:=by
 unfold gj;rw[IntKind.wrap_i64];omega
theorem Vh{x:Int}(h:-1000000000<=x/\x<=1000000000):qP (itoa x)=(x,true):=by
 by_cases c:0<=x
 ·obtain⟨u,rfl⟩:=gD c;have:(itoa (u:Int)).head?≠some 45:=by
   rw[nh]
   cases e:decDigits u with
   |nil=>simp
   |cons y l=>
    have j:=vW u y (by rw[e];simp)
    simp only[LP,LQ,cW]
    rintro rfl
    have:(45:UInt8).toNat=45:=rfl
    omega
  unfold qP;rw[cK this];have:=EH (x:=(u:Int)) (by omega) (by omega);rw[this,gu c]
 ·obtain⟨u,rfl⟩:∃u:Nat,x=-(u:Int):=⟨x.natAbs,by omega⟩;rw[itoa_neg (by omega)];have a:(45::decDigits u:cq).head?=some 45:=rfl;unfold qP;rw[cJ a];simp only[aio,sE];rw[BT (by omega),acV (by omega) (by omega),gu (show(0:Int)<u by omega)]
theorem acW{s:cq}(h:gy s=true):(qP s).2=false:=by
 obtain⟨a,e,u⟩:=ls h;cases s with
 |nil=>simp at e
 |cons c s=>
  have x:=a c (by simp);have j:(c::s:cq).head?≠some 45:=by
   simp only[LP,LQ,cW]
   rintro rfl
   have:(45:UInt8).toNat=45:=rfl
   omega
  unfold qP;rw[cK j];have:ea (c::s)=-1:=by
   unfold ea
   rw[cK]
   have:mP c=false:=by unfold mP;exact gB (by omega)
   simp[this]
  rw[this];rfl
theorem RA{s e:cq}{a:Nat}{left x:Int}(u:s.length<2^29)(hx:-1000000000<=x/\x<=1000000000)(h:s.drop a=itoa x++e)(y:CR e)(A:a<=s.length)(j:2^41<=n):Ab n ⟨s,a,left,true⟩=some (x,⟨s,((a+(itoa x).length:Nat):Int),left,true⟩):=by
 unfold Ab;rw[J4 u h (λc C=>Vg (wg c C)) y A j,cu];dsimp only;rw[Ko j,cu,Vh hx];rfl
theorem I2{c:UInt8}{t:cq}(h:kQ c=false):CR (c::t):=.inr ⟨c,t,rfl,h⟩
theorem V5{s:cq}{left:Int}(hs:s.length<2^28)(P:2^41<=n):∀(j:List Mark)(m a:Nat)(u:List Mark)(A:cq),j≠[]->(∀x∈j,(0<=x.cI/\x.cI<=1000000000)/\0<=x.dV/\x.dV<=1000000)->u.length+j.length<=5->s.drop a=eQ 44 (j.map lY)++A->a<=s.length->(∃t,A=41::t)->j.length<m->Aa n m u ⟨s,a,left,true⟩ (λE Q=>some (E,Q))=some (u++j,⟨s,((a+(eQ 44 (j.map lY)).length:Nat):Int),left,true⟩)
 |[],m,a,u,A,R,J,S,M,U,Y,N=>absurd rfl R
 |x::j,0,a,u,A,R,J,S,M,U,Y,N=>by simp at N
 |x::j,m+1,a,u,A,R,J,S,M,U,Y,N=>by
  obtain⟨t,rfl⟩:=Y;have hx:=J x (by simp);simp only[fY] at S N;have C:a+(eQ 44 ((x::j).map lY)).length+(41::t).length=s.length:=by
   have:=congrArg List.length M
   simp only[mF,eS] at this
   omega
  obtain⟨D,F,H⟩:∃D,eQ 44 ((x::j).map lY)=itoa x.cI++58::(itoa x.dV++D)/\(j=[]/\D=[]\/j≠[]/\D=44::eQ 44 (j.map lY)):=by
   cases j with
   |nil=>exact⟨[],by simp[eQ,lY],.inl ⟨rfl,rfl⟩⟩
   |cons y j=>exact⟨44::eQ 44 ((y::j).map lY),by simp[eQ,lY],.inr ⟨by simp,rfl⟩⟩
  have Z:(eQ 44 ((x::j).map lY)).length=(itoa x.cI).length+1+((itoa x.dV).length+D.length):=by rw[F];simp;omega
  have e1:s.drop a=itoa x.cI++(58::(itoa x.dV++(D++41::t))):=by rw[M,F];simp
  have e2:s.drop (a+(itoa x.cI).length)=58::(itoa x.dV++(D++41::t)):=by rw[<-q8,e1];simp
  have e3:s.drop (a+(itoa x.cI).length+1)=itoa x.dV++(D++41::t):=(drop_cons e2).2.2;have e4:s.drop (a+(itoa x.cI).length+1+(itoa x.dV).length)=D++41::t:=by rw[<-q8,e3];simp
  have I:CR (D++41::t):=by
   rcases H with⟨_,rfl⟩|⟨_,rfl⟩
   ·exact I2 (by decide)
   ·exact I2 (by decide)
  rw[Z] at C⊢;simp only[fY] at C;rw[Aa];dsimp only;rw[cL,show dz (cz u) 5=true by rw[gv,cP];exact gu (by omega),cL,RA (by omega) (by omega) e1 (I2 (by decide)) U P,cu];dsimp only;rw[cL,show(58:Int)=((58:UInt8).toNat:Int) from rfl,yU (by omega) e2,cu];dsimp only;rw[RA (by omega) (by omega) e3 I (by omega) P,cu];dsimp only;rw[fH (by simp;omega) (by omega),cu,show(44:Int)=((44:UInt8).toNat:Int) from rfl];rcases H with⟨rfl,rfl⟩|⟨aa,rfl⟩
  ·rw[J5 (by omega) (λt' e=>by rw[e4] at e;cases e),cu];dsimp only;simp only[dO,gE,cL,jx,q6]
   congr 4
   omega
  ·rw[yU (by omega) e4,cu];dsimp only;simp only[dO,eN,cN];simp only[fY] at C⊢;refine(V5 hs P j m (a+(itoa x.cI).length+1+(itoa x.dV).length+1) (u++[⟨x.cI,x.dV⟩]) (41::t) aa (λy hy=>J y (by simp[hy])) (by simp;omega) ((drop_cons e4).2.2) (by omega) ⟨t,rfl⟩ (by omega)).trans ?_;rw[jW,xI]
   congr 4
   omega
theorem afy{a:Nat}{e:Int}{j:fo->Int->Option (cn×fo)}{r:fo}{k:Int->cn->fo->Option (cn×fo)}(h:3<=a/\a<=10)(u:2^41<=n):Dh n j n e (gS jj a) 3 (cn.mk 0 0 [] [] []) r k=k e (cn.mk a 0 [] [] []) r:=by
 obtain⟨m,rfl⟩:∃m,n=m+9:=⟨n-9,by omega⟩;have:a=3\/a=4\/a=5\/a=6\/a=7\/a=8\/a=9\/a=10:=by omega
 rcases this with rfl|rfl|rfl|rfl|rfl|rfl|rfl|rfl<;>rfl
theorem acX{a:Nat}(h:3<=a/\a<=10):∀c∈gS jj a,kQ c=true:=by
 have:a=3\/a=4\/a=5\/a=6\/a=7\/a=8\/a=9\/a=10:=by omega
 rcases this with rfl|rfl|rfl|rfl|rfl|rfl|rfl|rfl<;>decide
def K4(s:cq):Prop:=s=[]\/∃c t,s=c::t/\kQ c=false/\c≠40
theorem K4.w{s:cq}(h:K4 s):CR s:=by
 rcases h with rfl|⟨c,t,rfl,h,_⟩
 ·exact .inl rfl
 ·exact .inr ⟨c,t,rfl,h⟩
def km(d:Nat)(a:List cn)(i:Nat):cq:=if i<a.length then(if 0<i then[44] else[])++eQ 44 ((a.drop i).map (fu d)) else[]
theorem Z6{d:Nat}{a:List cn}{i:Nat}(h:i<a.length):eQ 44 ((a.drop i).map (fu d))=fu d a[i]++km d a (i+1):=by
 rw[kR h,lk];unfold km
 by_cases c:i+1<a.length
 ·rw[cJ c,cJ (by omega),kR c,lk];rfl
 ·rw[cK c,Qb (by omega)];simp[eQ]
theorem Vi:∀(d n:Nat)(r:cn)(j:Int)(s:cq)(a:Nat)(left:Int)(rest:cq),2^41+d<=n->d<=6->lX d r->s.length<2^20->s.drop a=fu d r++rest->a<=s.length->K4 rest->j=7-d->(ja d r:Int)<=left->left<=30->qq n ⟨s,a,left,true⟩ j=some (r,⟨s,((a+(fu d r).length:Nat):Int),left-ja d r,true⟩)
 |0,n,r,j,s,a,left,rest,hn,hd,h,hs,P,ha,he,au,hl,av=>absurd h (by simp[lX])
 |d+1,n,r,j,s,a,left,rest,hn,hd,h,hs,P,ha,he,au,hl,av=>by
  obtain⟨n,rfl⟩:∃m,n=m+1:=⟨n-1,by omega⟩;obtain⟨y,hk⟩:=h;have aH:=(wi r.op).2 (by have:=y.k;omega);have k4:=(wi r.op).1;have kl:r.kids.length<=4:=by have:=y.k;omega
  have aI:1<=ja (d+1) r:=by rw[ja];omega
  have e1:cQ .i64 left 1=left-1:=lJ (by omega) (by omega) (by omega) (by omega);have ah:a+(fu (d+1) r).length+rest.length=s.length:=by
   have:=congrArg List.length P
   simp only[mF,eS] at this
   omega
  rw[qq];dsimp only;rw[e1,th (show¬ left-1<0 by omega),cN,th (show¬ 6<j by omega),cN];simp only[dO,eN,cN]
  by_cases c1:r.op=1
  ·have aw:=y.n1 c1;have D:fu (d+1) r=itoa r.num:=by rw[fu,cJ c1]
   have x:r.kids=[]:=nL.1 (by have:=y.k;rw[c1,show pX 1=0 from rfl] at this;omega);have ab:ja (d+1) r=1:=by rw[ja,x];rfl
   rw[D] at P ah⊢;rw[J4 (by omega) P (λc hc=>Vg (wg c hc)) he.w ha (by omega),cu];dsimp only;have e2:s.drop (a+(itoa r.num).length)=rest:=by rw[<-q8,P];simp
   rw[show(40:Int)=((40:UInt8).toNat:Int) from rfl,J5 (by omega) (λt e=>by
    rw[e2] at e
    rcases he with rfl|⟨c,t',rfl,_,ad⟩
    ·cases e
    ·injection e with e _;exact ad e),cu];dsimp only;simp only[gE,cL];rw[Ko (by omega),cu,Vh aw];dsimp only;rw[cL,ab];have:cn.mk 1 r.num [] [] []=r:=by
    have h1:=y.name (by omega)
    have U:=y.qY (by omega)
    cases r
    simp only[cn.op,cn.num,cn.name,cn.kids,cn.marks] at*
    subst c1 h1 U x
    rfl
   rw[this];rfl
  by_cases c2:r.op=2
  ·have ai:=y.n2 c2;have D:fu (d+1) r=r.name:=by rw[fu,cK c1,cJ c2]
   have x:r.kids=[]:=nL.1 (by have:=y.k;rw[c2,show pX 2=0 from rfl] at this;omega);have ab:ja (d+1) r=1:=by rw[ja,x];rfl
   rw[D] at P ah⊢;rw[J4 (by omega) P (λc hc=>aes ((ls ai).1 c hc)) he.w ha (by omega),cu];dsimp only;have e2:s.drop (a+r.name.length)=rest:=by rw[<-q8,P];simp
   rw[show(40:Int)=((40:UInt8).toNat:Int) from rfl,J5 (by omega) (λt e=>by
    rw[e2] at e
    rcases he with rfl|⟨c,t',rfl,_,ad⟩
    ·cases e
    ·injection e with e _;exact ad e),cu];dsimp only;simp only[gE,cL];rw[Ko (by omega),cu,acW ai,cN,ab];have:cn.mk 2 0 r.name [] []=r:=by
    have h1:=y.num (by omega)
    have U:=y.qY (by omega)
    cases r
    simp only[cn.op,cn.num,cn.name,cn.kids,cn.marks] at*
    subst c2 h1 U x
    rfl
   rw[this];rfl
  obtain⟨u,A⟩:=gD (show 0<=r.op by omega);have Y:3<=u/\u<=10:=by omega
  have D:fu (d+1) r=gS jj u++[40]++eQ 44 (r.kids.map (fu d))++jk r.marks++[41]:=by
   rw[fu,cK c1,cK c2,A,fB]
  have ax:1<=r.kids.length:=by
   have aJ:=y.k
   have:1<=pX r.op:=by
    rw[A]
    have:u=3\/u=4\/u=5\/u=6\/u=7\/u=8\/u=9\/u=10:=by omega
    rcases this with rfl|rfl|rfl|rfl|rfl|rfl|rfl|rfl<;>decide
   omega
  have aj:km d r.kids 0=eQ 44 (r.kids.map (fu d)):=by
   unfold km
   rw[cJ (by omega),cK (by omega)]
   rfl
  have C:(fu (d+1) r).length=(gS jj u).length+1+(km d r.kids 0).length+(jk r.marks).length+1:=by
   rw[D,aj];simp only[eS,fY,jx]
  have f1:s.drop a=gS jj u++(40::(km d r.kids 0++(jk r.marks++41::rest))):=by
   rw[P,D,aj];simp only[jW,pI,ic]
  have f2:s.drop (a+(gS jj u).length)=40::(km d r.kids 0++(jk r.marks++41::rest)):=by rw[<-q8,f1];simp
  have f3:=(drop_cons f2).2.2;rw[J4 (by omega) f1 (acX Y) (I2 (by decide)) ha (by omega),cu];dsimp only;rw[show(40:Int)=((40:UInt8).toNat:Int) from rfl,yU (by omega) f2,cu];dsimp only;simp only[eN,cN];refine(afy Y (by omega)).trans ?_
  try dsimp only
  have ay:∀(K:cn->fo->Option (cn×fo)),∀m i b:Nat,∀Q:Int,i<=r.kids.length->r.kids.length<m+i->s.drop b=km d r.kids i++(jk r.marks++41::rest)->b<=s.length->Q=left-1-(((r.kids.take i).map (ja d)).sum:Nat)->uc n (qq n) m j i (cn.mk u 0 [] (r.kids.take i) []) ⟨s,b,Q,true⟩ K=K (cn.mk u 0 [] r.kids []) ⟨s,((b+(km d r.kids i).length:Nat):Int),left-ja (d+1) r,true⟩:=by
   intro K m
   induction m with
   |zero=>intro i b Q h1 U;omega
   |succ m ih=>
    intro i b Q h1 U h3 h4 h5
    have ak:wu n (cn.op (cn.mk u 0 [] (r.kids.take i) []))=some (r.kids.length:Int):=by
     show wu n (u:Int)=_
     rw[OD,<-A,y.k]
    by_cases hi:i<r.kids.length
    ·have ae:cA (i:Int) (r.kids.length:Int)=true:=xa (by omega);have aF:((r.kids.map (ja d)).sum:Nat)=((r.kids.take i).map (ja d)).sum+ja d r.kids[i]+((r.kids.drop (i+1)).map (ja d)).sum:=by
      conv=>lhs;rw[<-YW i r.kids,kR hi]
      rw[mG,lk,Y2,Y3]
      omega
     have aG:ja (d+1) r=1+(r.kids.map (ja d)).sum:=rfl;have E:(km d r.kids i)=(if 0<i then[44] else[])++(fu d r.kids[i]++km d r.kids (i+1)):=by
      rw[<-Z6 hi]
      unfold km
      rw[cJ hi]
     have am:K4 (km d r.kids (i+1)++(jk r.marks++41::rest)):=by
      unfold km
      split
      ·rw[cJ (by omega)];exact .inr ⟨44,_,rfl,by decide,by decide⟩
      ·rw[ic];unfold jk;split
       ·exact .inr ⟨41,_,rfl,by decide,by decide⟩
       ·exact .inr ⟨59,_,rfl,by decide,by decide⟩
     have Z:∀F:Nat,F<=s.length->s.drop F=fu d r.kids[i]++(km d r.kids (i+1)++(jk r.marks++41::rest))->qq n ⟨s,F,Q,true⟩ (j+1)=some (r.kids[i],⟨s,((F+(fu d r.kids[i]).length:Nat):Int),Q-ja d r.kids[i],true⟩):=λF an R=>
      Vi d n r.kids[i] (j+1) s F Q _ (by omega) (by omega) (hk _ (dG hi)) hs R an am (by omega) (by omega) (by omega)
     have H:∀F:Nat,s.drop F=fu d r.kids[i]++(km d r.kids (i+1)++(jk r.marks++41::rest))->F<=s.length->F+(fu d r.kids[i]).length<=s.length/\s.drop (F+(fu d r.kids[i]).length)=km d r.kids (i+1)++(jk r.marks++41::rest):=λF R an=>by
      have:=congrArg List.length R
      simp only[mF,eS] at this
      refine⟨by omega,?_⟩
      rw[<-q8,R];simp
     have ao:Q-ja d r.kids[i]=left-1-(((r.kids.take (i+1)).map (ja d)).sum:Nat):=by
      rw[mi hi,mG,Y2,lk,sC,Y3,List.sum_nil]
      omega
     have ap:cw .i64 j 1=j+1:=iY (by omega) (by omega) (by omega) (by omega);have aa:∀k:cn,cT 80 (r.kids.take i) [k]=some (r.kids.take i++[k]):=λk=>fH (by simp;omega) (by omega);have I:r.kids.take i++[r.kids[i]]=r.kids.take (i+1):=(mi hi).symm;rw[uc,ak,cu,ae,cL];dsimp only;rw[cL,ap,dE (by omega)]
     by_cases h0:i=0
     ·have e0:cp (i:Int) 0=true:=by rw[en];exact gu (by omega)
      rw[cK (by omega),ic] at E;have S:=h3;rw[E,jW] at S;obtain⟨g1,g2⟩:=H b S h4;rw[e0,cL,Z b h4 S,cu];dsimp only;rw[ig];show ck (cT 80 (r.kids.take i) [r.kids[i]]) _=_;rw[aa,cu,I];show uc n (qq n) m j ((i+1:Nat):Int) (cn.mk u 0 [] (r.kids.take (i+1)) []) _ K=_;rw[ih (i+1) _ _ (by omega) (by omega) g2 g1 ao]
      congr 2
      rw[E,eS]
      congr 1;omega
     ·have e0:cp (i:Int) 0=false:=by rw[en];exact gB (by omega)
      rw[cJ (by omega)] at E;have S:=h3;rw[E] at S;simp only[jW,pI,ic] at S;have aq:=(drop_cons S).2.2;have aK:=(drop_cons S).1;obtain⟨g1,g2⟩:=H (b+1) aq (by omega);rw[e0,cN,show(44:Int)=((44:UInt8).toNat:Int) from rfl,yU (by omega) S,cu];dsimp only;rw[Z (b+1) (by omega) aq,cu];dsimp only;rw[ig];show ck (cT 80 (r.kids.take i) [r.kids[i]]) _=_;rw[aa,cu,I];show uc n (qq n) m j ((i+1:Nat):Int) (cn.mk u 0 [] (r.kids.take (i+1)) []) _ K=_;rw[ih (i+1) _ _ (by omega) (by omega) g2 g1 ao]
      congr 2
      rw[E];simp only[eS,fY,jx]
      congr 1;omega
    ·have:i=r.kids.length:=by omega
     subst this;have ae:cA (r.kids.length:Int) (r.kids.length:Int)=false:=th (by omega);have az:km d r.kids r.kids.length=[]:=by unfold km;rw[cK (by omega)]
     rw[uc,ak,cu,ae,cN,sD,az];rw[sD] at h5;have:Q=left-ja (d+1) r:=by rw[ja];omega
     rw[this];rfl
  have aA:a+(gS jj u).length+1<=s.length:=by have:=(drop_cons f2).1;omega
  have U:=λK=>ay K n 0 (a+(gS jj u).length+1) (left-1) (by omega) (by omega) f3 aA (by simp);rw[xF] at U;refine(U _).trans ?_;dsimp only;rw[cL];have f4:s.drop (a+(gS jj u).length+1+(km d r.kids 0).length)=jk r.marks++41::rest:=by rw[<-q8,f3];simp
  have J:∀ms,ms=r.marks->cn.mk (cn.op (cn.mk u 0 [] r.kids [])) (cn.num (cn.mk u 0 [] r.kids [])) (cn.name (cn.mk u 0 [] r.kids [])) (cn.kids (cn.mk u 0 [] r.kids [])) ms=r:=λms aB=>by
   have g1:=y.num c1
   have g2:=y.name c2
   subst aB
   rw[<-A]
   show cn.mk r.op 0 [] r.kids r.marks=r
   rw[<-g1,<-g2,ig]
  by_cases hm:r.marks=[]
  ·have M:jk r.marks=[]:=by unfold jk;rw[cJ hm]
   rw[M,ic] at f4;have N:=J [] hm.symm;rw[M] at C;rw[show(59:Int)=((59:UInt8).toNat:Int) from rfl,J5 (by have:=(drop_cons f4).1;omega) (λt e=>by rw[f4] at e;cases e),cu];dsimp only;rw[cN,cL,show(41:Int)=((41:UInt8).toNat:Int) from rfl,yU (by omega) f4,cu];dsimp only;rw[show cn.marks (cn.mk u 0 [] r.kids [])=[] from rfl,N];rw[C,jx]
   congr 4
   omega
  ·have af:r.op=10:=by
     by_cases c:r.op=10
     ·exact c
     ·exact absurd (y.qY c) hm
   obtain⟨aC,aL,aM⟩:=Ef (y.n3 af);have M:jk r.marks=59::eQ 44 (r.marks.map lY):=by unfold jk;rw[cK hm];rfl
   rw[M,pI] at f4;have f5:=(drop_cons f4).2.2;have f6:s.drop (a+(gS jj u).length+1+(km d r.kids 0).length+1+(eQ 44 (r.marks.map lY)).length)=41::rest:=by rw[<-q8,f5];simp
   have N:=J r.marks rfl;have aD:a+(gS jj u).length+1+(km d r.kids 0).length+1<=s.length:=by have:=(drop_cons f4).1;omega
   rw[M] at C;rw[show(59:Int)=((59:UInt8).toNat:Int) from rfl,yU (by omega) f4,cu];dsimp only;rw[cL];have hM:=V5 (n:=n) (left:=left-ja (d+1) r) (s:=s) (by omega) (by omega) r.marks n _ [] (41::rest) hm aC (by simp;omega) f5 aD ⟨rest,rfl⟩ (by omega);have aE:Hc n ⟨s,((a+(gS jj u).length+1+(km d r.kids 0).length+1:Nat):Int),left-ja (d+1) r,true⟩=some (r.marks,⟨s,((a+(gS jj u).length+1+(km d r.kids 0).length+1+(eQ 44 (r.marks.map lY)).length:Nat):Int),left-ja (d+1) r,true⟩):=by
    unfold Hc
    exact hM
   rw[aE,cu];dsimp only;rw[cL,show(41:Int)=((41:UInt8).toNat:Int) from rfl,yU (by omega) f6,cu];dsimp only;rw[N]
   congr 3
   rw[C,fY]
   congr 1;omega
end
end
section
section
variable{n:Nat}
structure qK(n:Nat)(r:cn):Prop where
 p:lX 6 r
 s:ja 6 r<=30
 w:(fu 6 r).length<=300
 ok:rz n r=some true
theorem lX.z:∀(d:Nat)(r:cn),lX d r->kk d r
 |0,r,h=>h
 |d+1,r,⟨h,e⟩=>by
  have k1:=h.k;have k2:=(wi r.op).1;have m:=(Mn h).2;refine⟨by omega,by omega,?_,λk a=>lX.z d k (e k a)⟩
  by_cases c:r.op=2
  ·have:=(ls (h.n2 c)).2.2;omega
  ·rw[h.name c];simp
theorem Sq{z:Nat}{r:cn}(j:kk z r)(u:2^41+6<=n):Ok (rz n r) λb=>b=true->lX 6 r/\ja 6 r<=30/\(fu 6 r).length<=300:=by
 unfold rz;rw[ig];refine c8 (TN 6 z n r 1 30 (by omega) j (by omega) (by omega) (by omega)) λx hx=>nu (λa=>?_) λa=>cF (λh=>by cases h);obtain⟨e,y⟩:=hx.2.2 a;rw[I1 6 n r (by omega) (by omega) e,cu];refine cF λh=>⟨e,by omega,?_⟩;rw[gv,dF,fV] at h;omega
theorem qK.of{z:Nat}{r:cn}(hz:kk z r)(h:rz n r=some true)(j:2^41+6<=n):qK n r:=by
 obtain⟨b,e,u⟩:=Sq hz j;rw[h] at e;injection e with e;obtain⟨a,c,d⟩:=u e.symm;exact⟨a,c,d,h⟩
theorem qK.write{r:cn}(h:qK n r)(a:2^41+6<=n):AS n r=some (fu 6 r):=by
 unfold AS;rw[ig,h.ok,cu,dO,eN,cN,I1 6 n r (by omega) (by omega) h.p,cu]
theorem aa8{d:Nat}{r:cn}(h:lX (d+1) r):fu (d+1) r≠[]:=by
 unfold fu;split
 ·intro e;have:=congrArg List.length e;rename_i c
  by_cases j:0<=r.num
  ·obtain⟨u,a⟩:=gD j;rw[a,nh] at e;exact uI u e
  ·obtain⟨u,a⟩:∃u:Nat,r.num=-(u:Int):=⟨r.num.natAbs,by omega⟩;rw[a,itoa_neg (by omega)] at e;cases e
 ·split
  ·rename_i c;have:=(ls (h.1.n2 c)).2.1;intro e;rw[e] at this;simp at this
  ·simp
theorem qK.read{r:cn}(h:qK n r)(e:2^41+6<=n):HK n (fu 6 r)=some (r,true):=by
 have j:=h.w;have a:=Vi 6 n r 1 (fu 6 r) 0 30 [] (by omega) (by omega) h.p (by omega) (by simp) (by omega) (.inl rfl) (by omega) (by have:=h.s;omega) (by omega);rw[ia] at a;unfold HK;rw[show dz (eg (fu 6 r)) 300=true by rw[gv,fV];exact gu (by omega)];refine(congrArg (λo=>ck o _) a).trans ?_;rw[cu];dsimp only;rw[dO,eN,cN,fV,en,gu rfl,dO,eN,cN,kF,gB (aa8 h.p),cN,ig,h.write e,cu,kF,gu rfl,dO,eN,cN]
def lK(a:List cq):Nat->cn->Prop|0,_=>False|d+1,r=>(r.op=2->r.name∈a)/\∀k∈r.kids,lK a d k
theorem aet{a:List cq}{s:cq}(N:a.length<=10000000)(P:2^41<=n):Ok (JH n a s) λl=>(∀x∈l,x∈a\/x=s)/\l.length<=a.length+1:=by
 have y:∀(Q:List cq->Prop)(K:List cq->cq->Int->Option (List cq)),(∀j:Nat,j<=a.length->Ok (K a s j) Q)->∀m i:Nat,i<=a.length->a.length<m+i->Ok (DV n m a s i K) Q:=by
  intro Q K D m
  induction m with
  |zero=>intro i A E;omega
  |succ m F=>
   intro i A E
   rw[DV]
   refine dY (λe=>?_) λe=>D i A
   rw[cP] at e
   refine iI (by omega) (by omega) λx _ _=>dR (λ_=>?_) λ_=>D i A
   rw[dE (by omega)]
   exact F (i+1) (by omega) (by omega)
 unfold JH;refine y _ _ (λj R=>?_) n 0 (by omega) (by omega);have u:Ok (ck (eR a 0 (j:Int)) λH=>ck (cT 16 [] H) λI=>ck (cT 16 I [s]) λJ=>ck (eR a (j:Int) (cz a)) λM=>ck (cT 16 J M) λC=>some C) λl=>(∀x∈l,x∈a\/x=s)/\l.length<=a.length+1:=by
  refine w5 (by omega) (by omega) (by omega) (eU (by simp;omega) (by omega) (eU (by simp;omega) (by omega) (w5 (by omega) (by rw[cP];omega) (by rw[cP];omega) (eU (by simp[cP];omega) (by omega) (cF ⟨λx hx=>?_,?_⟩)))))
  ·simp only[ic,eB,fM] at hx;rcases hx with(hx|hx)|hx
   ·exact .inl (G8 (ub hx))
   ·exact .inr hx
   ·exact .inl (G8 (ub hx))
  ·simp[cP];omega
 refine dY (λe=>?_) λe=>u;rw[cP] at e;exact iI (by omega) (by omega) λx _ _=>n4 (λ_=>cF ⟨λx hx=>.inl hx,by omega⟩) λ_=>u
theorem Sr{names:List cq}:∀(d n:Nat)(r:cn)(e:List cq),2^41+d<=n->d<=6->lK names d r->kk d r->(∀x∈e,x∈names)->e.length+11^d<=10000000->Ok (v7 n r e) λl=>(∀x∈l,x∈names)/\l.length<=e.length+11^d
 |0,n,r,e,M,N,P,hz,C,Q=>absurd P (by simp[lK])
 |d+1,n,r,e,M,N,⟨D,E⟩,⟨R,S,U,F⟩,C,Q=>by
  obtain⟨n,rfl⟩:∃m,n=m+1:=⟨n-1,by omega⟩;have hp:(11:Nat)^(d+1)=11*11^d:=by rw[tZ];omega
  have Y:1<=11^d:=Qq _ _ (by omega);have u:∀(K:List cq->Option (List cq))(b:Nat),(∀l,K l=some l)->∀m i:Nat,∀a:List cq,i<=r.kids.length->r.kids.length<m+i->(∀x∈a,x∈names)->a.length<=e.length+1+11^d*i->Ok (Ax n (v7 n) m a i r K) λl=>(∀x∈l,x∈names)/\l.length<=e.length+11^(d+1):=by
   intro K b Z m
   induction m with
   |zero=>intro i a h1 h2;omega
   |succ m ih=>
    intro i a h1 h2 H h4
    rw[Ax]
    refine dY (λI=>?_) λI=>?_
    ·rw[cP] at I;have j:i<r.kids.length:=by omega
     have J:11^d*(i+1)<=11^d*10:=Dg _ (by omega);rw[Qo] at J;rw[dt j,cu,ig,ig,dE (by omega)];refine c8 (Sr d n r.kids[i] a (by omega) (by omega) (E _ (dG j)) (F _ (dG j)) H (by omega)) λy A=>ih (i+1) y (by omega) (by omega) A.1 (by have:=A.2;rw[Qo];omega)
    ·rw[Z];have J:11^d*i<=11^d*10:=Dg _ (by omega);exact cF ⟨H,by omega⟩
  rw[v7,ig];refine ok_eq (λc=>?_) λc=>?_
  ·refine c8 (aet (by omega) (by omega)) λx hx=>u _ 0 (λl=>rfl) n 0 x (by omega) (by omega) (λy A=>?_) (by have:=hx.2;omega);rcases hx.1 y A with h|h
   ·exact C y h
   ·rw[h];exact D c
  ·exact u _ 0 (λl=>rfl) n 0 e (by omega) (by omega) C (by omega)
def jd:List cq:=[[108,101,103,115],[115,101,97,116,115],[116,105,109,101]]
structure uW(n:Nat)(f:fx):Prop where
 nm:gy f.name=true
 cls:0<=f.cls/\f.cls<=2
 r:∃r,f.lM=fu 6 r/\qK n r/\E0 n f=some (r,true)
theorem acY{f:fx}{d:Nat}{r:cn}(a:gy f.name=true)(C:0<=f.cls/\f.cls<=2)(D:f.lM=fu 6 r)(j:qK n r)(u:d<=6)(H:lK jd d r)(I:kk d r)(J:2^41+6<=n):uW n f:=by
 refine⟨a,C,r,D,j,?_⟩;obtain⟨l,el,M,x⟩:=Sr (names:=jd) d n r [] (by omega) u H I (by simp) (by
  have:11^d<=11^6:=vz (by omega) u
  simp;omega);have E:l.length<=10000000:=by
  have:11^d<=11^6:=vz (by omega) u
  simp at x;omega
 have N:=(ls a).2.2;unfold E0;rw[D,j.read J,cu,dO,eN,cN,ru (by omega) (by omega),cu,a,dO,eN,cN,rG,cu,gu C,dO,eN,cN];simp only[ig];have y:Hu n r=some l:=by
  unfold Hu
  rw[ig,j.ok,cu,dO,eN,cN,el,cu]
 rw[y,cu];have A:∀K:cn->Option (cn×Bool),∀m i:Nat,i<=l.length->l.length<m+i->ym n m l i r K=K r:=by
  intro K m
  induction m with
  |zero=>intro i P Q;omega
  |succ m R=>
   intro i P Q
   rw[ym]
   by_cases F:i<l.length
   ·rw[show cA (i:Int) (cz l)=true by rw[dv,cP];exact gu (by omega),cL,dt F];simp only[cu,ig];rw[dE (by omega),R (i+1) (by omega) (by omega)];have:=M _ (dG F);simp only[jd,eo,mH,mI] at this;rcases this with e|e|e<;>rw[e]<;>rfl
   ·rw[show cA (i:Int) (cz l)=false by rw[dv,cP];exact gB (by omega),cN,ig]
 exact A _ n 0 (by omega) (by omega)
end
end
section
section
variable{n:Nat}
theorem TP{M:Int}(H:M<=999999999000){k:List Mark->Rd->Option (List Mark×Rd)}{Q:List Mark×Rd->Prop}:∀(m c:Nat)(j:List Mark)(r:Rd),1<=j.length->c+j.length<=4->c<m->dN (M+2*j.length) r->(∀u E,1<=u.length->u.length<=4->dN (M+8) E->Ok (k u E) Q)->Ok (Dq n m j c r k) Q
 |0,c,j,r,F,I,J,A,K=>by omega
 |m+1,c,j,r,F,I,J,A,K=>by
  rw[Dq];refine dY (λN=>?_) λN=>K j r F (by omega) (A.mono (by omega));have e:cQ .i64 (cz j) 1=((j.length-1:Nat):Int):=by rw[cP,ij];omega
  rw[e];refine iI (by omega) (by omega) λa _ _=>iI (by omega) (by omega) λb _ _=>?_;refine ef A (by omega) (by omega) λx R S U C=>ef C (by omega) (by omega) λy P Y Z D=>?_;refine eU (by simp;omega) (by omega) ?_;rw[show cQ .i64 (c:Int) 1=((c-1:Nat):Int) by rw[ij];omega];exact TP H m (c-1) _ P (by simp) (by simp;omega) (by omega) (D.mono (by simp;omega)) K
theorem Z7{N:Int}{r:Rd}(E:dN N r)(I:N<=999999990000)(J:2^41<=n):Ok (HI n r) λx=>x.1.length<=10/\dN (N+10) x.2:=by
 unfold HI;refine ef E (by omega) (by omega) λx P Q R A=>ef A (by omega) (by omega) λy F H S C=>?_;obtain⟨y,rfl⟩:=gD H;refine TP (n:=n) (M:=N) (by omega) n y _ F (by simp) (by simp;omega) (by omega) (C.mono (by simp;omega)) λj U Y Z D=>?_;refine ef D (by omega) (by omega) λz r4 z0 z1 u=>ok_eq (λ_=>?_) λ_=>cF ⟨by show j.length<=10;omega,u.mono (by omega)⟩;have e:cQ .i64 (cz j) 1=((j.length-1:Nat):Int):=by rw[cP,ij];omega
 rw[e];exact iI (by omega) (by omega) λa _ _=>iI (by omega) (by omega) λb _ _=>cF ⟨by show(db _ _ _).length<=10;rw[lq];omega,u.mono (by omega)⟩
theorem Z8{x:cq}(h:x∈jd):x.length<=1000:=by
 simp only[jd,eo,mH,mI] at h;rcases h with rfl|rfl|rfl<;>simp
theorem ago{v:Int}{d:Nat}:kk (d+1) (cn.mk 1 v [] [] [])/\lK jd (d+1) (cn.mk 1 v [] [] []):=⟨⟨by show(0:Nat)<=10;omega,by show(0:Nat)<=10;omega,by show(0:Nat)<=1000;omega,λk a=>by cases a⟩,(λh=>absurd (show(1:Int)=2 from h) (by omega)),λk a=>by cases a⟩
theorem Pv{s:cq}{d:Nat}(h:s∈jd):kk (d+1) (cn.mk 2 0 s [] [])/\lK jd (d+1) (cn.mk 2 0 s [] []):=⟨⟨by show(0:Nat)<=10;omega,by show(0:Nat)<=10;omega,Z8 h,λk a=>by cases a⟩,λ_=>h,λk a=>by cases a⟩
theorem Vj{e M B:Int}{d f:Nat}(A:0<=B/\B<=1000000)(I:M<=999900000000){F:Rd->Int->List cq->Option (cn×Rd)}(y:∀(r:Rd)(N:Int),N<=M+B*3->dN N r->Ok (F r (cw .i64 e 1) jd) λx=>(kk d x.1/\lK jd d x.1)/\dN (N+B) x.2){op:Int}(C:op≠2){k:cn->Rd->Option (cn×Rd)}{Q:cn×Rd->Prop}:∀(m c:Nat)(a:List cn)(r:Rd),c+a.length<=4->c<m->(∀k∈a,kk d k/\lK jd d k)->dN (M+B*a.length) r->(∀j H,j.length<=4->(∀k∈j,kk d k/\lK jd d k)->dN (M+B*4) H->Ok (k (cn.mk op 0 [] j []) H) Q)->Ok (DA f F m e jd c (cn.mk op 0 [] a []) r k) Q
 |0,c,a,r,J,P,D,E,K=>by omega
 |m+1,c,a,r,J,P,D,E,K=>by
  have U:B*a.length<=B*4:=Qp (by omega) A.1;rw[DA];refine dY (λR=>?_) λR=>?_
  ·have S:B*a.length<=B*3:=Qp (by omega) A.1;refine c8 (y r (M+B*a.length) (by omega) E) λx hx=>?_;rw[ig];show Ok (ck (cT 80 a [x.1]) _) Q;refine eU (by simp;omega) (by omega) ?_;rw[show cQ .i64 (c:Int) 1=((c-1:Nat):Int) by rw[ij];omega];refine Vj A I y C m (c-1) (a++[x.1]) x.2 (by simp;omega) (by omega) (λk u=>?_) (hx.2.mono (by rw[eS,tY];push_cast;rw[YT];omega)) K;rcases eB.1 u with u|u
   ·exact D k u
   ·rw[fM] at u;rw[u];exact hx.1
  ·exact K a r (by omega) D (E.mono (by omega))
theorem V6{e:Nat}:∀(n:Nat)(r:Rd)(N:Int),N<=999999000000->dN N r->∀Q:cn×Rd->Prop,(∀x M,kk (e+1) x/\lK jd (e+1) x->dN (N+10) M->Q (x,M))->Ok (ck (cO n r 2) λA=>
 cond (cp A.1 0)
  (ck (mJ n A.2 jd) λP=>
  some (cn.mk 2 0 P.1 [] [],P.2))
  (ck (cO n A.2 40) λC=>
  ck (cO n C.2 9) λD=>
  ck (cO n D.2 3) λE=>
  ck (cO n E.2 5) λF=>
  ck (cm [C.1,cQ .i64 D.1 4,100,1000000000,E.1] F.1) λY=>
  ck (cm [C.1,cQ .i64 D.1 4,100,1000000000,E.1] F.1) λR=>
  some (cn.mk 1 R [] [] [],F.2))) Q:=by
 intro n r N Z S Q K;refine ef S (by omega) (by omega) λa r1 _ _ y=>ok_eq (λ_=>?_) λ_=>?_
 ·exact CO y (by omega) (by decide) λx U hx j=>cF (K _ _ (Pv hx) (j.mono (by omega)))
 ·refine ef y (by omega) (by omega) λb U _ _ j=>ef j (by omega) (by omega) λc r3 _ _ H=>ef H (by omega) (by omega) λd r4 _ _ I=>ef I (by omega) (by omega) λf r5 f0 f1 J=>?_;dsimp only;exact iI f0 (by simp;omega) λu _ _=>iI f0 (by simp;omega) λv _ _=>cF (K _ _ ago (J.mono (by omega)))
theorem aa9:∀(e n:Nat)(r:Rd)(j N:Int),2^41+e<=n->e<=4->j=5-e->N+((30*5^e:Nat):Int)<=999900000000->dN N r->Ok (yF n r j jd) λx=>(kk (e+1) x.1/\lK jd (e+1) x.1)/\dN (N+((30*5^e:Nat):Int)) x.2:=by
 intro e;induction e with
 |zero=>
  intro n r j N P Q R S A;obtain⟨n,rfl⟩:∃m,n=m+1:=⟨n-1,by omega⟩;rw[yF];refine nu (λ_=>?_) λh=>by omega
  exact V6 n r N (by omega) A _ λx C D E=>⟨D,E.mono (by omega)⟩
 |succ e U=>
  intro n r j N P Q R S A;obtain⟨n,rfl⟩:∃m,n=m+1:=⟨n-1,by omega⟩;have hp:(5:Nat)^(e+1)=5*5^e:=by rw[tZ];omega
  have Y:1<=5^e:=Qq _ _ (by omega);have Z:5^e<=5^4:=vz (by omega) (by omega);rw[yF];refine nu (λh=>by omega) λ_=>?_;refine ef A (by omega) (by omega) λa r1 _ _ u=>ok_eq (λ_=>?_) λ_=>?_
  ·exact V6 n r1 (N+1) (by omega) u _ λx C D E=>⟨D,E.mono (by omega)⟩
  ·refine ef u (by omega) (by omega) λb r2 b0 b1 F=>?_;dsimp only;rw[iY (a:=3) (b:=b) (by omega) (by omega) (by omega) (by omega),OD,cu];obtain⟨c,hc⟩:∃c:Nat,pX (3+b)=c/\c<=4:=by
    have:b=0\/b=1\/b=2\/b=3\/b=4\/b=5\/b=6\/b=7:=by omega
    rcases this with rfl|rfl|rfl|rfl|rfl|rfl|rfl|rfl<;>exact⟨_,rfl,by decide⟩
   rw[hc.1];refine Vj (op:=3+b) (M:=N+2) (B:=((30*5^e:Nat):Int)) (d:=e+1) ⟨by omega,by omega⟩ (by omega) (λC N' aa H=>?_) (by omega) n c [] r2 (by simp;omega) (by omega) (by simp) (F.mono (by simp;omega)) λI r3 k1 k2 y=>?_
   ·rw[iY (by omega) (by omega) (by omega) (by omega)];exact U n C (j+1) N' (by omega) (by omega) (by omega) (by omega) H
   ·have g:kk (e+1+1) (cn.mk (3+b) 0 [] I [])/\lK jd (e+1+1) (cn.mk (3+b) 0 [] I []):=⟨⟨by show I.length<=10;omega,by show(0:Nat)<=10;omega,by show(0:Nat)<=1000;omega,λk J=>(k2 k J).1⟩,(λh=>absurd (show 3+b=2 from h) (by omega)),λk J=>(k2 k J).2⟩;refine ok_eq (λ_=>?_) λ_=>cF ⟨g,y.mono (by omega)⟩;exact c8 (Z7 y (by omega) (by omega)) λx hx=>cF ⟨⟨⟨g.1.1,hx.1,g.1.2.2.1,g.1.2.2.2⟩,g.2⟩,hx.2.mono (by omega)⟩
end
end
section
section
variable{n:Nat}
def zo(n:Nat)(r:cn):Prop:=qK n r/\∃d,d<=6/\lK jd d r/\kk d r
theorem V7{d:Nat}{r:cn}(e:d<=6)(j:lK jd d r)(a:kk d r)(h:∀m,rz (m+1000) r=some true)(u:2^41+6<=n):zo n r:=by
 refine⟨qK.of a ?_ u,d,e,j,a⟩;obtain⟨m,rfl⟩:∃m,n=m+1000:=⟨n-1000,by omega⟩;exact h m
abbrev Pw:cq:=[108,101,103,115]
abbrev afz:cq:=[115,101,97,116,115]
abbrev Wz:cq:=[116,105,109,101]
theorem agp(a:2^41+6<=n):zo n (cn.mk 2 0 Pw [] []):=V7 (d:=1) (by omega) (Pv (by decide)).2 (Pv (by decide)).1 (λm=>rfl) a
theorem RB{N:Int}{r:Rd}(F:dN N r)(U:N<=999000000000)(Y:2^42<=n):Ok (DU n r jd) λx=>zo n x.1/\dN (N+100000) x.2:=by
 have j:∀(K:List cq->Rd->Option (cn×Rd)),(∀u,dN (N+80000) u->Ok (K jd u) λx=>zo n x.1/\dN (N+100000) x.2)->∀m i:Nat,∀r,i<=4->4<m+i->dN (N+20000*i) r->Ok (Dr n m jd i r K) λx=>zo n x.1/\dN (N+100000) x.2:=by
  intro K H m
  induction m with
  |zero=>intro i r I J;omega
  |succ m M=>
   intro i r I J D
   rw[Dr]
   refine dY (λP=>?_) λP=>H r (D.mono (by omega))
   refine ef D (by omega) (by omega) λx Q R Z A=>?_
   obtain⟨x,rfl⟩:=gD R
   dsimp only
   rw[iY (a:=1) (by omega) (by omega) (by omega) (by omega)]
   have S:5^(4-x)<=5^4:=vz (by omega) (by omega)
   refine c8 (aa9 (4-x) n Q (1+x) (N+20000*i+1) (by omega) (by omega) (by omega) (by omega) A) λy e=>?_
   generalize 5^(4-x)=p at S e
   rw[ig]
   obtain⟨b,E,hb⟩:=Sq e.1.1 (n:=n) (by omega)
   refine KN E (dR (λc=>cF ?_) λc=>?_)
   ·subst c;exact⟨⟨qK.of e.1.1 E (by omega),4-x+1,by omega,e.1.2,e.1.1⟩,e.2.mono (by omega)⟩
   ·rw[dE (by omega)];exact M (i+1) y.2 (by omega) (by omega) (e.2.mono (by omega))
 unfold DU;refine j _ (λu C=>?_) n 0 r (by omega) (by omega) (F.mono (by omega));exact KN (show cm jd 0=some Pw from rfl) (cF ⟨agp (by omega),C.mono (by omega)⟩)
structure Cn(n:Nat)(fs:List fx):Prop where
 f:∀f∈fs,uW n f
 d:∀i j(hi:i<fs.length)(hj:j<i),fs[j].name≠fs[i].name
 l:1<=fs.length/\fs.length<=4
theorem ZI{fs:List fx}(h:Cn n fs)(C:2^41<=n):It n fs=some true:=by
 have D:=h.l;have k2:∀i(a:i<fs.length),∀K:List fx->Int->Option Bool,∀m j:Nat,j<=i->i<m+j->DC n m fs i j K=K fs i:=by
  intro i a K m
  induction m with
  |zero=>intro j u x;omega
  |succ m y=>
   intro j u x
   rw[DC]
   by_cases A:j<i
   ·rw[show cA (j:Int) (i:Int)=true from xa (by omega),cL,dt (show j<fs.length by omega),cu,dt a,cu,kF,gB (h.d i j a A),cN,dE (by omega)];exact y (j+1) (by omega) (by omega)
   ·rw[show cA (j:Int) (i:Int)=false from th (by omega),cN]
 have k1:∀K:List fx->Option Bool,∀m i:Nat,i<=fs.length->fs.length<m+i->DD n m fs i K=K fs:=by
  intro K m
  induction m with
  |zero=>intro j u x;omega
  |succ m y=>
   intro i u x
   rw[DD]
   by_cases a:i<fs.length
   ·obtain⟨r,_,_,e⟩:=(h.f _ (dG a)).r;rw[show cA (i:Int) (cz fs)=true from xa (by rw[cP];omega),cL,dt a,cu,e,cu,dO,eN,cN];refine(k2 i a _ n 0 (by omega) (by omega)).trans ?_;rw[dE (by omega)];exact y (i+1) (by omega) (by omega)
   ·rw[show cA (i:Int) (cz fs)=false from th (by rw[cP];omega),cN]
 unfold It;refine(k1 _ n 0 (by omega) (by omega)).trans ?_;rw[gv,cP,gu (by omega)]
theorem Px{name text:cq}{a:Int}{r:cn}(e:gy name=true)(j:0<=a/\a<=2)(u:zo n r)(x:text=fu 6 r)(y:2^41+6<=n):uW n ⟨name,a,text⟩:=by
 obtain⟨A,d,C,D,E⟩:=u;exact acY e j x A C D E y
abbrev agq:cn:=cn.mk 5 0 [] [cn.mk 2 0 Pw [] [],cn.mk 1 500 [] [] []] []
abbrev agr:cn:=cn.mk 1 100 [] [] []
abbrev ags:cn:=cn.mk 3 0 [] [cn.mk 1 50 [] [] [],cn.mk 5 0 [] [cn.mk 2 0 Wz [] [],cn.mk 1 10 [] [] []] []] []
abbrev agt:cn:=cn.mk 6 0 [] [cn.mk 1 1000 [] [] [],cn.mk 2 0 afz [] [],cn.mk 1 3 [] [] []] []
abbrev agu:cn:=cn.mk 10 0 [] [cn.mk 2 0 Wz [] []] [⟨0,30⟩,⟨5,10⟩]
theorem agv{r:cn}{text:cq}(e:zo n r)(h:∀m,pK (m+1000) r=some text)(j:2^41+6<=n):text=fu 6 r:=by
 have a:=I1 6 n r j (by omega) e.1.p;obtain⟨m,rfl⟩:∃m,n=m+1000:=⟨n-1000,by omega⟩;rw[h m] at a;injection a
theorem FT{name text:cq}{a:Int}{r:cn}(u:gy name=true)(x:0<=a/\a<=2)(y:lK jd 3 r)(A:kk 3 r)(h:∀m,rz (m+1000) r=some true)(C:∀m,pK (m+1000) r=some text)(e:2^41+6<=n):uW n ⟨name,a,text⟩:=
 have j:=V7 (by omega) y A h e
 Px u x j (agv j C e) e
theorem agw(a:2^41+6<=n):uW n ⟨[102,117,108,108],0,[109,117,108,40,108,101,103,115,44,53,48,48,41]⟩:=FT (r:=agq) (by decide) (by omega) (by simp[lK,jd,cn.op,cn.kids,cn.name]) (by simp[kk,cn.op,cn.kids,cn.name,cn.marks]) (λm=>rfl) (λm=>rfl) a
def W8:List cq:=[[49,48,48],[97,100,100,40,53,48,44,109,117,108,40,116,105,109,101,44,49,48,41,41],[112,97,114,116,40,49,48,48,48,44,115,101,97,116,115,44,51,41],[116,105,101,114,115,40,116,105,109,101,59,48,58,51,48,44,53,58,49,48,41]]
theorem agZ{cls:Int}{text:cq}(a:0<=cls/\cls<=2)(h:text∈W8)(e:2^41+6<=n):uW n ⟨[108,111,119],cls,text⟩:=by
 simp only[W8,eo,mH,mI] at h;rcases h with rfl|rfl|rfl|rfl
 ·exact FT (r:=agr) (by decide) a (by simp[lK,jd,cn.op,cn.kids,cn.name]) (by simp[kk,cn.op,cn.kids,cn.name,cn.marks]) (λm=>rfl) (λm=>rfl) e
 ·exact FT (r:=ags) (by decide) a (by simp[lK,jd,cn.op,cn.kids,cn.name]) (by simp[kk,cn.op,cn.kids,cn.name,cn.marks]) (λm=>rfl) (λm=>rfl) e
 ·exact FT (r:=agt) (by decide) a (by simp[lK,jd,cn.op,cn.kids,cn.name]) (by simp[kk,cn.op,cn.kids,cn.name,cn.marks]) (λm=>rfl) (λm=>rfl) e
 ·exact FT (r:=agu) (by decide) a (by simp[lK,jd,cn.op,cn.kids,cn.name]) (by simp[kk,cn.op,cn.kids,cn.name,cn.marks]) (λm=>rfl) (λm=>rfl) e
theorem Ku{fs:List fx}(h:∀f∈fs,uW n f)(a:(fs.map fx.name).Pairwise (·≠·))(e:1<=fs.length/\fs.length<=4):Cn n fs:=by
 refine⟨h,λi j x u=>?_,e⟩;have:=YU.1 a j i (by simp;omega) (by simp;omega) u;simpa using this
theorem Z9{N:Int}{r:Rd}(J:dN N r)(R:N<=998000000000)(I:2^42<=n):Ok (HJ n r) λx=>Cn n x.1/\dN (N+200000) x.2:=by
 have E:=agw (n:=n) (by omega);unfold HJ;refine ef J (by omega) (by omega) λa S _ _ D=>dY (λ_=>?_) λ_=>?_
 ·refine ef D (by omega) (by omega) λb U Y Z F=>CO F (by omega) (by simp) λt r3 M H=>?_;dsimp only;rw[iY (a:=1) (by omega) (by omega) (by omega) (by omega)];have u:=agZ (n:=n) (cls:=1+b) (text:=t) (by omega) M (by omega);refine eU (by simp) (by omega) (ef H (by omega) (by omega) λc P _ _ j=>ok_eq (λ_=>?_) λ_=>cF ⟨Ku ?_ ?_ (by simp),j.mono (by omega)⟩)
  ·refine ef j (by omega) (by omega) λd Q d0 d1 A=>c8 (RB A (by omega) I) λy C=>?_;rw[ig,C.1.1.write (by omega),cu];refine eU (by simp) (by omega) (cF ⟨Ku ?_ ?_ (by simp),C.2.mono (by omega)⟩)
   ·intro f e;simp only[pI,ic,eo,mH,mI] at e;rcases e with rfl|rfl|rfl
    ·exact E
    ·exact u
    ·exact Px (by decide) (by show 0<=d/\d<=2;omega) C.1 rfl (by omega)
   ·simp
  ·intro f e;simp only[pI,ic,eo,mH,mI] at e;rcases e with rfl|rfl
   ·exact E
   ·exact u
  ·simp
 ·refine ef D (by omega) (by omega) λc P _ _ j=>ok_eq (λ_=>?_) λ_=>cF ⟨Ku ?_ ?_ (by simp),j.mono (by omega)⟩
  ·refine ef j (by omega) (by omega) λd Q d0 d1 A=>c8 (RB A (by omega) I) λy C=>?_;rw[ig,C.1.1.write (by omega),cu];refine eU (by simp) (by omega) (cF ⟨Ku ?_ ?_ (by simp),C.2.mono (by omega)⟩)
   ·intro f e;simp only[pI,ic,eo,mH,mI] at e;rcases e with rfl|rfl
    ·exact E
    ·exact Px (by decide) (by show 0<=d/\d<=2;omega) C.1 rfl (by omega)
   ·simp
  ·intro f e;simp only[eo,mH,mI] at e;rw[e];exact E
  ·simp
end
end
end Go.Ev
