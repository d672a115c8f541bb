/- Laws of the plain functions: shards, records, rules. -/
import Derived.Test.YtfnlbejcgjlclaaGreatDoorG
set_option linter.all false
namespace Go.Ev
open Go Go.Lib
section
section
variable{n:Nat}
theorem I5{p:Prop}{o:Option Bool}(h:Ok o λr=>r=true↔p):o=some (@decide p (Classical.propDecidable p)):=by
 obtain⟨r,e,h⟩:=h;rw[e]
 congr 1
 rw[Ov,h];simp
structure Oe(s:aT):Prop where
 bl:s.base.length<=1000
 bz:∀l∈s.base,uA l
 lg:s.log.length<100000
 ll:s.legs.length<=1000
 lr:∀l∈s.legs,vK l
 tl:s.an.length<=20000
 tz:∀t∈s.an,t.ops.length<=1000
theorem abR{a b:dt}:a=b↔a.txn=b.txn/\a.aV=b.aV/\a.ops=b.ops:=by
 cases a;cases b;simp
theorem asj{a b:aT}(M:∀l∈a.legs,vK l)(Z:a.legs.length<=1000)(Q:∀l∈b.legs,vK l)(E0:a.an.length<=20000)(e:∀t∈a.an,t.ops.length<=1000)(H:2^41<=n):Ok (Qe n a b) λr=>r=true↔a.legs=b.legs/\a.an=b.an:=by
 unfold Qe;refine cd (ok_eq (λu=>cd (ok_eq (λx=>?_) λx=>?_)) λu=>?_)
 ·have R:a.legs.length=b.legs.length:=by simp only[go_sem] at u;omega
  have S:a.an.length=b.an.length:=by simp only[go_sem] at x;omega
  have y:=lT (N:=a.an.length) (by omega) (L:=λm i=>AA n m i a b (some true)) (P:=λj=>decide ((gT a.an j).txn=(gT b.an j).txn)&&(decide ((gT a.an j).aV=(gT b.an j).aV)&&@decide ((gT a.an j).ops=(gT b.an j).ops) (Classical.propDecidable _))) (k:=some true) (r:=some false) (λm=>by simp[go_sem,AA]) (λm i hi=>by
   have A:decide ((i:Int)<a.an.length)=true:=by simp;omega
   have C:=I5 (asi (n:=n) (a:=(gT a.an i).ops) (b:=(gT b.an i).ops) (by rw[BK hi];have:=e _ (bI hi);omega) H)
   simp only[AA,bp,aJ,A,aF,db hi ⟨0,0,[]⟩,db (show i<b.an.length by omega) ⟨0,0,[]⟩,ak,cN,cn,C]
   generalize decide ((gT a.an i).txn=(gT b.an i).txn)=z1
   generalize decide ((gT a.an i).aV=(gT b.an i).aV)=z2
   generalize@decide ((gT a.an i).ops=(gT b.an i).ops) (Classical.propDecidable _)=z3
   cases z1<;>cases z2<;>cases z3<;>rfl) (m:=n) (by omega);have D:=lT (N:=a.legs.length) (by omega) (L:=λm i=>Gi n m i a b (λU Y=>AA n n 0 U Y (some true))) (P:=λj=>@decide (gL a.legs j=gL b.legs j) (Classical.propDecidable _)) (k:=AA n n 0 a b (some true)) (r:=some false) (λm=>by simp[go_sem,Gi]) (λm i hi=>by
   have A:decide ((i:Int)<a.legs.length)=true:=by simp;omega
   have C:=I5 (aty (n:=n) (a:=gL a.legs i) (b:=gL b.legs i) (M _ (Bo hi)) (Q _ (Bo (by omega))) H)
   simp only[Gi,bp,aJ,A,aF,db hi ⟨[],[],[],0,0,0,[],[],[],[]⟩,db (show i<b.legs.length by omega) ⟨[],[],[],0,0,0,[],[],[],[]⟩,ak,cn,C]
   generalize@decide (gL a.legs i=gL b.legs i) (Classical.propDecidable _)=z
   cases z<;>rfl) (m:=n) (by omega);rw[D,y];have I:(eX a.legs.length λj=>@decide (gL a.legs j=gL b.legs j) (Classical.propDecidable _))=true↔a.legs=b.legs:=by
   rw[<-yG ⟨[],[],[],0,0,0,[],[],[],[]⟩ R,oq]
   simp only[bH]
  have J:(eX a.an.length λj=>decide ((gT a.an j).txn=(gT b.an j).txn)&&(decide ((gT a.an j).aV=(gT b.an j).aV)&&@decide ((gT a.an j).ops=(gT b.an j).ops) (Classical.propDecidable _)))=true↔a.an=b.an:=by
   rw[<-yG ⟨0,0,[]⟩ S,oq]
   simp only[bo,bH,abR]
  split
  ·rename_i E;split
   ·rename_i F;exact az ⟨λ_=>⟨I.1 E,J.1 F⟩,λ_=>rfl⟩
   ·rename_i F;exact az ⟨λh=>(by cases h),λh=>absurd (J.2 h.2) F⟩
  ·rename_i E;exact az ⟨λh=>(by cases h),λh=>absurd (I.2 h.1) E⟩
 ·exact az ⟨λh=>(by cases h),λh=>absurd (by rw[h.2]) x⟩
 ·exact az ⟨λh=>(by cases h),λh=>absurd (by rw[h.1]) u⟩
theorem aoS{s:aj}(e:s.length<2^28)(j:2^41<=n):Rl n s=some (decide ((cS s).2=s.length/\(cS s).2<=9000)):=by
 unfold Rl;rw[Pw e j];simp only[ak,cN,fN,gx]
 by_cases h:(cS s).2=s.length
 ·have a:((cS s).2:Int)=s.length:=by omega
  rw[show decide (((cS s).2:Int)=s.length)=true by simpa using a,aF];exact congrArg some (decide_eq_decide.2 (by omega))
 ·have a:¬ ((cS s).2:Int)=s.length:=by omega
  rw[show decide (((cS s).2:Int)=s.length)=false by simpa using a,aH];exact congrArg some (gu (by omega)).symm
theorem VJ{net:List ax}(h:qy net=true):jh net/\net.length<=6/\∀l∈net,l.holds=[]:=by
 simp only[qy,zG,rR,bo,jJ,bH,oq] at h;refine⟨⟨by omega,λl a=>?_⟩,by omega,λl a=>h.1 l a⟩;obtain⟨j,e,rfl⟩:=q9 a;have:=(h.2.1 j e).1;rw[vt e] at this;exact adC.1 this
def Ak(s:aT):Prop:=(1<=s.id/\s.id<=2)/\qy s.base=true/\s.log.length<=9000/\∃y,pS s.base [] (cS s.log).1=some y/\(if s.up=true then(cS s.log).2=s.log.length/\s.legs=y.1/\s.an=y.2 else s.legs=[]/\s.an=[])
theorem CE:uB []:=⟨by simp,by simp⟩
theorem al1{s:aT}(hz:Oe s)(A:2^41<=n):Ok (DD n s) λr=>r=true↔Ak s:=by
 have Q:=hz.lg;unfold DD;rw[vf,ak];refine cd (cc (λu=>?_) λu=>az ⟨λh=>(by cases h),λh=>?_⟩)
 rotate_left
 ·have:=h.1;simp only[lP] at u;exact absurd this u
 rw[bH] at u;rw[W6 (by have:=hz.bl;omega) (λl D=>(hz.bz l D).s) A,ak];refine cd (cc (λC=>?_) λC=>az ⟨λh=>(by cases h),λh=>?_⟩)
 rotate_left
 ·have:=h.2.1;rw[C] at this;cases this
 obtain⟨I,M,_⟩:=VJ C;refine cw (λE=>az ⟨λh=>(by cases h),λh=>?_⟩) λE=>?_
 ·have:=h.2.2.1;simp only[fN] at E;omega
 simp only[fN] at E;rw[acD (by omega) I A,ak];cases j:pS s.base [] (cS s.log).1 with
 |none=>
  simp only[cn,gE,aF];refine az ⟨λh=>(by cases h),λh=>?_⟩;obtain⟨_,_,_,y,J,_⟩:=h;rw[j] at J;cases J
 |some y=>
  obtain⟨x,F,H,_⟩:=RU (l:=y.1) (t:=y.2) I CE j;have R:=DQ (s:=s.log) (by omega);simp only[cn,dy,aH];have N:Ak s↔(if s.up=true then(cS s.log).2=s.log.length/\s.legs=y.1/\s.an=y.2 else s.legs=[]/\s.an=[]):=by
   constructor
   ·rintro⟨_,_,_,z,hz,h⟩;rw[j] at hz;cases hz;exact h
   ·exactλh=>⟨u,C,by omega,y,j,h⟩
  rw[show(λr=>r=true↔Ak s)=(λr=>r=true↔(if s.up=true then(cS s.log).2=s.log.length/\s.legs=y.1/\s.an=y.2 else s.legs=[]/\s.an=[])) from funext λr=>by rw[N]];cases S:s.up with
  |false=>
   simp only[gE,aF,iJ,iy];refine ok_eq (λe=>az ?_) λe=>az ⟨λh=>(by cases h),λh=>absurd (by rw[h.1];rfl) e⟩;have:s.legs=[]:=qg.1 (by simp only[aJ] at e;omega);rw[cN,aJ,bH];constructor
   ·intro h;exact⟨this,qg.1 (by omega)⟩
   ·intro h;rw[h.2];rfl
  |true=>
   simp only[dy,aH,fM];rw[aoS (by omega) A,ak];refine cc (λe=>?_) λe=>az ⟨λh=>(by cases h),λh=>?_⟩
   ·rw[bH] at e;refine au9 (aW (asj (n:=n) (a:=⟨s.id,s.base,s.log.take (cS s.log).2,true,y.1,y.2⟩) (b:=s) (λl D=>(x.2 l D).r) x.1 hz.lr (by simp at H;show y.2.length<=20000;omega) (λt P=>by have:=(rq (F.t t P).2).2;omega) A) λr j=>az j) λr j=>?_;rw[j];constructor
    ·rintro⟨a,b⟩;exact⟨e.1,a.symm,b.symm⟩
    ·rintro⟨_,a,b⟩;exact⟨a.symm,b.symm⟩
   ·rw[lP] at e;exact absurd ⟨h.1,by rw[h.1];omega⟩ e
theorem acF{s:aT}(hz:Oe s)(j:2^41<=n):Kz n s=some s:=by
 have D:=hz.tl;unfold Kz;rw[Du (by have:=hz.bl;omega) hz.bz j,ak,Du (by have:=hz.ll;omega) (λl u=>(hz.lr l u).touA) j,ak];have e:∀m i:Nat,i<=s.an.length->s.an.length<m+i->Gb n m i s {s with base:=s.base,legs:=s.legs,an:=s.an.take i} (λx=>some x)=some s:=by
  intro m
  induction m with
  |zero=>intro i y A;omega
  |succ m C=>
   intro i y A
   by_cases hi:i<s.an.length
   ·have a:av (i:Int) (au s.an)=true:=by rw[bp,aJ];simp;omega
    have E:=hz.tz _ (bI hi);rw[Gb,a,aF,bn hi,ak,eL (by simp;omega) (by omega),ak,eL (by simp;omega) (by omega),ak,bD (by omega)];have:s.an.take i++[{s.an[i] with ops:=[]++s.an[i].ops}]=s.an.take (i+1):=by
     rw[oe hi];rfl
    dsimp only;rw[this];exact C (i+1) (by omega) (by omega)
   ·have:i=s.an.length:=by omega
    subst this;have a:av (s.an.length:Int) (au s.an)=false:=by rw[bp,aJ];simp
    rw[Gb,a,aH,wQ]
 exact e n 0 (by omega) (by omega)
def oY(s:aT):List aK:=(s.an.filter λt=>decide (t.aV=1)).map λt=>⟨5,s.id,0,t.txn,[],false⟩
theorem afc{s:aT}(y:s.an.length<=20000)(A:2^41<=n):Kw n s=some (oY s):=by
 have e:∀m i:Nat,i<=s.an.length->s.an.length<m+i->∀out:List aK,out.length<=i->Dc n m out i s some=some (out++((s.an.drop i).filter λt=>decide (t.aV=1)).map λt=>⟨5,s.id,0,t.txn,[],false⟩):=by
  intro m
  induction m with
  |zero=>intro i u x;omega
  |succ m j=>
   intro i u x out C
   by_cases hi:i<s.an.length
   ·have a:av (i:Int) (au s.an)=true:=by rw[bp,aJ];simp;omega
    rw[Dc,a,aF,bn hi,ak,bD (by omega),lx hi,akZ,cN]
    by_cases h:s.an[i].aV=1
    ·simp only[h,fc,aF,ak,fM];rw[eL (by simp;omega) (by omega),ak,j (i+1) (by omega) (by omega) _ (by simp;omega)];simp
    ·simp only[h,ga,aH,iJ,iy];exact j (i+1) (by omega) (by omega) out (by omega)
   ·have:i=s.an.length:=by omega
    subst this;have a:av (s.an.length:Int) (au s.an)=false:=by rw[bp,aJ];simp
    rw[Dc,a,aH,sD];simp
 exact e n 0 (by omega) (by omega) [] (by simp)
def Yu(s:aT):aT:=if s.up=true then s else match pS s.base [] (cS s.log).1 with
 |some y=>⟨s.id,s.base,s.log.take (cS s.log).2,true,y.1,y.2⟩
 |none=>s
theorem aqA{s:aT}(j:s.log.length<100000)(a:jh s.base)(e:2^41<=n):Ky n s=some (Yu s):=by
 unfold Ky Yu;cases u:s.up with
 |true=>rfl
 |false=>
  rw[acD (by omega) a e];simp only[aH,ak,iJ,iy];cases pS s.base [] (cS s.log).1<;>rfl
def uh(s:aT)(a:aj):Option aT:=match xO s.log a with
 |none=>none
 |some log=>match qG s.legs s.an a with
  |none=>none
  |some y=>some {s with log:=log,legs:=y.1,an:=y.2}
theorem VK{s:aT}{record:aj}(u:s.log.length<100000)(A:record.length<100000)(h:jh s.legs)(C:s.an.length<=20000)(e:2^41<=n):AN n s record=some (match uh s record with|some x=>(x,true)|none=>(s,false)):=by
 unfold AN uh;rw[VE (by omega) (by omega) e,ak];cases D:xO s.log record with
 |none=>rfl
 |some log=>
  simp only[cn,dy,aH];have a:=acB (n:=n) (s:=s) (record:=record) (by omega) h (by omega) e;cases j:qG s.legs s.an record with
  |none=>
   rw[j] at a;obtain⟨x,hx⟩:=a;rw[hx];rfl
  |some y=>
   rw[j] at a;simp only at a;rw[a];rfl
def MT(m:aK):aj:=(if m.yes=true then[67,32] else[65,32])++itoa m.txn
def S4(s:aT)(m:aK):aT×List aK:=
 let at':=gP s.an m.txn
 let st:=if 0<=at' then(gT s.an at'.toNat).aV else 0
 if st=1 then match uh s (MT m) with
  |some x=>(x,[⟨4,s.id,0,m.txn,[],m.yes⟩])
  |none=>(s,[])
 else if(if m.yes=true then st=2 else st≠2) then(s,[⟨4,s.id,0,m.txn,[],m.yes⟩]) else(s,[])
theorem am3{s:aT}{m:aK}(N:1<=m.txn/\m.txn<=99)(y:s.log.length<100000)(h:jh s.legs)(A:s.an.length<=20000)(e:2^41<=n):OV n s m=some (S4 s m):=by
 have P:=ly (x:=m.txn) (by omega) (by omega);have hC:aO [67,32] (itoa m.txn)=some ([67,32]++itoa m.txn):=fj (by simp;omega);have D:aO [65,32] (itoa m.txn)=some ([65,32]++itoa m.txn):=fj (by simp;omega);have E:=VK (n:=n) (s:=s) (record:=[67,32]++itoa m.txn) y (by simp;omega) h A e;have F:=VK (n:=n) (s:=s) (record:=[65,32]++itoa m.txn) y (by simp;omega) h A e;unfold OV S4 MT;rw[XS (by omega) e];simp only[ak,o7 e (show-9000000000000000000<=m.txn/\m.txn<=9000000000000000000 by omega),hC,D,E,F,gx]
 by_cases j:0<=gP s.an m.txn
 ·obtain⟨k,H,I,Q⟩:=HE j;have d1:decide ((0:Int)<=(k:Int))=true:=by simp
  have J:(0:Int)<=(k:Int):=by omega
  rw[H,d1,aF,db I ⟨0,0,[]⟩,aD J,eC];simp only[ak,cN]
  by_cases a:(gT s.an k).aV=1
  ·rw[aD a];cases C:m.yes with
   |true=>
    simp only[a,fc,aF,fM];cases uh s ([67,32]++itoa m.txn)<;>rfl
   |false=>
    simp only[a,fc,aF,aH,iJ,iy];cases uh s ([65,32]++itoa m.txn)<;>rfl
  ·rw[aE a];cases C:m.yes with
   |true=>
    simp only[a,ga,aF,aH,fM,cn,dy]
    by_cases u:(gT s.an k).aV=2<;>simp only[u,fc,ga,aF,aH,fM,iy]
   |false=>
    simp only[a,ga,aF,aH,iJ,iy,cn,gE]
    by_cases u:(gT s.an k).aV=2<;>simp only[u,fc,ga,dy,gE,aF,aH,fM,iy,Uz,not_true_eq_false,ak0]
 ·have M:decide (0<=gP s.an m.txn)=false:=by simpa using j
  rw[M,aH,aE j,aE (by decide)];cases C:m.yes with
  |true=>rfl
  |false=>rfl
def Mc(m:aK):aj:=[80,32]++itoa m.txn++[32]++gF m.ops
def Sm(s:aT)(m:aK):aT×List aK:=
 let at':=gP s.an m.txn
 if 0<=at' then(s,[⟨2,s.id,0,m.txn,[],!decide ((gT s.an at'.toNat).aV=3)⟩])
 else if jg m.ops=true then match uh s (Mc m) with
  |some x=>(x,[⟨2,s.id,0,m.txn,[],true⟩])
  |none=>(s,[⟨2,s.id,0,m.txn,[],false⟩])
 else(s,[⟨2,s.id,0,m.txn,[],false⟩])
theorem al2{s:aT}{m:aK}(H:1<=m.txn/\m.txn<=99)(u:BW m.ops)(y:s.log.length<100000)(h:jh s.legs)(A:s.an.length<=20000)(a:2^41<=n):OL n s m=some (Sm s m):=by
 have I:=ly (x:=m.txn) (by omega) (by omega);unfold OL Sm Mc;rw[XS (by omega) a];simp only[ak,gx]
 by_cases e:0<=gP s.an m.txn
 ·obtain⟨k,C,D,J⟩:=HE e;have d1:decide ((0:Int)<=(k:Int))=true:=by simp
  have E:(0:Int)<=(k:Int):=by omega
  rw[C,d1,aF,db D ⟨0,0,[]⟩,aD E,eC];rfl
 ·have F:decide (0<=gP s.an m.txn)=false:=by simpa using e
  rw[F,aH,aE e,af4 u a,ak];cases j:jg m.ops with
  |false=>rfl
  |true=>
   have M:=Qi (rq j).1;have N:=(rq j).2;simp only[cn,dy,aH,fM,o7 a (show-9000000000000000000<=m.txn/\m.txn<=9000000000000000000 by omega),ak];rw[fj (by simp;omega),ak,fj (by simp;omega),ak,abk u a,ak,j,aD rfl,fj (by simp;omega),ak];rw[VK y (by simp;omega) h A a,ak];cases uh s ([80,32]++itoa m.txn++[32]++gF m.ops)<;>rfl
def Ej(s:aT)(m:aK):aT×List aK:=
 if s.up=true/\m.to=s.id/\m.aC=0/\1<=m.txn/\m.txn<=99 then(if m.kind=1 then Sm s m else if m.kind=3 then S4 s m else(s,[])) else(s,[])
theorem aqB{s:aT}{m:aK}(D:BW m.ops)(x:s.log.length<100000)(h:jh s.legs)(y:s.an.length<=20000)(A:2^41<=n):G1 n s m=some (Ej s m):=by
 unfold G1 Ej;simp only[vf,ak,cn,cN]
 by_cases a:s.up=true
 ·by_cases e:m.to=s.id
  ·by_cases u:m.aC=0
   ·by_cases j:1<=m.txn/\m.txn<=99
    ·rw[aD ⟨a,e,u,j⟩,al2 j D x h y A,am3 j x h y A];simp only[a,e,u,j,yz,fc,dy,aH,ak]
     by_cases C:m.kind=1
     ·simp[C]
     ·by_cases E:m.kind=3<;>simp[C,E]
    ·rw[aE (λh=>j h.2.2.2)];simp[a,e,u,j]
   ·rw[aE (λh=>u h.2.2.1)];simp[a,e,u]
  ·rw[aE (λh=>e h.2.1)];simp[a,e]
 ·rw[aE (λh=>a h.1)];simp[a]
end
end
section
section
variable{n:Nat}{l:ax}
theorem adT{c:Nat}(F:l.bh.length=3)(H:l.holds.length<2^29)(a:c<=3)(I:2^41<=n):J4 n l c=some (used l c):=by
 have e:dF l.bh (c:Int) (au l.bh)=some (l.bh.drop c):=by
  unfold dF au
  rw[aD (by omega)]
  simp[Fs]
 have h0:=λk=>HZ (xs:=l.bh.drop c) (by simp;omega) (L:=λm j x=>FT n m c x (l.bh.drop c) (au (l.bh.drop c)) j l k) (G:=λxs x=>k (c:Int) (xs.foldl (aq .i64) x) l) (λm x=>by simp[go_sem,FT]) (λm i h u x=>by
  have a:decide ((i:Int)<(l.bh.drop c).length)=true:=by simp only[bH];omega
  simp only[FT,bp,aJ,bn h,a,aF,ak,Aq]
  exact u _) (m:=n) (by simp;omega) 0;have y:=HZ (xs:=l.holds) (by omega) (L:=λm j x=>Au n m c x l.holds (au l.holds) j some) (G:=λA x=>some (zm A c x)) (λm x=>by simp[go_sem,Au,zm]) (λm i h u x=>by
  have a:av (i:Int) (au l.holds)=true:=by rw[bp,aJ];simp;omega
  have e:zm (l.holds[i]::l.holds.drop (i+1)) c x=zm (l.holds.drop (i+1)) c (if(c:Int)<=l.holds[i].cls/\0<l.holds[i].aG then aq .i64 x l.holds[i].aG else x):=rfl
  rw[Au,a,aF,bn h,ak,u,u,e,gx,bp]
  by_cases C:(c:Int)<=l.holds[i].cls<;>by_cases D:0<l.holds[i].aG<;>simp[C,D]) (m:=n) (by omega);unfold J4;rw[e,ak];refine(h0 _).trans ?_;have E:BD l c 0=(l.bh.drop c).foldl (aq .i64) 0:=by unfold BD;rw[eC]
 rw[<-E];exact y _
theorem adU{c:Int}(D:l.holds.length<2^29)(E:2^41<=n):J5 n l c=some (pL l.holds c 0):=by
 have:=HZ (xs:=l.holds) (by omega) (L:=λm j x=>Av n m c x l.holds (au l.holds) j some) (G:=λu x=>some (pL u c x)) (λm x=>by simp[go_sem,Av,pL]) (λm i h a x=>by
  have y:av (i:Int) (au l.holds)=true:=by rw[bp,aJ];simp;omega
  have e:pL (l.holds[i]::l.holds.drop (i+1)) c x=pL (l.holds.drop (i+1)) c (if l.holds[i].cls=c/\l.holds[i].aG<0 then aL .i64 x l.holds[i].aG else x):=rfl
  rw[Av,y,aF,bn h,ak,a,a,e,cN,bp]
  by_cases A:l.holds[i].cls=c<;>by_cases C:l.holds[i].aG<0<;>simp[A,C]) (m:=n) (by omega) 0;exact this
theorem abm{xs:List Int}{hi:Int}(A:xs.length<2^29)(C:2^41<=n):KA n xs hi=some (eX xs.length λj=>decide (0<=gI xs j/\gI xs j<=hi)&&decide (0<j->gI xs j<=gI xs (j-1))):=by
 have:=lT (N:=xs.length) (by omega) (L:=λm i=>De n m xs hi xs (au xs) i (some true)) (P:=λj=>decide (0<=gI xs j/\gI xs j<=hi)&&decide (0<j->gI xs j<=gI xs (j-1))) (k:=some true) (r:=some false) (λm=>by simp[go_sem,De]) (λm i h=>by
  have y:decide ((i:Int)<xs.length)=true:=by simp;omega
  simp only[De,bp,aJ,y,aF,db h 0,ak,y9,cn]
  by_cases u:0<=gI xs i/\gI xs i<=hi
  ·simp only[u,yz,fc,dy,aH,pA]
   by_cases h0:0<i
   ·have a:decide ((0:Int)<i)=true:=by simp;omega
    have:aL .i64 i 1=((i-1:Nat):Int):=by rw[iA];omega
    rw[a,aF,this,db (show i-1<xs.length by omega) 0,ak]
    by_cases x:gI xs i<=gI xs (i-1)
    ·have e:decide (gI xs (i-1)<gI xs i)=false:=by simp only[lP];omega
     rw[e,aH,aD (by rw[bH];exactλ_=>x)]
    ·have e:decide (gI xs (i-1)<gI xs i)=true:=by simp only[bH];omega
     rw[e,aF,aE (by rw[bH];exactλh=>x (h h0))]
   ·have a:decide ((0:Int)<i)=false:=by simp;omega
    rw[a,aH,aD (by rw[bH];exactλh=>absurd h h0)]
  ·simp only[u,ga,gE,aF,CO,iJ,iy]) (m:=n) (by omega);unfold KA;rw[this];cases eX xs.length λj=>decide (0<=gI xs j/\gI xs j<=hi)&&decide (0<j->gI xs j<=gI xs (j-1))<;>rfl
theorem afd{h:bc}:KC n l h=some (decide (1<=h.txn/\h.txn<=99)&&(decide (0<=h.cls/\h.cls<=2)&&(decide (fO .i64 l.cap<=h.aG/\h.aG<=l.cap)&&!decide (h.aG=0)))):=by
 unfold KC HB KB;simp only[y9,ak,cn,cN];generalize decide (1<=h.txn/\h.txn<=99)=b1;generalize decide (0<=h.cls/\h.cls<=2)=b2;generalize decide (fO .i64 l.cap<=h.aG/\h.aG<=l.cap)=b3;cases b1<;>cases b2<;>cases b3<;>rfl
theorem al3{xs:List Int}(C:xs.length<2^29)(D:2^41<=n):OA n xs l=some (!eX xs.length λj=>decide (0<=gI xs j/\gI xs j<=l.cap)):=by
 have y:UF n xs l=some (nL (λx=>!decide (0<=x/\x<=l.cap)) 0 xs):=
  yV (by omega) (L:=λm i=>Fv n m xs (l,()) (au xs) i (some (-1))) (f:=some) (λm=>by simp[go_sem,Fv]) (λm i h=>by
   have A:decide ((i:Int)<xs.length)=true:=by simp;omega
   simp only[Fv,bp,aJ,A,aF,bn h,ak,Vz,y9,cn]
   generalize decide (0<=xs[i]/\xs[i]<=l.cap)=z
   cases z<;>rfl) (by omega);unfold OA;rw[y,ak,gx]
 congr 1
 rcases tX (p:=λx:Int=>!decide (0<=x/\x<=l.cap)) (xs:=xs) (i:=0) with⟨e,a⟩|⟨j,u,e,a,_⟩
 ·rw[e];have:eX xs.length (λj=>decide (0<=gI xs j/\gI xs j<=l.cap))=true:=oq.2 λj u=>by
   have:=a _ (XM u)
   simpa using this
  rw[this];rfl
 ·rw[e];have:eX xs.length (λj=>decide (0<=gI xs j/\gI xs j<=l.cap))=false:=by
   rw[<-sC,oq]
   intro h
   have:=h j u
   rw[L8 u] at this
   rw[this] at a
   cases a
  rw[this];simp
theorem alC(J:l.bA.length=3)(s3:l.bh.length=3)(D:l.holds.length<2^29)(E:2^41<=n):OH n l=some (eX l.holds.length (λj=>(decide (1<=(gH l.holds j).txn/\(gH l.holds j).txn<=99)&&(decide (0<=(gH l.holds j).cls/\(gH l.holds j).cls<=2)&&(decide (fO .i64 l.cap<=(gH l.holds j).aG/\(gH l.holds j).aG<=l.cap)&&!decide ((gH l.holds j).aG=0))))&&decide (0<j->(gH l.holds (j-1)).txn<(gH l.holds j).txn))&&(eX 3 (qx l)&&decide ((l.holds.length:Int)<=6))):=by
 have F:=λk=>lT (N:=l.holds.length) (by omega) (L:=λm i=>CR n m l.holds (au l.holds) i l k) (P:=λj=>(decide (1<=(gH l.holds j).txn/\(gH l.holds j).txn<=99)&&(decide (0<=(gH l.holds j).cls/\(gH l.holds j).cls<=2)&&(decide (fO .i64 l.cap<=(gH l.holds j).aG/\(gH l.holds j).aG<=l.cap)&&!decide ((gH l.holds j).aG=0))))&&decide (0<j->(gH l.holds (j-1)).txn<(gH l.holds j).txn)) (k:=k l) (r:=some false) (λm=>by simp[go_sem,CR]) (λm i h=>by
  have x:decide ((i:Int)<l.holds.length)=true:=by simp;omega
  simp only[CR,bp,gx,aJ,x,aF,db h ⟨0,0,0⟩,ak,afd,cn]
  generalize(decide (1<=(gH l.holds i).txn/\(gH l.holds i).txn<=99)&&(decide (0<=(gH l.holds i).cls/\(gH l.holds i).cls<=2)&&(decide (fO .i64 l.cap<=(gH l.holds i).aG/\(gH l.holds i).aG<=l.cap)&&!decide ((gH l.holds i).aG=0))))=z
  cases z with
  |false=>rfl
  |true=>
   simp only[dy,aH,pA]
   by_cases h0:0<i
   ·have y:decide ((0:Int)<i)=true:=by simp;omega
    have:aL .i64 i 1=((i-1:Nat):Int):=by rw[iA];omega
    rw[y,aF,this,db (show i-1<l.holds.length by omega) ⟨0,0,0⟩,ak]
    by_cases e:(gH l.holds (i-1)).txn<(gH l.holds i).txn
    ·have a:decide ((gH l.holds i).txn<=(gH l.holds (i-1)).txn)=false:=by simp only[lP];omega
     rw[a,aH,aD (by rw[bH];exactλ_=>e)]
    ·have a:decide ((gH l.holds i).txn<=(gH l.holds (i-1)).txn)=true:=by simp only[bH];omega
     rw[a,aF,aE (by rw[bH];exactλh=>e (h h0))]
   ·have y:decide ((0:Int)<i)=false:=by simp;omega
    rw[y,aH,aD (by rw[bH];exactλh=>absurd h h0)]) (m:=n) (by omega);have H:=λk=>lT (N:=3) (by omega) (L:=λm i=>FH n m i l k) (P:=qx l) (k:=k l) (r:=some false) (λm=>by simp[go_sem,FH]) (λm i h=>by
  have x:decide ((i:Int)<3)=true:=by simp;omega
  simp only[FH,bp,x,aF,adT s3 D (show i<=3 by omega) E,adU D E,db (show i<l.bA.length by omega) 0,db (show i<l.bh.length by omega) 0,ak]
  by_cases A:used l i<=gI l.bA i
  ·have C:decide (gI l.bA i<used l i)=false:=by simp only[lP];omega
   rw[C,aH]
   by_cases e:pL l.holds i 0<=gI l.bh i
   ·have a:decide (gI l.bh i<pL l.holds i 0)=false:=by simp only[lP];omega
    have u:qx l i=true:=by simp only[qx,A,e,fc,Bool.and_self]
    rw[a,aH,aD u]
   ·have a:decide (gI l.bh i<pL l.holds i 0)=true:=by simp only[bH];omega
    have u:¬ qx l i=true:=by simp only[qx,A,e,fc,ga,akM,iJ,ak0]
    rw[a,aF,aE u]
  ·have C:decide (gI l.bA i<used l i)=true:=by simp only[bH];omega
   have u:¬ qx l i=true:=by simp only[qx,A,ga,CO,iJ,ak0]
   rw[C,aF,aE u]) (m:=n) (by omega);unfold OH;refine(F _).trans ?_;have:=H λI=>some (bE (au I.holds) 6);rw[this];generalize eX l.holds.length _=z1;cases z1 with
 |false=>rfl
 |true=>
  cases eX 3 (qx l) with
  |false=>rfl
  |true=>rfl
theorem am4(h:Iq l)(hz:l.holds.length<2^29/\l.cV.length<2^29)(C:2^41<=n):Rg n l=some (lF l):=by
 unfold Rg;rw[Px h.1 C,Px h.2.1 C,Px h.2.2 C];simp only[ak,y9,cn,mU,cN,aJ];have Z:∀{b:Bool},(b=true↔lF l=true)->some b=some (lF l):=λh=>by rw[Ov.2 h]
 have y:lF l≠true->some false=some (lF l):=λh=>by rw[ayT.2 h]
 by_cases e:gw l.name=true
 rotate_left
 ·rw[sC] at e;rw[e];exact y λh=>by simp[lF,pI,e] at h
 by_cases u:gw l.aC=true
 rotate_left
 ·rw[sC] at u;rw[e,u];exact y λh=>by simp[lF,pI,u] at h
 by_cases x:gw l.to=true
 rotate_left
 ·rw[sC] at x;rw[e,u,x];exact y λh=>by simp[lF,pI,x] at h
 by_cases A:l.aC=l.to
 ·simp only[e,u,x,A,fc,dy,aF,aH];exact y λh=>by simp[lF,pI,A] at h
 by_cases D:0<=l.dJ/\l.dJ<=9999
 rotate_left
 ·simp only[e,u,x,A,D,ga,gE,aF,aH];exact y λh=>by simp only[lF,pI,bo,bH] at h;exact D h.1.2.2.2.2.1
 by_cases E:aq .i64 l.dJ 1<=l.arr/\l.arr<=9999
 rotate_left
 ·simp only[e,u,x,A,D,E,yz,fc,ga,gE,aF,aH];exact y λh=>by simp only[lF,pI,bo,bH] at h;exact E h.1.2.2.2.2.2.1
 by_cases F:1<=l.cap/\l.cap<=9
 rotate_left
 ·simp only[e,u,x,A,D,E,F,yz,fc,ga,gE,aF,aH];exact y λh=>by simp only[lF,pI,bo,bH] at h;exact F h.1.2.2.2.2.2.2.1
 by_cases I:(l.bA.length:Int)=3
 rotate_left
 ·simp only[e,u,x,A,D,E,F,I,yz,fc,ga,gE,aF,aH];exact y λh=>by simp only[lF,pI,bo,bH] at h;exact I h.1.2.2.2.2.2.2.2.1
 have l3:l.bA.length=3:=by omega
 have Fc:af l.bA 0=some (gI l.bA 0):=db (i:=0) (by omega) 0;simp only[e,u,x,A,D,E,F,I,yz,fc,ga,gE,aF,Fc,ak,abm (n:=n) (xs:=l.bA) (hi:=l.cap) (by omega) C,abm (n:=n) (xs:=l.cV) (hi:=1000000000) (by omega) C]
 by_cases J:(l.bh.length:Int)=3
 rotate_left
 ·have:lF l≠true:=λh=>by simp only[lF,pI,bo,bH] at h;exact J h.1.2.2.2.2.2.2.2.2.1
  simp only[J,ga,aH];rw[ayT.2 this];generalize(eX l.bA.length λj=>decide (0<=gI l.bA j/\gI l.bA j<=l.cap)&&decide (0<j->gI l.bA j<=gI l.bA (j-1)))=z1;generalize decide (gI l.bA 0=l.cap)=z2;cases z1<;>cases z2<;>rfl
 have s3:l.bh.length=3:=by omega
 simp only[J,fc,aF,al3 (n:=n) (l:=l) (xs:=l.bh) (by omega) C,alC l3 s3 hz.1 C,ak,Bool.not_not];have N:∀(z1 z2 z3 z4 M P:Bool),((z1&&z2&&z3&&z4&&M&&P)=true↔lF l=true)->(cond z1 (cond z2 (cond z3 (cond z4 (cond M (some P) (some false)) (some false)) (some false)) (some false)) (some false):Option Bool)=some (lF l):=λz1 z2 z3 z4 M P h=>by
  rw[<-Ov.2 h]
  cases z1<;>cases z2<;>cases z3<;>cases z4<;>cases M<;>rfl
 refine N _ _ _ _ _ _ ?_;rw[l3,s3];simp only[lF,pI,e,u,x,A,D,E,F,I,J,uy,BE,yz,fc,ga,gE,pA,bo,bH,oq,mL,lP,BV];constructor
 ·rintro⟨⟨⟨⟨⟨h1,Q⟩,h3⟩,R⟩,S⟩,h6,U,h8⟩;exact⟨⟨Q,R,by omega,λj a=>⟨h1 j a,h3 j a⟩,S⟩,λj a=>⟨⟨⟨⟨(h6 j a).1.1,(h6 j a).2⟩,(h6 j a).1.2.1⟩,(h6 j a).1.2.2.2⟩,(h6 j a).1.2.2.1⟩,U⟩
 ·rintro⟨⟨Q,R,h6,Y,S⟩,H,U⟩;exact⟨⟨⟨⟨⟨λj a=>(Y j a).1,Q⟩,λj a=>(Y j a).2⟩,R⟩,S⟩,λj a=>⟨⟨(H j a).1.1.1.1,(H j a).1.1.2,(H j a).2,(H j a).1.2⟩,(H j a).1.1.1.2⟩,U,by omega⟩
end
end
section
section
variable{n:Nat}{l:ax}
theorem qH{a b:Int}(h:a<b):av a b=true:=by rw[bp];exact fW h
theorem BY{a b:Int}(h:¬ a<b):av a b=false:=by rw[bp];exact gu h
theorem acG{net:List ax}{name:aj}(j:net.length<2^29)(u:2^41<=n):Li n net name=some (lO net name):=by
 have a:UG n net name=some (lO net name):=
  yV (by omega) (L:=λm i=>Fw n m net (name,()) (au net) i (some (-1))) (f:=some) (p:=λl:ax=>decide (l.name=name)) (λm=>by simp[go_sem,Fw]) (λm i h=>by
   have e:av (i:Int) (au net)=true:=by rw[bp,aJ];simp;omega
   rw[Fw,e,aF,bn h,ak]
   simp only[VA,ak,mU]
   cases decide (net[i].name=name)<;>rfl) (by omega);unfold Li;rw[a,ak]
theorem alD{net:List ax}(u:net.length<2^29)(D:2^41<=n):P6 n net=some (!net.all λl=>decide (l.holds=[])):=by
 have y:UH n net=some (nL (λl:ax=>av 0 (au l.holds)) 0 net):=
  yV (by omega) (L:=λm i=>Fx n m net (au net) i (some (-1))) (f:=some) (p:=λl:ax=>av 0 (au l.holds)) (λm=>by simp[go_sem,Fx]) (λm i h=>by
   have A:av (i:Int) (au net)=true:=by rw[bp,aJ];simp;omega
   rw[Fx,A,aF,bn h,ak]
   simp only[U0,ak]
   cases av 0 (au net[i].holds)<;>rfl) (by omega);have x:∀l:ax,av 0 (au l.holds)=!decide (l.holds=[]):=λl=>by
  rw[bp,aJ]
  cases l.holds<;>simp
 unfold P6 UC;rw[y];simp only[ak,gx]
 congr 1
 rcases tX (p:=λl:ax=>av 0 (au l.holds)) (xs:=net) (i:=0) with⟨e,a⟩|⟨j,C,e,a,_⟩
 ·rw[e];have:(net.all λl=>decide (l.holds=[]))=true:=jJ.2 λl u=>by
   have:=a l u
   rw[x] at this
   simpa using this
  rw[this];rfl
 ·rw[e];have:(net.all λl=>decide (l.holds=[]))=false:=by
   rw[<-sC,jJ]
   intro h
   have:=h _ (bI C)
   rw[x,this] at a
   cases a
  rw[this];simp
theorem Wq{u:Type}{p:u->Bool}{xs:List u}{i:Nat}(hi:i<xs.length)(x:p xs[i]=true):nL p 0 xs=i↔∀k(y:k<i),p (xs[k]'(by omega))=false:=by
 rcases tX (p:=p) (xs:=xs) (i:=0) with⟨e,a⟩|⟨j,D,e,a,A⟩
 ·have:=a _ (bI hi);rw[x] at this;cases this
 ·rw[e];constructor
  ·intro h k y;have:j=i:=by omega
   subst this;exact A k y
  ·intro h
   by_cases c:j<i
   ·have:=h j c;rw[a] at this;cases this
   ·by_cases C:i<j
    ·have:=A i C;rw[x] at this;cases this
    ·omega
theorem am5{net:List ax}(J:net.length<2^28)(h:∀l∈net,uA l)(A:2^41<=n):Rh n net=some (zG net):=by
 have:=λk=>lT (N:=net.length) (by omega) (L:=λm i=>GN n m net net (au net) i k) (P:=rR net) (k:=k net) (r:=some false) (λm=>by simp[go_sem,GN]) (λm i hi=>by
  have E:av (i:Int) (au net)=true:=by rw[bp,aJ];simp;omega
  have hz:=h _ (bI hi)
  have e:dF net 0 (i:Int)=some (net.take i):=by unfold dF;rw[aD (by omega)];simp
  rw[GN,E,aF,bn hi,ak,am4 hz.s ⟨by have:=hz.z4;omega,by have:=hz.z3;omega⟩ A,ak,e,ak,acG (by simp;omega) A,ak,gx]
  have u:=vt hi
  cases C:lF net[i] with
  |false=>
   have:¬ rR net i=true:=by unfold rR;rw[u,C];simp
   rw[aE this]
   rfl
  |true=>
   simp only[cn,dy,aH]
   have D:0<=lO (net.take i) net[i].name↔¬ nL (λl=>decide (l.name=net[i].name)) 0 net=i:=by
    rw[Wq hi (by simp)]
    constructor
    ·intro x a
     obtain⟨k,F,H,y⟩:=Rs x
     rw[lv] at H
     have:=a k (by omega)
     rw[vt (by simp;omega)] at y
     simp at y this
     exact this y
    ·intro x
     unfold lO
     rcases tX (p:=λl:ax=>decide (l.name=net[i].name)) (xs:=net.take i) (i:=0) with⟨I,a⟩|⟨j,M,I,a,_⟩
     ·exfalso
      apply x
      intro k F
      exact a _ (by
       have:(net.take i)[k]'(by simp;omega)=net[k]:=by simp
       rw[<-this];exact bI _)
     ·omega
   by_cases c:0<=lO (net.take i) net[i].name
   ·have:¬ rR net i=true:=by
      unfold rR
      rw[u]
      simp only[bo,bH]
      exactλh=>D.1 c h.2
    rw[aE this,show decide (0<=lO (net.take i) net[i].name)=true by simpa using c]
    rfl
   ·have:rR net i=true:=by
      unfold rR
      rw[u,C]
      simp only[pA,bH]
      exact Classical.not_not.1 λh=>c (D.2 h)
    rw[aD this,show decide (0<=lO (net.take i) net[i].name)=false by simpa using c]
    rfl) (m:=n) (by omega);unfold Rh zG;rw[this];cases eX net.length (rR net)<;>simp[go_sem]
theorem atz{xs:List Int}:Pj n xs=some xs:=by
 unfold Pj;simp[mB,ur,fw,ai,au,zk,ak]
theorem atA{xs:List bc}:Pk n xs=some xs:=by
 unfold Pk;simp[mB,ur,fw,ai,au,zk,ak]
theorem XU{xs:List Int}(h:xs.length<4294967296):GB n xs=some xs:=by
 unfold GB KR;rw[aD h,ak,atz,ak]
theorem RV{xs:List bc}(h:xs.length<4294967296):Dm n xs=some xs:=by
 unfold Dm KS;rw[aD h,ak,atA,ak]
theorem aoT(h:uA l):OM n l=some l:=by
 unfold OM;rw[XU (by have:=h.z1;omega),ak,XU (by have:=h.z2;omega),ak,XU (by have:=h.z3;omega),ak,RV (by have:=h.z4;omega),ak]
theorem abn{net:List ax}(D:net.length<=100000)(h:∀l∈net,uA l)(E:2^41<=n):G3 n net=some net:=by
 unfold G3;have e:BZ 168 (au net) (au net) (ax.mk [] [] [] 0 0 0 [] [] [] [])=some (List.replicate net.length (ax.mk [] [] [] 0 0 0 [] [] [] [])):=by
  unfold BZ au
  rw[aD (by omega)]
  simp
 rw[e,ak];have a:∀m i:Nat,i<=net.length->net.length<m+i->Gf n m (net.take i++List.replicate (net.length-i) (ax.mk [] [] [] 0 0 0 [] [] [] [])) net (au net) i some=some net:=by
  intro m
  induction m with
  |zero=>intro i x y;omega
  |succ m A=>
   intro i x y
   by_cases hi:i<net.length
   ·have j:av (i:Int) (au net)=true:=by rw[bp,aJ];simp;omega
    have u:i<(net.take i++List.replicate (net.length-i) (ax.mk [] [] [] 0 0 0 [] [] [] [])).length:=by simp;omega
    rw[Gf,j,aF,bn hi,ak,aoT (h _ (bI hi)),ak,bn u,ak,ak,bD (by omega)];have:aX (net.take i++List.replicate (net.length-i) (ax.mk [] [] [] 0 0 0 [] [] [] [])) (i:Int) net[i]=net.take (i+1)++List.replicate (net.length-(i+1)) (ax.mk [] [] [] 0 0 0 [] [] [] []):=by
     have C:(net.take i).length=i:=by simp;omega
     rw[show net.length-i=(net.length-(i+1))+1 by omega,Jc]
     unfold aX
     rw[eC,ayU _ _ (by omega),C,Ao,ayV,oe hi,kD]
     rfl
    rw[this];exact A (i+1) (by omega) (by omega)
   ·have:i=net.length:=by omega
    subst this;have j:av (net.length:Int) (au net)=false:=by rw[bp,aJ];simp
    rw[Gf,j,aH];simp
 have:=a n 0 (by omega) (by omega);simpa using this
theorem adV{txn:Int}(j:l.holds.length<2^29)(u:2^41<=n):J7 n l txn=some (nL (λh=>decide (h.txn=txn)) 0 l.holds):=by
 have a:UE n l.holds txn=some (nL (λh:bc=>decide (h.txn=txn)) 0 l.holds):=
  yV (by omega) (L:=λm i=>Fu n m l.holds (txn,()) (au l.holds) i (some (-1))) (f:=some) (λm=>by simp[go_sem,Fu]) (λm i h=>by
   have e:av (i:Int) (au l.holds)=true:=by rw[bp,aJ];simp;omega
   rw[Fu,e,aF,bn h,ak]
   simp only[UP,ak,cN]
   cases decide (l.holds[i].txn=txn)<;>rfl) (by omega);unfold J7;rw[a,ak]
theorem adW{u:List bc}{txn:Int}(A:wJ u):nL (λh=>decide (h.txn=txn)) 0 u=if j3 txn u=true then((eA txn u:Nat):Int) else-1:=by
 cases C:j3 txn u with
 |true=>
  obtain⟨a,x,b,e,E,F,y,I⟩:=Ka A C;rw[aD rfl,E];subst e;rw[Wq (by simp) (by simp[F])];intro k D;have:(a++x::b)[k]'(by simp;omega)=a[k]:=by simp[List.getElem_append,D]
  rw[this];have:=y _ (bI D);simp;omega
 |false=>
  rw[aE (by simp)];rcases tX (p:=λh:bc=>decide (h.txn=txn)) (xs:=u) (i:=0) with⟨e,_⟩|⟨j,H,e,y,_⟩
  ·exact e
  ·have:=(adD A).2 ⟨_,bI H,by simpa using y⟩;rw[C] at this;cases this
theorem adX(a:gR l)(E:2^41<=n){c:Nat}(J:c<=2):J8 n l c=some (iU l c):=by
 have C:=a.cap;have F:∀m j x,j<=c+1->c+1<m+j->FV n m c x j l some=some ((List.range' j (c+1-j)).foldl (λx i=>min x (gI l.bA i-n9 l i)) x):=by
  intro m
  induction m with
  |zero=>intro j x A y;omega
  |succ m H=>
   intro j x A y
   by_cases D:j<=c
   ·have b1:=Xc a (show j<3 by omega);have b2:=xj a (show j<3 by omega);have e:aL .i64 (gI l.bA j) (n9 l j)=gI l.bA j-n9 l j:=nq (by omega) (by omega) (by omega) (by omega);have u:bE (j:Int) c=true:=by rw[gx];simp;omega
    have I:j<l.bA.length:=by have:=a.l3;omega
    rw[FV,u,aF,db I 0,ak,adT a.s3 (by have:=a.h6;omega) (by omega) E,ak,(RR a j).1,e,bD (by omega),H (j+1) _ (by omega) (by omega),show c+1-j=(c+1-(j+1))+1 by omega,aaA,Aq]
    congr 2
    unfold En;split
    ·rw[aaM (by omega)]
    ·rw[aaN (by omega)]
   ·have:j=c+1:=by omega
    subst this;have u:bE (((c+1:Nat)):Int) c=false:=by rw[gx];simp;omega
    rw[FV,u,aH,Ao,List.range'_zero,Ol]
 have h:=F n 0 9 (by omega) (by omega);refine h.trans ?_
 congr 1
 refine alX λz=>?_;rw[Xb];simp only[List.mem_range'_1,CF,Am,iu,aaJ];have M:=Xc a (show 0<3 by omega);have h0:=a.l0;constructor
 ·rintro⟨A,y⟩;exact⟨by have:=y 0 (by omega);omega,λj D=>y j (by omega)⟩
 ·rintro⟨A,y⟩;exact⟨by omega,λj D=>y j (by omega)⟩
theorem aqC(a:gR l)(e:2^41<=n):Qa n l=some (su l):=by
 have y:=aeY a (show 0<=2 by omega);have A:=a.b;unfold Qa su;rw[show(0:Int)=((0:Nat):Int) from rfl,adX a e (by omega),ak,aJ];have j:aL .i64 (l.cV.length:Int) 1=l.cV.length-1:=nq (by omega) (by omega) (by omega) (by omega);have u:En (iU l 0) ((l.cV.length:Int)-1)=min (iU l 0) (l.cV.length-1):=by
  unfold En
  split
  ·rw[aaM (by omega)]
  ·rw[aaN (by omega)]
 rw[j,u];obtain⟨r,x⟩:=gD (show 0<=min (iU l 0) ((l.cV.length:Int)-1) by omega);rw[x,db (by omega) 0,ak];rfl
theorem aqD{h:bc}{share:Int}(a:gR l)(j:2^41<=n):Qb n l h share=some (vI l h share):=by
 have Q:=a.cap;have h6:=a.h6;unfold Qb vI;rw[adV (by omega) j,ak,adW a.qd,afd,aJ];simp only[ak,gx,cN,bp,cn];rw[AQ (show-1000000<=l.cap by omega) (by omega)];cases R:j3 h.txn l.holds with
 |true=>
  have:decide (0<=((eA h.txn l.holds:Nat):Int))=true:=by simp
  simp only[fM,this,aF,dy,CO]
 |false=>
  have:decide ((0:Int)<=-1)=false:=rfl;simp only[iJ,iy,this,aH,gE,pA]
  by_cases D:(l.holds.length:Int)=6
  ·have x:decide ((6:Int)<=l.holds.length)=true:=by simp;omega
   have y:decide ((l.holds.length:Int)=6)=true:=by simpa using D
   rw[x,y];rfl
  ·have x:decide ((6:Int)<=l.holds.length)=false:=by simp;omega
   have y:decide ((l.holds.length:Int)=6)=false:=by simpa using D
   rw[x,y];simp only[aH,gE,pA]
   by_cases A:1<=h.txn/\h.txn<=99
   rotate_left
   ·rw[show decide (1<=h.txn/\h.txn<=99)=false by simpa using A];rfl
   by_cases C:0<=h.cls/\h.cls<=2
   rotate_left
   ·rw[show decide (1<=h.txn/\h.txn<=99)=true by simpa using A,show decide (0<=h.cls/\h.cls<=2)=false by simpa using C];rfl
   by_cases E:h.aG=0
   ·rw[show decide (h.aG=0)=true by simpa using E];simp
   by_cases F:-l.cap<=h.aG/\h.aG<=l.cap
   rotate_left
   ·rw[show decide (-l.cap<=h.aG/\h.aG<=l.cap)=false by simpa using F];simp
   rw[show decide (1<=h.txn/\h.txn<=99)=true by simpa using A,show decide (0<=h.cls/\h.cls<=2)=true by simpa using C,show decide (h.aG=0)=false by simpa using E,show decide (-l.cap<=h.aG/\h.aG<=l.cap)=true by simpa using F];simp only[gE,dy,pA,aH];obtain⟨c,e⟩:=gD C.1;have I:c<=2:=by omega
   have b1:=xj a (show c<3 by omega);have b2:=aeZ a (show c<3 by omega);have J:J8 n l h.cls=some (iU l c):=by rw[e];exact adX a j I
   have M:af l.bh h.cls=some (gI l.bh c):=by rw[e];exact db (by have:=a.s3;omega) 0
   have N:J5 n l h.cls=some (qY l c):=by rw[adU (by omega) j,e,(RR a c).2]
   have e4:h.cls.toNat=c:=by omega
   have e5:aL .i64 (gI l.bh c) (qY l c)=gI l.bh c-qY l c:=nq (by omega) (by omega) (by omega) (by omega);have P:fO .i64 h.aG=-h.aG:=AQ (by omega) (by omega);rw[J,M,N,e4];simp only[ak,e5,P,aqC a j]
   by_cases u:0<h.aG
   ·rw[show decide (0<h.aG)=true by simpa using u,aF,aD u]
    by_cases H:h.aG<=iU l c
    ·rw[show decide (h.aG<=iU l c)=true by simpa using H];rfl
    ·rw[show decide (h.aG<=iU l c)=false by simpa using H];rfl
   ·rw[show decide (0<h.aG)=false by simpa using u,aH,aE u]
theorem asl{legs:List ax}{k:Nat}{h:bc}(u:k<legs.length)(y:(gL legs k).holds.length<2^29)(A:2^41<=n){K:Int->Int->List ax->bc->Option (Bool×List ax)}:C3 n n k 0 legs h K=K k (eA h.txn (gL legs k).holds:Nat) legs h:=by
 have j:af legs (k:Int)=some (gL legs k):=db u _;have:=Si (N:=(gL legs k).holds.length) (by omega) (L:=λm i=>C3 n m k i legs h K) (G:=λi=>K k ((i+eA h.txn ((gL legs k).holds.drop i):Nat):Int) legs h)
  (λm=>by
    have e:av ((gL legs k).holds.length:Int) (au (gL legs k).holds)=false:=BY (show¬ ((gL legs k).holds.length:Int)<((gL legs k).holds.length:Nat) by omega)
    rw[C3,j]
    simp only[ak,e,aH]
    simp[eA]) (λm i hi x=>by
    have e:av (i:Int) (au (gL legs k).holds)=true:=qH (show(i:Int)<((gL legs k).holds.length:Nat) by omega)
    rw[C3,j]
    simp only[ak]
    rw[e,aF,bn hi]
    simp only[ak]
    rw[lx hi,Pt]
    by_cases a:(gL legs k).holds[i].txn<h.txn
    ·rw[aD a,qH a,aF,x];congr 2;omega
    ·rw[aE a,BY a,aH];rfl) (m:=n) (by omega);simpa using this
theorem aoU{legs:List ax}{k:Nat}{h:bc}{share:Int}(a:k<legs.length)(j:gR (gL legs k))(u:2^41<=n):Pm n (legs,(k:Int)) h share=some (if vI (gL legs k) h share=true then(true,legs.set k (BH (gL legs k) h)) else(false,legs)):=by
 have x:af legs (k:Int)=some (gL legs k):=db a _;have h6:=j.h6;have y:=K8 (txn:=h.txn) (hs:=(gL legs k).holds);unfold Pm;dsimp only;rw[x];simp only[ak,aqD j u];cases A:vI (gL legs k) h share with
 |false=>rfl
 |true=>
  simp only[cn,dy,aH,fM];refine(asl a (by omega) u).trans ?_;rw[x];simp only[ak];have e:Hg n (gL legs k).holds ((eA h.txn (gL legs k).holds:Nat):Int) [h]=some (pQ h (gL legs k).holds):=by
   unfold Hg pQ
   rw[aD ⟨by omega,by omega,rfl,by omega⟩,eC]
  rw[e,ak,RV (by rw[adF];omega),ak];have:bR (ai (k:Int) (k:Int))=some ():=by rw[cN];simp[zk]
  rw[this,ak];simp only[aX,eC];rfl
theorem abo{txn:Int}{ops:List aY}(D:ops.length<2^29)(A:2^41<=n):∀(m i:Nat)(out:List ax),i<=ops.length->ops.length<m+i->jh out->match rH txn out (ops.drop i) with
  |some x=>CS n m txn ops (au ops) i out (λt12=>some (true,t12))=some (true,x)
  |none=>∃y,CS n m txn ops (au ops) i out (λt12=>some (true,t12))=some (false,y)
 |0,i,out,E,F,e=>by omega
 |m+1,i,out,E,F,e=>by
  have gJ:=e.1
  by_cases hi:i<ops.length
  ·have a:av (i:Int) (au ops)=true:=by rw[bp,aJ];simp;omega
   rw[CS,a,aF,bn hi,ak,acG (by omega) A,ak,lx hi,rH]
   by_cases C:lO out ops[i].ba<0
   ·have:av (lO out ops[i].ba) 0=true:=by rw[bp];simpa using C
    rw[this,aF,aD C];exact⟨_,rfl⟩
   ·have H:av (lO out ops[i].ba) 0=false:=by rw[bp];simp;omega
    obtain⟨k,I,u,M⟩:=Rs (show 0<=lO out ops[i].ba by omega);rw[H,aH,aE C,I,db u ⟨[],[],[],0,0,0,[],[],[],[]⟩];simp only[ak,Vd,eC];have J:=aoU (n:=n) (h:=⟨txn,ops[i].cls,ops[i].aG⟩) (share:=ops[i].share) u (e.2 _ (Bo u)) A;rw[J,ak]
    by_cases j:vI (gL out k) ⟨txn,ops[i].cls,ops[i].aG⟩ ops[i].share=true
    ·rw[aD j,aD j];simp only[cn,dy,aH];rw[bD (by omega)];exact abo D A m (i+1) _ (by omega) (by omega) (e.set (Xf (e.2 _ (Bo u)) j))
    ·rw[aE j,aE j];exact⟨_,rfl⟩
  ·have:i=ops.length:=by omega
   subst this;have a:av (ops.length:Int) (au ops)=false:=by rw[bp,aJ];simp
   rw[CS,a,aH,sD];rfl
theorem aoV{legs:List ax}{k:Nat}{txn:Int}{dq:Bool}(y:k<legs.length)(e:gR (gL legs k))(D:2^41<=n):Pn n (legs,(k:Int)) txn dq=some (legs.set k (if dq=true then uo (gL legs k) txn else qA (gL legs k) txn)):=by
 have E:af legs (k:Int)=some (gL legs k):=db y _;have h6:=e.h6;have Q:=K8 (txn:=txn) (hs:=(gL legs k).holds);have A:legs.set k (gL legs k)=legs:=by rw[vt y,akY]
 unfold Pn;dsimp only;rw[E];simp only[ak,adV (n:=n) (l:=gL legs k) (txn:=txn) (by omega) D,adW e.qd];cases a:j3 txn (gL legs k).holds with
 |false=>
  have F:uo (gL legs k) txn=gL legs k:=by unfold uo;rw[a];rfl
  have H:qA (gL legs k) txn=gL legs k:=by unfold qA kL;rw[a];rfl
  rw[aE (by simp),F,H,ite_self,A];rfl
 |true=>
  have C:eA txn (gL legs k).holds<(gL legs k).holds.length:=by
   unfold j3 at a
   by_cases c:eA txn (gL legs k).holds<(gL legs k).holds.length
   ·exact c
   ·rw[pz (by omega)] at a;simp at a
  obtain⟨_,I,R⟩:=DN (f:=λ_=>0) e.qd a;have J:=e.hold _ I;have hs:af (gL legs k).holds ((eA txn (gL legs k).holds:Nat):Int)=some (qe (gL legs k).holds txn):=db C _;have h0:av ((eA txn (gL legs k).holds:Nat):Int) 0=false:=by rw[bp];simp
  have j:DJ n (gL legs k).holds ((eA txn (gL legs k).holds:Nat):Int) ((eA txn (gL legs k).holds+1:Nat):Int)=some (kL txn (gL legs k).holds):=by
   unfold DJ kL
   rw[aD ⟨by omega,by omega,by omega,by omega⟩,eC,eC,aD a]
  have u:bR (ai (k:Int) (k:Int))=some ():=by rw[cN];simp[zk]
  have M:=adG (txn:=txn) (hs:=(gL legs k).holds);rw[aD rfl,h0,aH,hs];simp only[ak];cases dq with
  |false=>
   simp only[aH];rw[bD (by omega),j,ak,RV (by omega),ak,u,ak];simp[aX,qA]
  |true=>
   obtain⟨c,N⟩:=gD J.2.1.1;have S:=e.s3;have hi:af (gL legs k).bh (qe (gL legs k).holds txn).cls=some (gI (gL legs k).bh (qe (gL legs k).holds txn).cls.toNat):=by
    rw[N,eC]
    exact db (by omega) 0
   have P:∀x:ax,af (aX legs (k:Int) x) (k:Int)=some x:=λx=>by simp[af,aX,y]
   simp only[aF,hi,ak,P];rw[bD (by omega),j,ak,RV (by omega),ak,u,ak];simp only[fM,uo,aD a];simp[aX,qA,rS]
theorem alE{txn:Int}{dq:Bool}{legs:List ax}(h:jh legs)(y:2^41<=n):uZ n legs txn dq=some (o8 legs txn dq):=by
 have E:=h.1;have e:∀m i:Nat,i<=legs.length->legs.length<m+i->Gg n m txn dq (au legs) i (o8 (legs.take i) txn dq++legs.drop i) some=some (o8 legs txn dq):=by
  intro m
  induction m with
  |zero=>intro i A C;omega
  |succ m D=>
   intro i A C
   by_cases hi:i<legs.length
   ·have a:av (i:Int) (au legs)=true:=by rw[bp,aJ];simp;omega
    have j:(o8 (legs.take i) txn dq).length=i:=by simp[o8];omega
    have u:i<(o8 (legs.take i) txn dq++legs.drop i).length:=by rw[dG,j,oN];omega
    have x:gL (o8 (legs.take i) txn dq++legs.drop i) i=legs[i]:=by
     rw[vt u,List.getElem_append_right (by omega)]
     simp[j]
    rw[Gg,a,aF,db u ⟨[],[],[],0,0,0,[],[],[],[]⟩];simp only[ak];rw[aoV u (by rw[x];exact h.2 _ (bI hi)) y,ak,bD (by omega),x];have:(o8 (legs.take i) txn dq++legs.drop i).set i (if dq=true then uo legs[i] txn else qA legs[i] txn)=o8 (legs.take (i+1)) txn dq++legs.drop (i+1):=by
     rw[ayU _ _ (by omega),j,Ao,lx hi,ayV,oe hi]
     unfold o8
     rw[oO,kD]
     rfl
    rw[this];exact D (i+1) (by omega) (by omega)
   ·have:i=legs.length:=by omega
    subst this;have a:av (legs.length:Int) (au legs)=false:=by rw[bp,aJ];simp
    rw[Gg,a,aH];simp
 have:=e n 0 (by omega) (by omega);unfold uZ;simpa[o8] using this
end
end
section
section
variable{n:Nat}
theorem atC{xs:List aK}:Qc n xs=some xs:=by
 unfold Qc;simp[mB,ur,fw,ai,au,zk,ak]
theorem alc{text:aj}(x:text.length<2^28)(y:Yt text)(A:2^41<=n):KD n text=some (j4 text):=by
 obtain⟨r,e,C,D,E⟩:=alb (n:=n) x A;rw[e]
 congr 1
 cases j:r.2 with
 |true=>
  obtain⟨a,b⟩:=C j;have:=acA a (y _ a b);rw[<-b] at this;rw[this];exact Jd rfl j
 |false=>
  cases u:(j4 text).2 with
  |true=>
   obtain⟨a,b,_⟩:=Kd u;have:=E _ a b;rw[this] at j;cases j
  |false=>
   rw[alB u];exact Jd (D j) j
def Ek(r:aj):Prop:=∀a b c,bm 32 r=[a,b,c]->Yt c
theorem am6{s:aT}{txn:Int}(j:s.an.length<2^29)(u:2^41<=n):OI n s txn=some (gP s.an txn,s):=by
 have a:UD n s.an txn=some (gP s.an txn):=
  yV (by omega) (L:=λm i=>Ft n m s.an (txn,()) (au s.an) i (some (-1))) (f:=some) (p:=λt:dt=>decide (t.txn=txn)) (λm=>by simp[go_sem,Ft]) (λm i h=>by
   have e:av (i:Int) (au s.an)=true:=qH (show(i:Int)<(s.an.length:Nat) by omega)
   rw[Ft,e,aF,bn h,ak]
   simp only[UL,ak,cN]
   cases decide (s.an[i].txn=txn)<;>rfl) (by omega);unfold OI;rw[a,ak]
theorem avf{an:List dt}{k:Nat}(e:k<an.length)(a b:Int):aX (aX an (k:Int) {gT an k with aV:=a}) (k:Int) {({gT an k with aV:=a}:dt) with aV:=b}=vJ an k b:=by
 simp[aX,vJ]
theorem am7{b:aj}{v:Int}{ok:Bool}(j:ok=true->b=itoa v/\-9223372036854775808<=v/\v<=9223372036854775807)(x:∀u:Int,-1000000000000000000<u->u<1000000000000000000->b=itoa u->ok=true/\v=u):(ok=true->1<=v->v<=99->cA b=v)/\(1<=cA b->cA b<=99->ok=true/\v=cA b):=by
 constructor
 ·intro h a c;rw[(j h).1,KG (by omega) (by omega)]
 ·intro a c;rcases Kb b with⟨u,e,_,y,_⟩|⟨e,_⟩
  ·have:=x u (by omega) (by omega) (by rw[pF];exact e);exact⟨this.1,by rw[this.2,y]⟩
  ·omega
theorem asm{s:aT}{r:aj}(hr:r.length<2^28)(S:Ek r)(h:jh s.legs)(ht:uB s.an)(I7:s.an.length<2^28)(M:2^41<=n):Po n s r=some (match qG s.legs s.an r with|some y=>(true,{s with legs:=y.1,an:=y.2})|none=>(false,s)):=by
 unfold Po qG;rw[show ud n r [32]=some (bm 32 r) from QI (by omega),ak];have U:∀w∈bm 32 r,w.length<2^28:=λw hw=>by have:=yL hw;omega
 have hj:=aoI 32 r;unfold Ek at S;generalize Y:bm 32 r=ws at U hj S
 match ws with
 |[]=>exact absurd Y (Lk 32 r)
 |[a]=>rfl
 |a::b::j=>
  have q6:av (au (a::b::j)) 2=false:=BY (show¬ ((a::b::j).length:Int)<2 by simp;omega);have l0:af (a::b::j) 0=some a:=rfl;have l1:af (a::b::j) 1=some b:=rfl;obtain⟨v,ok,S2,N,Z⟩:=JN (n:=n) (s:=b) (by have:=U b (by simp);omega);obtain⟨iY,iM⟩:=am7 N Z;rw[q6,aH,l1,l0];simp only[ak,S2,am6 (n:=n) (s:=s) (by omega) M];have hE:j=[]->∀(F:Bool),(F=true↔ok=true/\0<=gP s.an v/\(gT s.an (gP s.an v).toNat).aV=1/\(a=[67]\/a=[65]))->(F=true↔(a=[67]\/a=[65])/\0<=gP s.an (cA b)/\(gT s.an (gP s.an (cA b)).toNat).aV=1/\r=a++[32]++itoa (cA b))/\(F=true->cA b=v):=by
   intro L7 F C
   subst L7
   have aa:r=a++32::b:=hj.symm
   have P:∀x,0<=gP s.an x->1<=x/\x<=99:=λx hx=>by
    obtain⟨k,_,H,nY⟩:=HE hx
    have:=(ht.t _ (bI H)).1
    rw[<-BK H,nY] at this
    exact this
   have I:F=true->cA b=v:=λu=>by
    obtain⟨D,A,_⟩:=C.1 u
    have:=P v A
    exact iY D this.1 this.2
   refine⟨?_,I⟩
   constructor
   ·intro u;have e:=I u;obtain⟨D,A,J,c4⟩:=C.1 u;rw[e];exact⟨c4,A,J,by rw[aa,(N D).1];simp⟩
   ·rintro⟨c4,A,J,c5⟩;have:=P _ A;obtain⟨c6,c7⟩:=iM this.1 this.2;rw[C,c7];exact⟨c6,A,J,c4⟩
  match j with
  |[]=>
   have Q:ai (au [a,b]) 2=true:=rfl;have R:ai (au [a,b]) 3=false:=rfl;simp only[Q,R,aH,cn,dy,mU]
   by_cases A:0<=gP s.an v
   ·obtain⟨k,hk,H,nY⟩:=HE A;have C:=hE rfl (ok&&(decide ((gT s.an k).aV=1)&&(decide (a=[67])||decide (a=[65])))) (by
     rw[hk,eC]
     simp only[bo,CN,bH]
     constructor
     ·rintro⟨d1,d2,d3⟩;exact⟨d1,by omega,d2,d3⟩
     ·rintro⟨d1,_,d2,d3⟩;exact⟨d1,d2,d3⟩);have tk:av ((k:Nat):Int) 0=false:=BY (by omega);have jT:∀x:dt,af (aX s.an ((k:Nat):Int) x) ((k:Nat):Int)=some x:=λx=>by simp[af,aX,H]
    rw[hk,tk,db H ⟨0,0,[]⟩];simp only[ak,aH,cN,jT,avf H,alE h M]
    by_cases u:(ok&&(decide ((gT s.an k).aV=1)&&(decide (a=[67])||decide (a=[65]))))=true
    ·have ab:=C.1.1 u;have I:=C.2 u;rw[aD ab,I,hk,eC];simp only[bo,CN,bH] at u;obtain⟨d1,d2,d3⟩:=u;have hp:a≠[80]:=by rcases d3 with rfl|rfl<;>decide
     rw[show decide (a=[80])=false by simpa using hp,d1,show decide ((gT s.an k).aV=1)=true by simpa using d2];simp only[dy,aH];rcases d3 with rfl|rfl
     ·simp[vJ,-List.getD_eq_getElem?_getD]
     ·simp[vJ,aX,-List.getD_eq_getElem?_getD]
    ·rw[aE (λh=>u (C.1.2 h))];rw[sC] at u;generalize decide (a=[80])=z0;generalize decide ((gT s.an k).aV=1)=z1 at u⊢;generalize decide (a=[67])=z2 at u⊢;generalize decide (a=[65])=z3 at u⊢;cases z0<;>cases ok<;>cases z1<;>cases z2<;>cases z3<;>first|rfl|(simp at u)
   ·have xY:=(af8 (show gP s.an v<0 by omega)).1;have C:=hE rfl false (by simp;intro _ h;exact absurd h A);rw[aE (λh=>by cases C.1.2 h),xY];have:av (-1) 0=true:=rfl;rw[this];cases decide (a=[80])<;>cases ok<;>rfl
  |[c]=>
   have Q:ai (au [a,b,c]) 2=false:=rfl;have R:ai (au [a,b,c]) 3=true:=rfl;have l2:af [a,b,c] 2=some c:=rfl;simp only[Q,R,l2,aF,cn,gE,mU,ak,alc (U c (by simp)) (S a b c rfl) M,abn (n:=n) (net:=s.legs) (by have:=h.1;omega) (λl hl=>(h.2 l hl).z) M]
   by_cases D:a=[80]
   rotate_left
   ·rw[aE (λh=>D h.1),show decide (a=[80])=false by simpa using D];cases ok<;>rfl
   rw[show decide (a=[80])=true by simpa using D,aF];have ad:HB n v=some (decide (1<=v/\v<=99)):=by unfold HB;rw[y9,ak]
   simp only[ad,ak,gx]
   by_cases A:ok=true/\1<=v/\v<=99
   ·obtain⟨d1,d2,d3⟩:=A;have I:=iY d1 d2 d3;rw[I,d1,show decide (1<=v/\v<=99)=true by simpa using⟨d2,d3⟩];simp only[dy,aH];cases NA:(j4 c).2 with
    |false=>
     rw[aE (λh=>by cases h.2.2.2)];rfl
    |true=>
     simp only[dy,aH]
     by_cases J:gP s.an v<0
     ·have I4:decide (0<=gP s.an v)=false:=by simp;omega
      rw[aD ⟨D,J,⟨d2,d3⟩,trivial⟩,I4,aH];have gJ:=(rq (Kd NA).1).2;have E:=abo (n:=n) (txn:=v) (ops:=(j4 c).1) (by omega) M n 0 s.legs (by omega) (by omega) h;rw[wR] at E;unfold UM;cases hA:rH v s.legs (j4 c).1 with
      |none=>
       rw[hA] at E;obtain⟨y,hy⟩:=E;rw[show((0:Nat):Int)=0 from rfl] at hy;rw[hy];rfl
      |some x=>
       rw[hA] at E;simp only at E;rw[show((0:Nat):Int)=0 from rfl] at E;rw[E];simp only[ak,dy,aH];rw[eL (by simp;omega) (by omega),ak];rfl
     ·have I4:decide (0<=gP s.an v)=true:=by simp;omega
      rw[aE (λh=>J h.2.1),I4];rfl
   ·rw[aE (λh=>A (by
      obtain⟨_,_,⟨d2,d3⟩,_⟩:=h
      obtain⟨d4,d5⟩:=iM d2 d3
      exact⟨d4,by omega,by omega⟩))];have:(ok&&decide (1<=v/\v<=99))=false:=by
     rw[<-sC,bo,bH]
     exactλh=>A ⟨h.1,h.2⟩
    generalize decide (1<=v/\v<=99)=z at this⊢;cases ok<;>cases(j4 c).2<;>cases z<;>first|rfl|(simp at this)
  |c::d::j=>
   have Q:ai (au (a::b::c::d::j)) 2=false:=by rw[cN,aJ];simp;omega
   have R:ai (au (a::b::c::d::j)) 3=false:=by rw[cN,aJ];simp;omega
   simp only[Q,R,aH,cn,gE,mU];cases decide (a=[80])<;>cases ok<;>rfl
theorem adY{rs:List aj}(u:∀r∈rs,r.length<2^28/\Ek r)(D:rs.length<2^27)(A:2^41<=n):∀(m i:Nat)(x:aT),i<=rs.length->rs.length<m+i->jh x.legs->uB x.an->x.an.length<=i->FD n m rs (au rs) i x (λE=>some (E,true))=some (match pS x.legs x.an (rs.drop i) with|some y=>({x with legs:=y.1,an:=y.2},true)|none=>(⟨0,[],[],false,[],[]⟩,false))
 |0,i,x,F,H,e,j,I=>by omega
 |m+1,i,x,F,H,e,j,I=>by
  by_cases hi:i<rs.length
  ·have a:av (i:Int) (au rs)=true:=qH (show(i:Int)<(rs.length:Nat) by omega);have C:=u _ (bI hi);rw[FD,a,aF,bn hi,ak,lx hi,pS,asm C.1 C.2 e j (by omega) A,ak];cases J:qG x.legs x.an rs[i] with
   |none=>rfl
   |some y=>
    obtain⟨M,N,P,_⟩:=RT (l:=y.1) (t:=y.2) e j J;simp only[cn,dy,aH];rw[bD (by omega)];exact adY u D A m (i+1) _ (by omega) (by omega) M N (by simp;omega)
  ·have:i=rs.length:=by omega
   subst this;have a:av (rs.length:Int) (au rs)=false:=BY (show¬ (rs.length:Int)<(rs.length:Nat) by omega);rw[FD,a,aH,sD];rfl
def vv(s:aj):Prop:=∀r∈(cS s).1,Ek r
theorem al4{s:aT}(j:s.log.length<100000)(x:vv s.log)(a:jh s.base)(e:2^41<=n):OE n s=some (match pS s.base [] (cS s.log).1 with|some y=>(⟨s.id,s.base,s.log.take (cS s.log).2,true,y.1,y.2⟩,true)|none=>(⟨0,[],[],false,[],[]⟩,false)):=by
 have A:=DQ (s:=s.log) (by omega);unfold OE;rw[alA (by omega) e,ak];dsimp only;rw[abn (by have:=a.1;omega) (λl j=>(a.2 l j).z) e,ak,show dZ s.log 0 ((cS s.log).2:Int)=some (s.log.take (cS s.log).2) by unfold dZ;rw[aD (by omega)];simp,ak,ak];have:=adY (n:=n) (rs:=(cS s.log).1) (λr u=>⟨by have:=Wp (by omega) u;omega,x r u⟩) (by omega) e n 0 (aT.mk s.id s.base (s.log.take (cS s.log).2) true s.base []) (by omega) (by omega) a CE (by simp);rw[wR] at this;exact this
theorem Ze{a b:List Int}(C:a.length<2^29)(D:2^41<=n):Ok (GS n a b) λr=>r=true↔a=b:=by
 unfold GS;refine cd (ok_eq (λu=>?_) λu=>az ⟨λh=>(by cases h),λh=>absurd (by rw[h]) u⟩);have y:a.length=b.length:=by simp only[go_sem] at u;omega
 have A:=lT (N:=a.length) (by omega) (L:=λm i=>FW n m a b (au a) i (some true)) (P:=λj=>decide (gI a j=gI b j)) (k:=some true) (r:=some false) (λm=>by simp[go_sem,FW]) (λm i hi=>by
  have e:av (i:Int) (au a)=true:=qH (show(i:Int)<(a.length:Nat) by omega)
  rw[FW,e,aF,db hi 0,db (show i<b.length by omega) 0,ak,ak,cN,cn]
  cases decide (gI a i=gI b i)<;>rfl) (m:=n) (by omega);have x:(eX a.length λj=>decide (gI a j=gI b j))=true↔a=b:=by
  rw[<-yG 0 y,oq]
  simp only[bH]
 rw[A];split
 ·rename_i e;exact az ⟨λ_=>x.1 e,λ_=>rfl⟩
 ·rename_i e;exact az ⟨λh=>(by cases h),λh=>absurd (x.2 h) e⟩
theorem avg{a b:List bc}(C:a.length<2^29)(D:2^41<=n):Ok (Pp n a b) λr=>r=true↔a=b:=by
 unfold Pp;refine cd (ok_eq (λu=>?_) λu=>az ⟨λh=>(by cases h),λh=>absurd (by rw[h]) u⟩);have y:a.length=b.length:=by simp only[go_sem] at u;omega
 have A:=lT (N:=a.length) (by omega) (L:=λm i=>FX n m a b (au a) i (some true)) (P:=λj=>decide ((gH a j).txn=(gH b j).txn)&&(decide ((gH a j).cls=(gH b j).cls)&&decide ((gH a j).aG=(gH b j).aG))) (k:=some true) (r:=some false) (λm=>by simp[go_sem,FX]) (λm i hi=>by
  have e:av (i:Int) (au a)=true:=qH (show(i:Int)<(a.length:Nat) by omega)
  rw[FX,e,aF,db hi ⟨0,0,0⟩,db (show i<b.length by omega) ⟨0,0,0⟩,ak,ak]
  simp only[fw,cN,cn]
  generalize(decide ((gH a i).txn=(gH b i).txn)&&(decide ((gH a i).cls=(gH b i).cls)&&decide ((gH a i).aG=(gH b i).aG)))=z
  cases z<;>rfl) (m:=n) (by omega);have x:(eX a.length λj=>decide ((gH a j).txn=(gH b j).txn)&&(decide ((gH a j).cls=(gH b j).cls)&&decide ((gH a j).aG=(gH b j).aG)))=true↔a=b:=by
  rw[<-yG ⟨0,0,0⟩ y,oq]
  simp only[bo,bH,abl]
 rw[A];split
 ·rename_i e;exact az ⟨λ_=>x.1 e,λ_=>rfl⟩
 ·rename_i e;exact az ⟨λh=>(by cases h),λh=>absurd (x.2 h) e⟩
theorem avh{a b:List aY}(C:a.length<2^29)(D:2^41<=n):Ok (Pr n a b) λr=>r=true↔a=b:=by
 unfold Pr;refine cd (ok_eq (λu=>?_) λu=>az ⟨λh=>(by cases h),λh=>absurd (by rw[h]) u⟩);have y:a.length=b.length:=by simp only[go_sem] at u;omega
 have A:=lT (N:=a.length) (by omega) (L:=λm i=>FY n m a b (au a) i (some true)) (P:=λj=>decide ((gO a j).ba=(gO b j).ba)&&(decide ((gO a j).cls=(gO b j).cls)&&(decide ((gO a j).aG=(gO b j).aG)&&decide ((gO a j).share=(gO b j).share)))) (k:=some true) (r:=some false) (λm=>by simp[go_sem,FY]) (λm i hi=>by
  have e:av (i:Int) (au a)=true:=qH (show(i:Int)<(a.length:Nat) by omega)
  rw[FY,e,aF,db hi ⟨[],0,0,0⟩,db (show i<b.length by omega) ⟨[],0,0,0⟩,ak,ak]
  simp only[fw,cN,mU,cn]
  generalize(decide ((gO a i).ba=(gO b i).ba)&&(decide ((gO a i).cls=(gO b i).cls)&&(decide ((gO a i).aG=(gO b i).aG)&&decide ((gO a i).share=(gO b i).share))))=z
  cases z<;>rfl) (m:=n) (by omega);have x:(eX a.length λj=>decide ((gO a j).ba=(gO b j).ba)&&(decide ((gO a j).cls=(gO b j).cls)&&(decide ((gO a j).aG=(gO b j).aG)&&decide ((gO a j).share=(gO b j).share))))=true↔a=b:=by
  rw[<-yG ⟨[],0,0,0⟩ y,oq]
  simp only[bo,bH,abQ]
 rw[A];split
 ·rename_i e;exact az ⟨λ_=>x.1 e,λ_=>rfl⟩
 ·rename_i e;exact az ⟨λh=>(by cases h),λh=>absurd (x.2 h) e⟩
theorem al5{a b:ax}:a=b↔a.name=b.name/\a.aC=b.aC/\a.to=b.to/\a.dJ=b.dJ/\a.arr=b.arr/\a.cap=b.cap/\a.bA=b.bA/\a.bh=b.bh/\a.cV=b.cV/\a.holds=b.holds:=by
 cases a;cases b;simp
theorem aoW{a b:ax}(u:uA a)(A:2^41<=n):Ok (ON n a b) λr=>r=true↔a=b:=by
 have I:=u.z1;have J:=u.z2;have M:=u.z3;have N:=u.z4;have j:∀{p:Prop},(a=b->p)->¬ p->Ok (some false) λr=>r=true↔a=b:=λf h=>az ⟨λh=>(by cases h),λe=>absurd (f e) h⟩;unfold ON;refine qz (λP=>qz (λQ=>qz (λR=>ok_eq (λS=>ok_eq (λU=>ok_eq (λY=>aW (Ze (by omega) A) λx hx=>cc (λD=>aW (Ze (by omega) A) λy C=>cc (λE=>aW (Ze (by omega) A) λz hz=>cc (λF=>aW (avg (by omega) A) λw H=>az ?_) λc=>?_) λc=>?_) λc=>?_) λc=>?_) λc=>?_) λc=>?_) λc=>?_) λc=>?_) λc=>?_
 ·rw[H,al5];have:=hx.1 D;have:=C.1 E;have:=hz.1 F
  simp_all
 ·exact j (λe=>hz.2 (by rw[e])) (by simp[c])
 ·exact j (λe=>C.2 (by rw[e])) (by simp[c])
 ·exact j (λe=>hx.2 (by rw[e])) (by simp[c])
 ·exact j (λe=>by rw[e]) c
 ·exact j (λe=>by rw[e]) c
 ·exact j (λe=>by rw[e]) c
 ·exact j (λe=>by rw[e]) c
 ·exact j (λe=>by rw[e]) c
 ·exact j (λe=>by rw[e]) c
theorem am8{a b:List ax}(F:a.length<2^29)(A:∀l∈a,uA l)(C:2^41<=n):Ok (Pq n a b) λr=>r=true↔a=b:=by
 unfold Pq;refine aW ?_ λx hx=>az hx;unfold UI;refine cd (ok_eq (λu=>?_) λu=>az ⟨λh=>(by cases h),λh=>absurd (by rw[h]) u⟩);have D:a.length=b.length:=by simp only[go_sem] at u;omega
 have E:=lT (N:=a.length) (by omega) (L:=λm i=>Fy n m b a (au a) i (some true)) (P:=λj=>@decide (gL a j=gL b j) (Classical.propDecidable _)) (k:=some true) (r:=some false) (λm=>by simp[go_sem,Fy]) (λm i hi=>by
  have e:av (i:Int) (au a)=true:=qH (show(i:Int)<(a.length:Nat) by omega)
  rw[Fy,e,aF,db hi ⟨[],[],[],0,0,0,[],[],[],[]⟩,db (show i<b.length by omega) ⟨[],[],[],0,0,0,[],[],[],[]⟩,ak,ak,I5 (aoW (n:=n) (a:=gL a i) (b:=gL b i) (A _ (Bo hi)) C),ak,cn]
  generalize@decide (gL a i=gL b i) (Classical.propDecidable _)=z
  cases z<;>rfl) (m:=n) (by omega);have y:(eX a.length λj=>@decide (gL a j=gL b j) (Classical.propDecidable _))=true↔a=b:=by
  rw[<-yG ⟨[],[],[],0,0,0,[],[],[],[]⟩ D,oq]
  simp only[bH]
 rw[E];split
 ·rename_i e;exact az ⟨λ_=>y.1 e,λ_=>rfl⟩
 ·rename_i e;exact az ⟨λh=>(by cases h),λh=>absurd (y.2 h) e⟩
theorem am9{a b:List dt}(M:a.length<2^29)(D:∀t∈a,t.ops.length<=1000)(E:2^41<=n):Ok (Ps n a b) λr=>r=true↔a=b:=by
 have h0:∀x y:dt,x.ops.length<=1000->Ok (OO n x y) λr=>r=true↔x=y:=λx y hx=>by
  unfold OO
  refine ok_eq (λF=>ok_eq (λH=>aW (avh (by omega) E) λz hz=>az ?_) λc=>?_) λc=>?_
  ·rw[hz,abR];simp[F,H]
  ·exact az ⟨λh=>(by cases h),λe=>absurd (by rw[e]) c⟩
  ·exact az ⟨λh=>(by cases h),λe=>absurd (by rw[e]) c⟩
 unfold Ps;refine aW ?_ λx hx=>az hx;unfold UJ;refine cd (ok_eq (λA=>?_) λA=>az ⟨λh=>(by cases h),λh=>absurd (by rw[h]) A⟩);have I:a.length=b.length:=by simp only[go_sem] at A;omega
 have J:=lT (N:=a.length) (by omega) (L:=λm i=>FA n m b a (au a) i (some true)) (P:=λj=>@decide (gT a j=gT b j) (Classical.propDecidable _)) (k:=some true) (r:=some false) (λm=>by simp[go_sem,FA]) (λm i hi=>by
  have u:av (i:Int) (au a)=true:=qH (show(i:Int)<(a.length:Nat) by omega)
  rw[FA,u,aF,db hi ⟨0,0,[]⟩,db (show i<b.length by omega) ⟨0,0,[]⟩,ak,ak,I5 (h0 (gT a i) (gT b i) (by rw[BK hi];exact D _ (bI hi))),ak,cn]
  generalize@decide (gT a i=gT b i) (Classical.propDecidable _)=z
  cases z<;>rfl) (m:=n) (by omega);have C:(eX a.length λj=>@decide (gT a j=gT b j) (Classical.propDecidable _))=true↔a=b:=by
  rw[<-yG ⟨0,0,[]⟩ I,oq]
  simp only[bH]
 rw[J];split
 ·rename_i u;exact az ⟨λ_=>C.1 u,λ_=>rfl⟩
 ·rename_i u;exact az ⟨λh=>(by cases h),λh=>absurd (C.2 h) u⟩
end
end
section
section
variable{n:Nat}
theorem afe{s:aj}(a:s.length<1000000000000):s.take (cS s).2=s↔(cS s).2=s.length:=by
 have h:=(DQ a).1;constructor
 ·intro e;have:=congrArg List.length e;simp at this;omega
 ·intro e;rw[e,wQ]
theorem alF{s:aT}(hz:Oe s)(I:vv s.log)(j:2^41<=n):Ok (G4 n s) λr=>r=true↔Ak s:=by
 have J:=hz.lg;have M:=hz.bl;unfold G4 Vy;rw[y9];simp only[ak];refine cd (cc (λu=>?_) λu=>az ⟨λh=>(by cases h),λh=>?_⟩)
 rotate_left
 ·have:=h.1;simp only[lP] at u;exact absurd this u
 rw[bH] at u;rw[am5 (by omega) hz.bz j,alD (by omega) j];simp only[ak];refine cd (cc (λx=>cc (λA=>az ⟨λh=>(by cases h),λh=>?_⟩) λA=>?_) λx=>az ⟨λh=>(by cases h),λh=>?_⟩)
 ·have:=h.2.1;simp only[qy,bo] at this;rw[this.1] at A;cases A
 rotate_left
 ·have:=h.2.1;simp only[qy,bo] at this;rw[this.2] at x;cases x
 have C:qy s.base=true:=by
  simp only[qy,bo]
  exact⟨by simpa using A,x⟩
 obtain⟨N,P,_⟩:=VJ C;refine cw (λD=>az ⟨λh=>(by cases h),λh=>?_⟩) λD=>?_
 ·have:=h.2.2.1;simp only[fN] at D;omega
 simp only[fN] at D;rw[al4 J I N j,ak];cases E:pS s.base [] (cS s.log).1 with
 |none=>
  simp only[cn,gE,aF];refine az ⟨λh=>(by cases h),λh=>?_⟩;obtain⟨_,_,_,y,F,_⟩:=h;rw[E] at F;cases F
 |some y=>
  simp only[cn,dy,aH];have Q:Ak s↔(if s.up=true then(cS s.log).2=s.log.length/\s.legs=y.1/\s.an=y.2 else s.legs=[]/\s.an=[]):=by
   constructor
   ·rintro⟨_,_,_,z,hz,h⟩;rw[E] at hz;cases hz;exact h
   ·exactλh=>⟨u,C,by omega,y,E,h⟩
  rw[show(λr=>r=true↔Ak s)=(λr=>r=true↔(if s.up=true then(cS s.log).2=s.log.length/\s.legs=y.1/\s.an=y.2 else s.legs=[]/\s.an=[])) from funext λr=>by rw[Q]];cases U:s.up with
  |false=>
   simp only[gE,aF,iJ,iy];refine ok_eq (λe=>az ?_) λe=>az ⟨λh=>(by cases h),λh=>absurd (by rw[h.1];rfl) e⟩;have:s.legs=[]:=qg.1 (by simp only[aJ] at e;omega);rw[cN,aJ,bH];constructor
   ·intro h;exact⟨this,qg.1 (by omega)⟩
   ·intro h;rw[h.2];rfl
  |true=>
   simp only[dy,aH,fM];refine qz (λe=>?_) λe=>az ⟨λh=>(by cases h),λh=>absurd ((afe (by omega)).2 h.1) e⟩;have R:=(afe (by omega)).1 e;refine aW (am8 (by have:=hz.ll;omega) (λl S=>(hz.lr l S).touA) j) λa H=>cc (λh6=>aW (am9 (by have:=hz.tl;omega) hz.tz j) λb C=>az ?_) λh6=>az ⟨λh=>(by cases h),λh=>absurd (H.2 h.2.1) (by simp[h6])⟩;rw[C];exact⟨λh=>⟨R,H.1 h6,h⟩,λh=>h.2.2⟩
noncomputable def okB(s:aT):Bool:=@decide (Ak s) (Classical.propDecidable _)
theorem aqE{s:aT}:okB s=true↔Ak s:=by unfold okB;simp
structure Good(s:aT):Prop where
 z:Oe s
 g:vv s.log
theorem RW{s:aT}(h:Good s)(a:2^41<=n):DD n s=some (okB s):=I5 (al1 h.z a)
theorem aga{s:aT}(h:Good s)(a:2^41<=n):G4 n s=some (okB s):=I5 (alF h.z h.g a)
theorem aoX{s:aT}(y:s.an.length<=20000)(A:2^41<=n):OP n s=some (oY s,s):=by
 have e:∀k:List aK->aT->Option (List aK×aT),∀m i:Nat,i<=s.an.length->s.an.length<m+i->∀out:List aK,out.length<=i->CV n m out s.an (au s.an) i s k=k (out++((s.an.drop i).filter λt=>decide (t.aV=1)).map λt=>⟨5,s.id,0,t.txn,[],false⟩) s:=by
  intro k m
  induction m with
  |zero=>intro i u x;omega
  |succ m j=>
   intro i u x out C
   by_cases hi:i<s.an.length
   ·have a:av (i:Int) (au s.an)=true:=qH (show(i:Int)<(s.an.length:Nat) by omega);rw[CV,a,aF,bn hi,ak,bD (by omega),lx hi,akZ,cN]
    by_cases h:s.an[i].aV=1
    ·simp only[h,fc,aF,fM];rw[eL (by simp;omega) (by omega),ak,j (i+1) (by omega) (by omega) _ (by simp;omega)];simp
    ·simp only[h,ga,aH,iJ,iy];exact j (i+1) (by omega) (by omega) out (by omega)
   ·have:i=s.an.length:=by omega
    subst this;have a:av (s.an.length:Int) (au s.an)=false:=BY (show¬ (s.an.length:Int)<(s.an.length:Nat) by omega);rw[CV,a,aH,sD];simp
 unfold OP;refine(e _ n 0 (by omega) (by omega) [] (by simp)).trans ?_;rw[atC,ak];rfl
theorem alj{s:aT}(h:Good s)(a:2^41<=n):OY n s=some (if okB s=true then oY s else[])/\OX n s=some (if okB s=true then oY s else[]):=by
 unfold OY OX;rw[RW h a,aga h a,afc h.z.tl a,aoX h.z.tl a];cases okB s<;>exact⟨rfl,rfl⟩
end
end
section
section
variable{n:Nat}
theorem aoY{s:aT}(h:Ak s):jh s.legs/\uB s.an:=by
 obtain⟨C,j,D,y,u,a⟩:=h;obtain⟨x,A,E,F⟩:=RU (l:=y.1) (t:=y.2) (VJ j).1 CE u;cases e:s.up with
 |true=>
  rw[e,aD rfl] at a;rw[a.2.1,a.2.2];exact⟨x,A⟩
 |false=>
  rw[e,aE (by simp)] at a;rw[a.1,a.2];exact⟨⟨by simp,by simp⟩,CE⟩
theorem alG{s x:aT}{r:aj}(h:uh s r=some x):∃y,xO s.log r=some x.log/\qG s.legs s.an r=some y/\x.legs=y.1/\x.an=y.2/\x.id=s.id/\x.base=s.base/\x.up=s.up:=by
 unfold uh at h;split at h
 ·cases h
 ·rename_i log e;split at h
  ·cases h
  ·rename_i y a;cases h;exact⟨y,e,a,rfl,rfl,rfl,rfl,rfl⟩
theorem acH{s x r:aj}(e:s.length<100000)(j:r.length<100000)(h:xO s r=some x):x.length<=9000/\(cS s).2=s.length/\cS x=((cS s).1++[r],x.length):=by
 unfold xO at h;split at h
 ·rename_i a;cases h;have:=aoM (s:=s) (r:=r) (by rw[dG];omega) a.1;rw[this];exact⟨by rw[dG];omega,a.1,by rw[dG]⟩
 ·cases h
theorem aoZ{m:aK}(h:1<=m.txn/\m.txn<=99):(MT m).length<100:=by
 have:=ly (x:=m.txn) (by omega) (by omega);unfold MT;split<;>simp<;>omega
theorem Xm{R:Type}{N:Nat}(a:N<2^30){L:Nat->Int->Option R}{k:Option R}(h0:∀m,L (m+1) N=k)(e:∀m i,i<N->L (m+1) i=L m (aq .i64 i 1)){m:Nat}(j:N<m):L m 0=k:=by
 have:=lT a (L:=L) (P:=λ_=>true) (k:=k) (r:=k) h0 (λm i hi=>by rw[e m i hi,aD rfl]) j;rw[this];split<;>rfl
theorem al6{a:List aY}(u:a.length<2^29)(x:2^41<=n):Rm n a a=some true:=by
 have e:=Xm (N:=a.length) (by omega) (L:=λm i=>GU n m a a i (some true)) (k:=some true) (λm=>by simp[go_sem,GU]) (λm i hi=>by
  have j:av (i:Int) (au a)=true:=qH (show(i:Int)<(a.length:Nat) by omega)
  rw[GU,j,aF,bn hi,ak,ak]
  simp[fw,cN,mU,cn]) (m:=n) (by omega);unfold Rm;rw[e];simp[cN,cn]
theorem alH{a:List aK}(y:a.length<2^29)(e:∀m∈a,m.ops.length<2^29)(j:2^41<=n):QD n a a=some true:=by
 have u:=Xm (N:=a.length) (by omega) (L:=λm i=>GD n m a a i (some true)) (k:=some true) (λm=>by simp[go_sem,GD]) (λm i hi=>by
  have x:av (i:Int) (au a)=true:=qH (show(i:Int)<(a.length:Nat) by omega)
  rw[GD,x,aF,bn hi,ak,ak,al6 (e _ (bI hi)) j]
  simp[cN,lC,cn,ak]) (m:=n) (by omega);unfold QD;rw[u];simp[cN,cn]
def Ru(an:List dt)(txn:Int):Int:=if 0<=gP an txn then(gT an (gP an txn).toNat).aV else 0
theorem ana{s:aT}{txn:Int}(e:s.an.length<2^29)(j:2^41<=n):Ve n s txn=some (Ru s.an txn):=by
 have:=yV (xs:=s.an) (by omega) (L:=λm i=>FZ n m txn i s (some 0)) (f:=λi=>some (if 0<=i then(gT s.an i.toNat).aV else 0)) (p:=λt:dt=>decide (t.txn=txn)) (λm=>by simp[go_sem,FZ]) (λm i h=>by
  have a:av (i:Int) (au s.an)=true:=qH (show(i:Int)<(s.an.length:Nat) by omega)
  rw[FZ,a,aF,bn h]
  simp only[ak,cN]
  by_cases c:s.an[i].txn=txn
  ·rw[fW c,aF,aD rfl,aD (by omega),eC,BK h]
  ·rw[gu c,aH,aE (by simp)]) (m:=n) (by omega);exact this
theorem al7{s:aT}:∀m∈oY s,m.kind=5/\m.ops=[]/\∃t∈s.an,t.aV=1/\m.txn=t.txn:=λm e=>by
 unfold oY at e;obtain⟨t,a,rfl⟩:=gQ.1 e;rw[aaF] at a;exact⟨rfl,rfl,t,a.1,by simpa using a.2,rfl⟩
theorem anb{an:List dt}(h:(an.map (·.txn)).Nodup){t:dt}(a:t∈an):Ru an t.txn=t.aV:=by
 unfold Ru;obtain⟨i,hi,rfl⟩:=q9 a;have e:gP an an[i].txn=i:=by
  unfold gP
  rw[Wq hi (by simp)]
  intro k j
  simp only[lP]
  intro e
  have:=(aaK.1 h) k i (by simp;omega) (by simpa using hi) j
  simp at this
  exact this e
 rw[e,aD (by omega),eC,BK hi]
theorem ao0{s:aT}{code:List Int}(Q:Jn n code=some s)(u:Good s)(e:2^41<=n):Jy n code=some true:=by
 have I7:=u.z.tl;unfold Jy;cases av 1048576 (au code) with
 |true=>rfl
 |false=>
  obtain⟨R,S⟩:=alj u e;rw[aH,Q,ak,S,ak,R,ak];have I:(oY s).length<=s.an.length:=by
   unfold oY;rw[qf];exact ayW _ _
  have A:∀m∈(if okB s=true then oY s else[]),m.kind=5/\m.ops=[]/\Ru s.an m.txn=1:=λm x=>by
   cases a:okB s with
   |false=>rw[a,aE (by simp)] at x;simp at x
   |true=>
    rw[a,aD rfl] at x
    obtain⟨C,J,t,D,U,Y⟩:=al7 _ x
    exact⟨C,J,by rw[Y,anb (aoY (aqE.1 a)).2.d D,U]⟩
  have y:((if okB s=true then oY s else[]).length:Int)=if okB s=true then((oY s).length:Int) else 0:=by cases okB s<;>simp
  have Z:(if okB s=true then oY s else[]).length<=20000:=by
   split
   ·omega
   ·simp
  generalize(if okB s=true then oY s else[])=T at A y Z⊢;rw[alH (by omega) (λm x=>by rw[(A m x).2.1];simp) e,aga u e,RW u e];simp only[ak,cn,dy,aH,show lC (okB s) (okB s)=true by simp[lC]];have h0:∀k:List aK->Int->aT->Option Bool,∀out,yC n n out 0 0 s k=k out (if okB s=true then((oY s).length:Int) else 0) s:=λk out=>by
   have E:∀m i:Nat,i<=s.an.length->s.an.length<m+i->okB s=true->∀c:Nat,c<=i->yC n m out (c:Int) i s k=k out ((c+((s.an.drop i).filter λt=>decide (t.aV=1)).length:Nat):Int) s:=by
    intro m
    induction m with
    |zero=>intro i h1 F;omega
    |succ m M=>
     intro i h1 F a c Zq
     by_cases hi:i<s.an.length
     ·have j:av (i:Int) (au s.an)=true:=qH (show(i:Int)<(s.an.length:Nat) by omega);rw[yC,j,aF,RW u e,ak,a,aF,bn hi,ak,cN,bD (by omega),bD (by omega),lx hi,akZ]
      by_cases P:s.an[i].aV=1
      ·simp only[P,fc,aF,fM];rw[M (i+1) (by omega) (by omega) a (c+1) (by omega)]
       congr 1
       simp only[fD];omega
      ·simp only[P,ga,aH,iJ,iy];exact M (i+1) (by omega) (by omega) a c (by omega)
     ·have:i=s.an.length:=by omega
      subst this;have j:av (s.an.length:Int) (au s.an)=false:=BY (show¬ (s.an.length:Int)<(s.an.length:Nat) by omega);rw[yC,j,aH,sD];simp
   cases a:okB s with
   |true=>
    have:=E n 0 (by omega) (by omega) a 0 (by omega);rw[aD rfl];refine UA this ?_
    congr 1
    simp[oY]
   |false=>
    obtain⟨m,rfl⟩:∃m,n=m+1:=⟨n-1,by omega⟩;rw[aE (by simp),yC,RW u e,ak,a];cases av 0 (au s.an)<;>rfl
  rw[h0];have F:∀k:List aK->Int->Option Bool,∀c,CT n n T c 0 s k=k T c:=λk c=>by
   refine Xm (N:=T.length) (by omega) (L:=λm i=>CT n m T c i s k) (λm=>?_) (λm i hi=>?_) (by omega)
   ·have H:av (T.length:Int) (au T)=false:=BY (show¬ (T.length:Int)<(T.length:Nat) by omega);rw[CT,H,aH]
   ·have H:av (i:Int) (au T)=true:=qH (show(i:Int)<(T.length:Nat) by omega);obtain⟨C,J,D⟩:=A _ (bI hi);rw[CT,H,aF,bn hi];simp only[ak];rw[C,ana (by omega) e,ak,D];rfl
  rw[F,aJ,cN,y];simp
end
end
section
section
variable{n:Nat}{R:Type}{Q:R->Prop}
theorem Yv{a b c:Int}(e:-1000000000000000<=a/\a<=1000000000000000)(j:-1000000000000000<=b/\b<=1000000000000000)(u:-1000000000000000<=c/\c<=1000000000000000):aq .i64 (aq .i64 a b) c=a+b+c:=by
 rw[js (a:=a) (b:=b) (by omega) (by omega) (by omega) (by omega),js (by omega) (by omega) (by omega) (by omega)]
def Ff(hi:Int)(a:List Int):Prop:=∀j,j<a.length->(0<=gI a j/\gI a j<=hi)/\(0<j->gI a j<=gI a (j-1))
theorem aff{a:List Int}{x:Int}:gI (a++[x]) a.length=x:=by
 simp[gI,iR]
theorem Ln{a:List Int}{x:Int}{j:Nat}(h:j<a.length):gI (a++[x]) j=gI a j:=by
 simp[gI,iR,rb h]
theorem Ff.app{hi x:Int}{xs:List Int}(h:Ff hi xs)(h0:xs≠[])(hx:0<=x)(a:x<=gI xs (xs.length-1)):Ff hi (xs++[x]):=by
 have y:0<xs.length:=aaO.2 h0;intro j e;rw[dG,yx] at e
 by_cases c:j<xs.length
 ·rw[Ln c];refine⟨(h j c).1,λu=>?_⟩;rw[Ln (by omega)];exact(h j c).2 u
 ·have:j=xs.length:=by omega
  subst this;rw[aff,Ln (by omega)];have:=(h (xs.length-1) (by omega)).1;exact⟨by omega,λ_=>a⟩
theorem Xn{l:ax}{M:Int}(D:M<=999999999000){k:ax->Rd->Option (ax×Rd)}{Q:ax×Rd->Prop}:∀(m i:Nat)(j:List Int)(r:Rd),Ff 9 j->j.length=i->1<=i->i<=3->4<m+i->bU (M+i) r->(∀u r',Ff 9 u->u.length=3->gI u 0=gI j 0->bU (M+3) r'->Ok (k {l with bA:=u} r') Q)->Ok (Gj n m i {l with bA:=j} r k) Q
 |0,i,j,r,A,C,F,H,I,h6,K=>by omega
 |m+1,i,j,r,A,C,F,H,I,h6,K=>by
  rw[Gj];refine cw (λhi=>?_) λhi=>?_
  ·have e:aL .i64 (i:Int) 1=((i-1:Nat):Int):=by rw[iA];omega
   dsimp only;rw[e,jt (show i-1<j.length by omega),ak,ak];refine cJ h6 (by omega) (by omega) λx r' S U J=>?_;have Y:=(A (i-1) (by omega)).1;have N:aL .i64 (gI j (i-1)) x=gI j (i-1)-x:=nq (by omega) (by omega) (by omega) (by omega);have h0:j≠[]:=by rintro rfl;simp at C;omega
   have P:aq .i64 (i:Int) 1=((i+1:Nat):Int):=bD (by omega);dsimp only;rw[N,P];have E:bU (M+((i+1:Nat):Int)) r':=J.mono (by omega);refine cw (λc=>dI (by simp;omega) (by omega) ?_) λc=>dI (by simp;omega) (by omega) ?_
   ·refine Xn D m (i+1) _ r' (A.app h0 (by omega) (by rw[C];omega)) (by simp;omega) (by omega) (by omega) (by omega) E λu y a b c d=>K u y a b (by rw[c,Ln (by omega)]) d
   ·refine Xn D m (i+1) _ r' (A.app h0 (by omega) (by rw[C];omega)) (by simp;omega) (by omega) (by omega) (by omega) E λu y a b c d=>K u y a b (by rw[c,Ln (by omega)]) d
  ·have:i=3:=by omega
   subst this;exact K j r A C rfl h6
theorem afg{l:ax}{M:Int}(E:M<=999999999000){k:ax->Rd->Option (ax×Rd)}{Q:ax×Rd->Prop}:∀(m c:Nat)(a:List Int)(r:Rd),Ff 899 a->1<=a.length->c+a.length<=4->c<m->bU (M+a.length) r->(∀j u,Ff 899 j->1<=j.length->j.length<=4->bU (M+4) u->Ok (k {l with cV:=j} u) Q)->Ok (JL n m c {l with cV:=a} r k) Q
 |0,i,a,r,y,A,F,H,C,K=>by omega
 |m+1,c,a,r,y,A,F,H,C,K=>by
  rw[JL];refine cw (λhi=>?_) λhi=>?_
  ·have e:aL .i64 (au a) 1=((a.length-1:Nat):Int):=by rw[aJ,iA];omega
   dsimp only;rw[e,jt (show a.length-1<a.length by omega),ak,ak];refine cJ C (by omega) (by omega) λx u I P J=>?_;have D:=(y (a.length-1) (by omega)).1;have h0:a≠[]:=by rintro rfl;simp at A
   have N:0<=gI a (a.length-1)*x:=Oz D.1 I;have S:gI a (a.length-1)*x<=gI a (a.length-1)*9:=aaU (by omega) D.1;dsimp only;rw[oW (by omega)];refine xp (by omega) N (by omega) ?_;refine dI (by simp;omega) (by omega) ?_;rw[show aL .i64 (c:Int) 1=((c-1:Nat):Int) by rw[iA];omega];exact afg E m (c-1) _ u (y.app h0 (by omega) (by omega)) (by simp) (by simp;omega) (by omega) (J.mono (by simp;omega)) K
  ·exact K a r y A (by omega) (C.mono (by omega))
theorem anc{name aC to:aj}{dJ N:Int}{r:Rd}(P:gw name=true)(S:gw aC=true)(U:gw to=true)(Y:aC≠to)(h5:0<=dJ/\dJ<=5000)(Z:bU N r)(hN:N<=999999990000)(hn:2^41<=n):Ok (Qs n r name aC to dJ) λx=>(gR x.1/\x.1.holds=[]/\x.1.name=name/\x.1.arr<=dJ+6)/\bU (N+20) x.2:=by
 unfold Qs;refine cJ Z (by omega) (by omega) λc r1 c0 c1 cC=>cJ cC (by omega) (by omega) λa r2 a0 e dC=>cJ dC (by omega) (by omega) λb r3 b0 b1 fC=>cJ fC (by omega) (by omega) λq r4 J q1 mj=>?_;dsimp only;refine iV J (by simp;omega) λx hx _=>iV J (by simp;omega) λx hx _=>?_;have hx:0<=x/\x<=899:=by
  simp only[cO,oP,oQ] at hx
  omega
 rw[Yv (a:=dJ) (by omega) (by omega) (by omega),js (a:=1) (b:=c) (by omega) (by omega) (by omega) (by omega)];refine Xn (n:=n) (M:=N+3) (by omega) (l:=ax.mk name aC to dJ (dJ+1+a) (1+c) [1+c] [0,0,0] [x] []) n 1 [1+c] r4 (λj u=>?_) rfl (by omega) (by omega) (by omega) (mj.mono (by omega)) λA r5 C g2 g3 wL=>?_
 ·have:j=0:=by simpa using u
  subst this;exact⟨by show 0<=1+c/\1+c<=9;omega,λh=>by omega⟩
 refine cJ wL (by omega) (by omega) λy r6 y0 y1 E=>?_;obtain⟨y,rfl⟩:=gD y0;dsimp only;refine afg (n:=n) (M:=N+3+3) (by omega) (l:=ax.mk name aC to dJ (dJ+1+a) (1+c) A [0,0,0] [x] []) n y [x] r6 (λj u=>?_) (by simp) (by simp;omega) (by omega) (E.mono (by simp)) λbs r7 w1 w2 w3 F=>az ⟨⟨?_,rfl,rfl,by show dJ+1+a<=dJ+6;omega⟩,F.mono (by omega)⟩
 ·have:j=0:=by simpa using u
  subst this;exact⟨by show 0<=x/\x<=899;omega,λh=>by omega⟩
 have H:gI A 0=1+c:=g3;refine{n1:=P,n2:=S,n3:=U,ne:=Y,dJ:=by show 0<=dJ/\dJ<=9999;omega,arr:=by show dJ+1<=dJ+1+a/\dJ+1+a<=9999;omega,cap:=by show 1<=1+c/\1+c<=9;omega,l3:=g2,s3:=rfl,l0:=H,b:=⟨w2,w3⟩,h6:=by simp,qX:=λj u=>?_,su:=λj u=>?_,hold:=by simp,qd:=by simp,iU:=λj u=>?_}
 ·have I:∀j,j<3->gI A j<=1+c:=λj u=>by
    have e:=(C 1 (by omega)).2 (by omega)
    have a2:=(C 2 (by omega)).2 (by omega)
    have:j=0\/j=1\/j=2:=by omega
    rcases this with rfl|rfl|rfl<;>simp only[Ao,Nat.reduceSub] at e a2<;>omega
  have D:gI [0,0,0] j=0:=by
   have:j=0\/j=1\/j=2:=by omega
   rcases this with rfl|rfl|rfl<;>rfl
  have e:=C j (by omega);simp only[uy,bo,bH];exact⟨⟨⟨e.1.1,I j u⟩,e.2⟩,by rw[D];omega⟩
 ·have e:=w1 j u;simp only[BV,bo,bH];exact⟨⟨e.1.1,by have:=e.1.2;show gI bs j<=1000000000;omega⟩,e.2⟩
 ·have D:gI [0,0,0] j=0/\dR id (List.drop j [0,0,0])=0:=by
    have:j=0\/j=1\/j=2:=by omega
    rcases this with rfl|rfl|rfl<;>exact⟨rfl,rfl⟩
  have e:=(C j (by omega)).1;exact⟨by show dR id (List.drop j [0,0,0])+dR (ny j) []<=gI A j;rw[D.2];simp[dR];exact e.1,by show dR (nV j) []<=gI [0,0,0] j;rw[D.1];simp[dR]⟩
def places:List aj:=[[97,109,115],[98,114,117],[99,100,103],[100,117,98]]
def D5:List aj:=[[108,97],[108,98],[108,99],[108,100],[108,101],[108,102]]
structure MU(net:List ax):Prop where
 l:∀l∈net,gR l/\l.holds=[]
 nm:∀j(h:j<net.length),net[j].name=gS D5 j
 len:net.length<=6
theorem Zf{k:List ax->Rd->Option (List ax×Rd)}{Q:List ax×Rd->Prop}{M:Int}(U:M<=999999000000)(F:2^41<=n):∀(m i:Nat)(out:List ax)(at' e:Int)(r:Rd),i<=6->7<m+i->out.length=i->MU out->0<=at'/\at'<4->0<=e/\e<=100+10*i->bU (M+50*i) r->(∀H Y,MU H->2<=H.length->bU (M+400) Y->Ok (k H Y) Q)->Ok (Gk n m places D5 out at' e i r k) Q
 |0,i,out,at',e,r,I,J,Z,D,h5,h6,h7,K=>by omega
 |m+1,i,out,at',e,r,I,J,Z,D,h5,h6,h7,K=>by
  rw[Gk];refine cJ h7 (by omega) (by omega) λx r1 x0 x1 cC=>?_;dsimp only;rw[js (by omega) (by omega) (by omega) (by omega)];refine cw (λhi=>?_) λhi=>K out r1 D (by omega) (cC.mono (by omega));refine cJ cC (by omega) (by omega) λd r2 d0 d1 dC=>?_;dsimp only;rw[Yv (a:=at') (by omega) (by omega) (by omega)];refine xq (by omega) (by omega) ?_;have zR:0<=(at'+1+d) % 4:=Ji _ (by omega);have EP:(at'+1+d) % 4<4:=Jj _ (by omega);have C:(at'+1+d) % 4≠at':=by omega
  generalize(at'+1+d) % 4=to at zR EP C;obtain⟨a,rfl⟩:=gD h5.1;obtain⟨t,rfl⟩:=gD zR;have pl:∀j:Nat,j<4->af places (j:Int)=some (gS places j)/\gw (gS places j)=true:=λj N=>by
   have:j=0\/j=1\/j=2\/j=3:=by omega
   rcases this with rfl|rfl|rfl|rfl<;>exact⟨rfl,by decide⟩
  have pd:gS places a≠gS places t:=by
   have I:a=0\/a=1\/a=2\/a=3:=by omega
   have J:t=0\/t=1\/t=2\/t=3:=by omega
   rcases I with rfl|rfl|rfl|rfl<;>rcases J with rfl|rfl|rfl|rfl<;>first|(exfalso;exact C rfl)|decide
  have nl:∀j:Nat,j<6->af D5 (j:Int)=some (gS D5 j)/\gw (gS D5 j)=true:=λj N=>by
   have:j=0\/j=1\/j=2\/j=3\/j=4\/j=5:=by omega
   rcases this with rfl|rfl|rfl|rfl|rfl|rfl<;>exact⟨rfl,by decide⟩
  rw[(nl i (by omega)).1,(pl a (by omega)).1,(pl t (by omega)).1];simp only[ak];refine aW (anc (nl i (by omega)).2 (pl a (by omega)).2 (pl t (by omega)).2 pd (by omega) dC (by omega) F) λy hy=>?_;obtain⟨⟨E,y2,y3,y4⟩,fC⟩:=hy;obtain⟨l,r3⟩:=y;dsimp only at E y2 y3 y4 fC⊢;refine dI (by simp;omega) (by omega) ?_;have hN:MU (out++[l]):=by
   refine⟨λq A=>?_,λj N=>?_,by simp;omega⟩
   ·rcases cU.1 A with A|A
    ·exact D.l q A
    ·rw[fe] at A;subst A;exact⟨E,y2⟩
   ·by_cases c:j<out.length
    ·rw[List.getElem_append_left c];exact D.nm j c
    ·have:j=out.length:=by simp at N;omega
     subst this;simp[y3,Z]
  have vF:=E.arr;have aa:=E.dJ;rw[bD (show i<2^31 by omega)];refine cJ fC (by omega) (by omega) λz r4 z0 z1 mj=>?_;refine cw (λhz=>?_) λhz=>?_
  ·refine cJ mj (by omega) (by omega) λu r5 u0 u1 P=>?_;dsimp only;rw[Yv (a:=l.arr) (by omega) (by omega) (by omega)];exact Zf U F m (i+1) _ _ _ r5 (by omega) (by omega) (by simp;omega) hN (by omega) (by omega) (P.mono (by omega)) K
  ·refine cJ mj (by omega) (by omega) λu r5 u0 u1 P=>cJ P (by omega) (by omega) λv r6 v0 v1 S=>?_;exact Zf U F m (i+1) _ _ _ r6 (by omega) (by omega) (by simp;omega) hN (by omega) (by omega) (S.mono (by omega)) K
theorem ane{N:Int}{r:Rd}(e:bU N r)(F:N<=999990000000/2)(j:2^41<=n):Ok (Qt n r) λx=>(MU x.1/\2<=x.1.length)/\bU (N+402) x.2:=by
 unfold Qt;refine cJ e (by omega) (by omega) λa H I J u=>cJ u (by omega) (by omega) λt y t0 t1 A=>?_;exact Zf (n:=n) (M:=N+2) (by omega) j n 0 [] a t y (by omega) (by omega) rfl ⟨by simp,by simp,by simp⟩ (by omega) (by omega) (A.mono (by omega)) λP S C D E=>az ⟨⟨C,D⟩,E.mono (by omega)⟩
theorem asn{net:List ax}(h:MU net):zG net=true/\qy net=true:=by
 have x:∀i,i<6->∀j,j<i->gS D5 j≠gS D5 i:=by decide
 have y:zG net=true:=by
  simp only[zG,rR,bo,bH,oq]
  refine⟨λj u=>⟨?_,?_⟩,by have:=h.len;omega⟩
  ·rw[vt u];exact adC.2 (h.l _ (bI u)).1
  ·rw[vt u];rcases tX (p:=λl:ax=>decide (l.name=net[j].name)) (xs:=net) (i:=0) with⟨e,a⟩|⟨q,C,e,a,F⟩
   ·have:=a _ (bI u);simp at this
   ·rw[e];have A:=h.len;have a:=ef a;rw[h.nm q C,h.nm j u] at a
    by_cases c:q<j
    ·exact absurd a (x j (by omega) q c)
    ·by_cases D:j<q
     ·exact absurd a.symm (x q (by omega) j D)
     ·omega
 refine⟨y,?_⟩;simp only[qy,bo,y,jI,jJ,bH];exactλl E=>(h.l l E).2
def EF(w:List Int):Prop:=∀x∈w,1<=x/\x<=2
theorem agb{net:List ax}(C:net.length<=6){k:List Int->Rd->Option (List Int×Rd)}{Q:List Int×Rd->Prop}{M:Int}(D:M<=999999000000):∀(m i:Nat)(out:List Int)(r:Rd),i<=net.length->net.length<m+i->out.length=i->EF out->bU (M+i) r->(∀e A,EF e->e.length=net.length->bU (M+6) A->Ok (k e A) Q)->Ok (Jq n m net out i r k) Q
 |0,i,out,r,E,F,H,j,u,K=>by omega
 |m+1,i,out,r,E,F,H,j,u,K=>by
  rw[Jq];refine cw (λhi=>?_) λhi=>?_
  ·rw[aJ] at hi;refine cJ u (by omega) (by omega) λx I N P J=>?_;dsimp only;refine dI (by simp;omega) (by omega) ?_;rw[js (by omega) (by omega) (by omega) (by omega),bD (by omega)];refine agb C D m (i+1) _ I (by omega) (by omega) (by simp;omega) (λy a=>?_) (J.mono (by omega)) K;rcases cU.1 a with a|a
   ·exact j y a
   ·rw[fe] at a;omega
  ·rw[aJ] at hi;exact K out r j (by omega) (u.mono (by omega))
theorem alI{N:Int}{r:Rd}{net:List ax}(a:net.length<=6)(e:bU N r)(A:N<=999990000000/2)(C:2^41<=n):Ok (O4 n r net) λx=>(EF x.1/\x.1.length=net.length)/\bU (N+6) x.2:=by
 unfold O4;exact agb (n:=n) (M:=N) a (by omega) n 0 [] r (by omega) (by omega) rfl (by intro x hx;simp at hx) (e.mono (by omega)) λD E j u y=>az ⟨⟨j,u⟩,y⟩
end
end
section
section
variable{n:Nat}
theorem atD{l:List aj}{i:Nat}(h:i<l.length):af l (i:Int)=some (gS l i):=db h []
theorem iz(r:ah):ah.mk (ah.op r) (ah.num r) (ah.name r) (ah.kids r) (ah.marks r)=r:=by cases r;rfl
def sU(op:Int):Int:=if op=1\/op=2 then 0 else if op=10 then 1 else if op=3\/op=4\/op=5\/op=7\/op=8 then 2 else if op=6 then 3 else if op=9 then 4 else-1
theorem Xo(op:Int):A8 n op=some (sU op):=by
 unfold A8 sU;simp only[cN,akP,bH]
 by_cases a:op=1
 ·simp[a]
 by_cases e:op=2
 ·simp[e]
 by_cases j:op=10
 ·simp[j]
 by_cases u:op=3
 ·simp[u]
 by_cases x:op=4
 ·simp[x]
 by_cases y:op=5
 ·simp[y]
 by_cases A:op=7
 ·simp[A]
 by_cases C:op=8
 ·simp[C]
 by_cases h6:op=6
 ·simp[h6]
 by_cases D:op=9
 ·simp[D]
 simp[a,e,u,x,y,h6,A,C,D,j]
theorem A2(op:Int):sU op<=4/\(0<=sU op->1<=op/\op<=10):=by
 unfold sU;split
 ·omega
 split
 ·omega
 split
 ·omega
 split
 ·omega
 split<;>omega
abbrev gM(l:List Mark)(i:Nat):Mark:=l.getD i ⟨0,0⟩
def Md(marks:List Mark)(j:Nat):Bool:=decide (0<=(gM marks j).aC/\(gM marks j).aC<=1000000000)&&(decide (0<=(gM marks j).cg/\(gM marks j).cg<=1000000)&&(decide (j=0->(gM marks j).aC=0)&&decide (0<j->(gM marks (j-1)).aC<(gM marks j).aC)))
def Bp(marks:List Mark):Bool:=eX marks.length (Md marks)&&decide (1<=(marks.length:Int)/\(marks.length:Int)<=5)
theorem adZ{marks:List Mark}(D:marks.length<2^29)(E:2^41<=n):tZ n marks=some (Bp marks):=by
 have:=λk=>lT (N:=marks.length) (by omega) (L:=λm i=>yD n m marks i k) (P:=Md marks) (k:=k marks) (r:=some false) (λm=>by simp[go_sem,yD]) (λm i hi=>by
  have x:av (i:Int) (au marks)=true:=by rw[bp];exact fW (by rw[aJ];omega)
  have e:aL .i64 (i:Int) 1=((i-1:Nat):Int)\/i=0:=by
   by_cases c:i=0
   ·exact .inr c
   ·exact .inl (by rw[iA];omega)
  have a:Md marks i=(decide (0<=(gM marks i).aC/\(gM marks i).aC<=1000000000)&&(decide (0<=(gM marks i).cg/\(gM marks i).cg<=1000000)&&(decide (i=0->(gM marks i).aC=0)&&decide (0<i->(gM marks (i-1)).aC<(gM marks i).aC)))):=rfl
  rw[yD,x,aF,db hi ⟨0,0⟩,ak]
  simp only[vf,ak,cn]
  generalize y:decide (0<=(gM marks i).aC/\(gM marks i).aC<=1000000000)=b1 at a⊢
  generalize A:decide (0<=(gM marks i).cg/\(gM marks i).cg<=1000000)=b2 at a⊢
  cases b1 with
  |false=>rw[aE (by rw[a];simp)];rfl
  |true=>
   cases b2 with
   |false=>rw[aE (by rw[a];simp)];rfl
   |true=>
    simp only[dy,aH,pA] at a⊢
    by_cases h0:i=0
    ·subst h0
     have j:ai ((0:Nat):Int) 0=true:=rfl
     have u:av 0 ((0:Nat):Int)=false:=rfl
     rw[j,u,aF,aH,cN]
     by_cases c:(gM marks 0).aC=0
     ·rw[fW c,aD (by rw[a];simp only[bo,bH];exact⟨λ_=>c,λh=>absurd h (by omega)⟩)];rfl
     ·rw[gu c,aE (by rw[a];simp only[bo,bH];exactλh=>c (h.1 trivial))];rfl
    ·have j:ai (i:Int) 0=false:=by rw[cN];exact gu (by omega)
     have u:av 0 (i:Int)=true:=by rw[bp];exact fW (by omega)
     have C:aL .i64 (i:Int) 1=((i-1:Nat):Int):=by rw[iA];omega
     rw[j,u,aF,aH,C,db (show i-1<marks.length by omega) ⟨0,0⟩,ak,gx]
     by_cases c:(gM marks (i-1)).aC<(gM marks i).aC
     ·rw[gu (show¬ (gM marks i).aC<=(gM marks (i-1)).aC by omega),aD (by rw[a];simp only[bo,bH];exact⟨λh=>absurd h h0,λ_=>c⟩)];rfl
     ·rw[fW (show(gM marks i).aC<=(gM marks (i-1)).aC by omega),aE (by rw[a];simp only[bo,bH];exactλh=>c (h.2 (by omega)))];rfl) (m:=n) (by omega);unfold tZ Bp;rw[this];cases eX marks.length (Md marks)<;>simp[go_sem]
structure za(r:ah):Prop where
 k:(r.kids.length:Int)=sU r.op
 num:r.op≠1->r.num=0
 name:r.op≠2->r.name=[]
 uP:r.op≠10->r.marks=[]
 n1:r.op=1->-1000000000<=r.num/\r.num<=1000000000
 n2:r.op=2->gw r.name=true
 n3:r.op=10->Bp r.marks=true
theorem anf{r:ah}(P:r.kids.length<2^29)(M:r.marks.length<2^29)(Q:r.name.length<2^29)(J:2^41<=n):Ok (PK n r) λb=>b=true↔za r:=by
 have D:∀{p:Prop},(za r->p)->¬ p->Ok (some false) λb=>b=true↔za r:=λf h=>az ⟨λh=>(by cases h),λe=>absurd (f e) h⟩;have N:∀{a b:Option Bool},Ok b (λx=>x=true↔za r)->(av 0 (au r.marks)=true->¬ za r)->Ok (cond (av 0 (au r.marks)) (some false) b) λx=>x=true↔za r:=λC u=>cc (λc=>az ⟨λh=>(by cases h),λe=>absurd e (u c)⟩) λ_=>C;have R:av 0 (au r.marks)=false->r.marks=[]:=λh=>by
  rw[bp,aJ,lP] at h
  exact qg.1 (by omega)
 unfold PK;rw[Xo,ak];refine cd (ok_eq (λI=>?_) λI=>D (λh=>h.k) I);have H:(r.kids.length:Int)=sU r.op:=I;simp only[vf,u5 (show r.name.length<2^30 by omega) J,adZ M J,ak,mU];refine cd (ok_eq (λC=>?_) λC=>?_)
 ·refine cd (ok_eq (λu=>by omega) λu=>cd (cc (λy=>cd (ok_eq (λA=>by omega) λA=>cw (λj=>?_) λj=>ok_eq (λ_=>az ?_) λh=>absurd C h)) λy=>?_))
  ·exact D (λh=>h.uP A) (λe=>by rw[aJ,e] at j;simp at j)
  ·have E:r.marks=[]:=qg.1 (by rw[aJ] at j;omega);rw[bH] at y⊢;exact⟨λh=>⟨H,λh=>absurd C h,λ_=>y,λ_=>E,λ_=>h,λh=>by omega,λh=>by omega⟩,λh=>h.n1 C⟩
  ·rw[lP] at y;exact D (λh=>h.name u) y
 ·refine cd (ok_eq (λF=>?_) λF=>D (λh=>h.num C) F);refine cd (ok_eq (λu=>?_) λu=>?_)
  ·refine cd (ok_eq (λA=>by omega) λA=>cw (λj=>?_) λj=>ok_eq (λh=>absurd h C) λ_=>ok_eq (λ_=>az ?_) λh=>absurd u h)
   ·exact D (λh=>h.uP A) (λe=>by rw[aJ,e] at j;simp at j)
   ·have E:r.marks=[]:=qg.1 (by rw[aJ] at j;omega);exact⟨λh=>⟨H,λ_=>F,λh=>absurd u h,λ_=>E,λh=>by omega,λ_=>h,λh=>by omega⟩,λh=>h.n2 u⟩
  ·refine cd (cc (λy=>?_) λy=>?_)
   ·rw[bH] at y;refine cd (ok_eq (λA=>?_) λA=>cw (λj=>?_) λj=>?_)
    ·refine ok_eq (λh=>absurd h C) λ_=>ok_eq (λh=>absurd h u) λ_=>ok_eq (λ_=>az ?_) λh=>absurd A h;exact⟨λh=>⟨H,λ_=>F,λ_=>y,λh=>absurd A h,λh=>by omega,λh=>by omega,λ_=>h⟩,λh=>h.n3 A⟩
    ·exact D (λh=>h.uP A) (λe=>by rw[aJ,e] at j;simp at j)
    ·have E:r.marks=[]:=qg.1 (by rw[aJ] at j;omega);refine ok_eq (λh=>absurd h C) λ_=>ok_eq (λh=>absurd h u) λ_=>ok_eq (λh=>absurd h A) λ_=>az ⟨λ_=>?_,λ_=>rfl⟩;exact⟨H,λ_=>F,λ_=>y,λ_=>E,λh=>by omega,λh=>by omega,λh=>by omega⟩
   ·rw[lP] at y;exact D (λh=>h.name u) y
def nM:Nat->ah->Prop|0,_=>False|d+1,r=>za r/\∀k∈r.kids,nM d k
def ju:Nat->ah->Nat|0,_=>0|d+1,r=>1+(r.kids.map (ju d)).sum
def lz:Nat->ah->Prop|0,_=>False|d+1,r=>r.kids.length<=10/\r.marks.length<=10/\r.name.length<=1000/\∀k∈r.kids,lz d k
theorem ad0:∀(d z:Nat)(n:Nat)(r:ah)(a left:Int),2^41+d<=n->lz z r->a=7-d->0<=a->-2<=left/\left<=30->Ok (AU n r a left) λx=>-1<=x/\x<30/\(0<=x->nM d r/\(x:Int)=left-ju d r)
 |d,0,n,r,a,left,H,hz,I,h0,J=>absurd hz (by simp[lz])
 |0,z+1,n,r,a,left,H,hz,I,h0,J=>by
  obtain⟨n,rfl⟩:∃m,n=m+1:=⟨n-1,by omega⟩;rw[AU,nq (by omega) (by omega) (by omega) (by omega)];exact cw (λ_=>az ⟨by omega,by omega,λh=>by omega⟩) λ_=>cw (λ_=>az ⟨by omega,by omega,λh=>by omega⟩) λh=>by omega
 |d+1,z+1,n,r,a,left,H,hz,I,h0,J=>by
  obtain⟨n,rfl⟩:∃m,n=m+1:=⟨n-1,by omega⟩;obtain⟨R,S,U,A⟩:=hz;rw[AU,nq (by omega) (by omega) (by omega) (by omega),iz];refine cw (λ_=>az ⟨by omega,by omega,λh=>by omega⟩) λtE=>cw (λ_=>az ⟨by omega,by omega,λh=>by omega⟩) λtG=>?_;refine aW (anf (by omega) (by omega) (by omega) (by omega)) λb Y=>cd (cc (λZ=>?_) λaa=>az ⟨by omega,by omega,λh=>by omega⟩);have hP:=Y.1 Z;have dx:=A2 r.op;have C:∀m i:Nat,∀x:Int,i<=r.kids.length->r.kids.length<m+i->-1<=x->x<30->(0<=x->(∀k∈r.kids.take i,nM d k)/\x=left-1-((r.kids.take i).map (ju d)).sum)->Ok (JB n (AU n) m a x i r λD=>some D) λx=>-1<=x/\x<30/\(0<=x->nM (d+1) r/\(x:Int)=left-ju (d+1) r):=by
   intro m
   induction m with
   |zero=>intro i x h1 h2;omega
   |succ m ih=>
    intro i x h1 h2 M N P
    rw[JB]
    refine cw (λhi=>pM (λhx=>?_) λhx=>az ⟨M,N,λh=>by omega⟩) λhi=>az ⟨M,N,λh=>?_⟩
    ·rw[aJ] at hi;have E:i<r.kids.length:=by omega
     rw[bn E,ak,iz,js (by omega) (by omega) (by omega) (by omega),bD (by omega),iz];refine aW (ad0 d z n r.kids[i] (a+1) x (by omega) (A _ (bI E)) (by omega) (by omega) (by omega)) λy F=>?_;refine ih (i+1) y (by omega) (by omega) F.1 F.2.1 λzM=>?_;obtain⟨p1,p2⟩:=F.2.2 zM;obtain⟨u,Q⟩:=P hx;rw[oe E];refine⟨λk j=>?_,?_⟩
     ·rcases cU.1 j with j|j
      ·exact u k j
      ·rw[fe] at j;subst j;exact p1
     ·rw[oO,ak1,mM,wP,ak2,List.sum_nil];omega
    ·rw[aJ] at hi;obtain⟨u,Q⟩:=P h;have e:r.kids.take i=r.kids:=Fs (by omega);rw[e] at u Q;exact⟨⟨hP,u⟩,by rw[ju];omega⟩
  exact C n 0 (left-1) (by omega) (by omega) (by omega) (by omega) λh=>by simp
def jL:List aj:=[[],[],[],[97,100,100],[115,117,98],[109,117,108],[112,97,114,116],[109,105,110],[109,97,120],[105,102],[116,105,101,114,115]]
def nN(m:Mark):aj:=itoa m.aC++[58]++itoa m.cg
def jM(l:List Mark):aj:=if l=[] then[] else[59]++dE 44 (l.map nN)
def ez:Nat->ah->aj
 |0,_=>[]
 |d+1,r=>if r.op=1 then itoa r.num else if r.op=2 then r.name else gS jL r.op.toNat++[40]++dE 44 (r.kids.map (ez d))++jM r.marks++[41]
theorem Ke{marks:List Mark}(h:Bp marks=true):(∀m∈marks,(0<=m.aC/\m.aC<=1000000000)/\0<=m.cg/\m.cg<=1000000)/\1<=marks.length/\marks.length<=5:=by
 simp only[Bp,bo,oq,Md,bH] at h;refine⟨λm u=>?_,by omega,by omega⟩;obtain⟨j,a,rfl⟩:=q9 u;have:=h.1 j a;have e:gM marks j=marks[j]:=by rw[gM,iR,cT a];rfl
 rw[e] at this;exact⟨this.1,this.2.1⟩
theorem abS:∀op:Nat,(gS jL op).length<=5:=by
 intro op
 by_cases h:op<11
 ·have:∀i:Fin 11,(gS jL i.val).length<=5:=by decide
  exact this ⟨op,h⟩
 ·have:gS jL op=[]:=by
    unfold gS
    rw[iR,pz (by show jL.length<=op;simp[jL];omega)]
    rfl
  rw[this];simp
theorem acI{m:Mark}(h:(0<=m.aC/\m.aC<=1000000000)/\0<=m.cg/\m.cg<=1000000):(nN m).length<=43:=by
 have a:=ly (x:=m.aC) (by omega) (by omega);have b:=ly (x:=m.cg) (by omega) (by omega);simp[nN];omega
theorem U2{r:ah}(h:za r):(∀m∈r.marks,(0<=m.aC/\m.aC<=1000000000)/\0<=m.cg/\m.cg<=1000000)/\r.marks.length<=5:=by
 by_cases c:r.op=10
 ·have:=Ke (h.n3 c);exact⟨this.1,this.2.2⟩
 ·rw[h.uP c];simp
theorem al8{r:ah}(h:za r):(jM r.marks).length<=221:=by
 obtain⟨a,u⟩:=U2 h;unfold jM;split
 ·simp
 ·have:=A1 (c:=44) (b:=43) (l:=r.marks.map nN) (λw e=>by
    obtain⟨m,j,rfl⟩:=gQ.1 e
    exact acI (a m j));simp at this⊢;omega
theorem abT:∀(d:Nat)(r:ah),nM d r->(ez d r).length<=300*5^d
 |0,r,h=>absurd h (by simp[nM])
 |d+1,r,h=>by
  obtain⟨e,j⟩:=h;have A:1<=5^d:=aaV _ _ (by omega);have C:(5:Nat)^(d+1)=5*5^d:=by rw[yy];omega
  unfold ez;split
  ·rename_i c;have:=e.n1 c;have:=ly (x:=r.num) (by omega) (by omega);omega
  ·split
   ·rename_i c;have:=(mQ (e.n2 c)).2.2;omega
   ·have a:=abS r.op.toNat;have b:=al8 e;have D:=e.k;have k4:=(A2 r.op).1;have kl:r.kids.length<=4:=by omega
    have c:=A1 (c:=44) (b:=300*5^d) (l:=r.kids.map (ez d)) (λw u=>by
     obtain⟨k,y,rfl⟩:=gQ.1 u
     exact abT d k (j k y));rw[qf] at c;have E:(300*5^d+1)*r.kids.length<=(300*5^d+1)*4:=Jk _ kl;simp only[dG,fD,jZ];omega
theorem Qk:∀(d:Nat)(n:Nat)(r:ah),2^41+d<=n->d<=6->nM d r->sG n r=some (ez d r)
 |0,n,r,Z,hd,h=>absurd h (by simp[nM])
 |d+1,n,r,Z,hd,h=>by
  obtain⟨n,rfl⟩:∃m,n=m+1:=⟨n-1,by omega⟩;obtain⟨F,S⟩:=h;have wo:=(A2 r.op).2 (by have:=F.k;omega);have k4:=(A2 r.op).1;have kl:r.kids.length<=4:=by have:=F.k;omega
  have aa:5^d<=5^5:=As (by omega) (by omega);have I:∀k∈r.kids,(ez d k).length<=1000000:=λk C=>by
   have:=abT d k (S k C)
   omega
  obtain⟨U,vX⟩:=U2 F;rw[sG,ez]
  by_cases D:r.op=1
  ·have:=F.n1 D;rw[cN,fW D,aF,aD D,o7 (by omega) (by omega),ak]
  ·rw[cN,gu D,aH,aE D]
   by_cases H:r.op=2
   ·rw[cN,fW H,aF,aD H]
   ·rw[cN,gu H,aH,aE H,iz];have u:PL n=some jL:=rfl;obtain⟨op,It⟩:=gD (show 0<=r.op by omega);have iQ:=abS op;rw[u,ak,It,atD (show op<jL.length by show op<11;omega),ak,ak,fj (by first|omega|(simp only[dG,fD,jZ];omega)),ak,eC];have J:∀(K:aj->ah->Option aj),∀m i:Nat,i<=r.kids.length->r.kids.length<m+i->C5 n (sG n) m (gS jL op++([40]:aj)++dE 44 ((r.kids.take i).map (ez d))) i r K=K (gS jL op++([40]:aj)++dE 44 (r.kids.map (ez d))) r:=by
     intro K m
     induction m with
     |zero=>intro i y A;omega
     |succ m E=>
      intro i y A
      have M:=A1 (c:=44) (b:=1000000) (l:=(r.kids.take i).map (ez d)) (λw u=>by
       obtain⟨k,C,rfl⟩:=gQ.1 u
       exact I k (yA C))
      have ab:(dE 44 ((r.kids.take i).map (ez d))).length<=5000000:=by
       simp only[qf,lv] at M
       have:(1000000+1)*min i r.kids.length<=(1000000+1)*4:=Jk _ (by omega)
       omega
      by_cases hi:i<r.kids.length
      ·have j:av (i:Int) (au r.kids)=true:=by rw[bp];exact fW (by rw[aJ];omega)
       have ad:=I _ (bI hi);rw[C5,j,aF,bn hi,iz];simp only[ak,iz];rw[Qk d n r.kids[i] (by omega) (by omega) (S _ (bI hi)),bD (by omega)];simp only[ak]
       by_cases h0:0<i
       ·have N:av 0 (i:Int)=true:=by rw[bp];exact fW (by omega)
        rw[N,aF,fj (by first|omega|(simp only[dG,fD,jZ];omega)),ak,fj (by first|omega|(simp only[dG,fD,jZ];omega)),ak];have:gS jL op++([40]:aj)++dE 44 ((r.kids.take i).map (ez d))++([44]:aj)++ez d r.kids[i]=gS jL op++([40]:aj)++dE 44 ((r.kids.take (i+1)).map (ez d)):=by
         rw[oe hi,oO,mM,wP,Kc _ _ _ (by simp;exact⟨by omega,by rintro e;rw[e] at hi;simp at hi⟩)]
         simp
        rw[this];exact E (i+1) (by omega) (by omega)
       ·have N:av 0 (i:Int)=false:=by rw[bp];exact gu (by omega)
        have P:i=0:=by omega
        subst P;rw[N,aH,fj (by first|omega|(simp only[dG,fD,jZ];omega)),ak];have:gS jL op++([40]:aj)++dE 44 ((r.kids.take 0).map (ez d))++ez d r.kids[0]=gS jL op++([40]:aj)++dE 44 ((r.kids.take (0+1)).map (ez d)):=by
         rw[oe hi]
         simp[dE]
        rw[this];exact E (0+1) (by omega) (by omega)
      ·have:i=r.kids.length:=by omega
       subst this;have j:av (r.kids.length:Int) (au r.kids)=false:=by rw[bp];exact gu (by rw[aJ];omega)
       rw[C5,j,aH,iz,wQ]
    have y:=λK=>J K n 0 (by omega) (by omega);simp only[Fk,wP,dE,Ow] at y;refine(y _).trans ?_;have gJ:(gS jL op++([40]:aj)++dE 44 (r.kids.map (ez d))).length<=6000000:=by
     have M:=A1 (c:=44) (b:=1000000) (l:=r.kids.map (ez d)) (λw u=>by
      obtain⟨k,C,rfl⟩:=gQ.1 u
      exact I k C)
     have:(1000000+1)*r.kids.length<=(1000000+1)*4:=Jk _ (by omega)
     simp only[qf] at M
     simp only[dG,fD,jZ];omega
    generalize gS jL op++([40]:aj)++dE 44 (r.kids.map (ez d))=o at gJ⊢;rw[iz];have Q:∀m i:Nat,i<=r.marks.length->r.marks.length<m+i->C6 n (sG n) m (o++jM (r.marks.take i)) i r (λXE=>ae (aO XE [41]) λp9=>some p9)=some (o++jM r.marks++[41]):=by
     intro m
     induction m with
     |zero=>intro i y A;omega
     |succ m E=>
      intro i y A
      have xW:(jM (r.marks.take i)).length<=1000:=by
       have:=A1 (c:=44) (b:=43) (l:=(r.marks.take i).map nN) (λw u=>by
        obtain⟨m,hm,rfl⟩:=gQ.1 u
        exact acI (U m (yA hm)))
       unfold jM
       split
       ·simp
       ·simp at this⊢;omega
      by_cases hi:i<r.marks.length
      ·have j:av (i:Int) (au r.marks)=true:=by rw[bp];exact fW (by rw[aJ];omega)
       have am:=U _ (bI hi);have a:=ly (x:=r.marks[i].aC) (by omega) (by omega);have b:=ly (x:=r.marks[i].cg) (by omega) (by omega);rw[C6,j,aF,bn hi,iz];simp only[ak];rw[o7 (by omega) (by omega),o7 (by omega) (by omega),bD (by omega)];simp only[ak]
       by_cases h0:i=0
       ·have R:ai (i:Int) 0=true:=by rw[cN];exact fW (by omega)
        rw[R,aF,fj (by first|omega|(simp only[dG,fD,jZ];omega)),ak,fj (by first|omega|(simp only[dG,fD,jZ];omega)),ak,fj (by first|omega|(simp only[dG,fD,jZ];omega)),ak,fj (by first|omega|(simp only[dG,fD,jZ];omega)),ak];subst h0;have:o++jM (r.marks.take 0)++([59]:aj)++itoa r.marks[0].aC++([58]:aj)++itoa r.marks[0].cg=o++jM (r.marks.take (0+1)):=by
         rw[oe hi]
         simp[jM,dE,nN]
        rw[this];exact E (0+1) (by omega) (by omega)
       ·have R:ai (i:Int) 0=false:=by rw[cN];exact gu (by omega)
        rw[R,aH,fj (by first|omega|(simp only[dG,fD,jZ];omega)),ak,fj (by first|omega|(simp only[dG,fD,jZ];omega)),ak,fj (by first|omega|(simp only[dG,fD,jZ];omega)),ak,fj (by first|omega|(simp only[dG,fD,jZ];omega)),ak];have Y:r.marks.take i≠[]:=by
         intro e
         have:=congrArg List.length e
         rw[lv,jZ] at this
         omega
        have:o++jM (r.marks.take i)++([44]:aj)++itoa r.marks[i].aC++([58]:aj)++itoa r.marks[i].cg=o++jM (r.marks.take (i+1)):=by
         rw[oe hi]
         unfold jM
         rw[aE Y,aE (List.append_ne_nil_of_right_ne_nil _ (by simp)),oO,mM,wP,Kc _ _ _ (by simpa using Y)]
         simp only[kD,nN]
        rw[this];exact E (i+1) (by omega) (by omega)
      ·have:i=r.marks.length:=by omega
       subst this;have j:av (r.marks.length:Int) (au r.marks)=false:=by rw[bp];exact gu (by rw[aJ];omega)
       rw[C6,j,aH];rw[wQ] at xW⊢;rw[fj (by first|omega|(simp only[dG,fD,jZ];omega)),ak]
    have A:=Q n 0 (by omega) (by omega);simp only[Fk,jM,aD,Ow] at A;exact A
end
end
section
section
variable{n:Nat}
def ml(c:UInt8):Bool:=decide (97<=c.toNat/\c.toNat<=122)||decide (48<=c.toNat/\c.toNat<=57)||decide (c.toNat=45)
def Iu(s:aj):Prop:=s=[]\/∃c t,s=c::t/\ml c=false
theorem BL{a b:Int}(h:a<b):av a b=true:=by rw[bp];exact fW h
theorem xB{a b:Int}(h:¬ a<b):av a b=false:=by rw[bp];exact gu h
theorem drop_cons{s:aj}{a:Nat}{c:UInt8}{t:aj}(h:s.drop a=c::t):a<s.length/\iC s (a:Int)=some (c.toNat:Int)/\s.drop (a+1)=t:=by
 have e:a<s.length:=by
  have:=congrArg List.length h
  simp at this;omega
 rw[lx e] at h;injection h with j u;exact⟨e,by rw[zl e,j],u⟩
theorem drop_nil{s:aj}{a:Nat}(h:s.drop a=[]):s.length<=a:=by
 have:=congrArg List.length h;simp at this;omega
theorem ad1{s:aj}{a:Nat}{left:Int}{ok:Bool}{f:Int}{m:Nat}{c:UInt8}{t:aj}(D:s.length<2^29)(h:s.drop a=c::t){k:Int->eu->Option (aj×eu)}:re n (m+1) f ⟨s,a,left,ok⟩ k=if ml c=true then re n m f ⟨s,((a+1:Nat):Int),left,ok⟩ k else k f ⟨s,a,left,ok⟩:=by
 obtain⟨E,C,F⟩:=drop_cons h;have e:av (a:Int) (de s)=true:=BL (by rw[fN];omega);have hi:aq .i64 (a:Int) 1=((a+1:Nat):Int):=bD (by omega);rw[re];dsimp only;rw[e,aF,C];simp only[ak,hi,gx,cN]
 by_cases j:97<=(c.toNat:Int)
 ·rw[fW j,aF]
  by_cases u:(c.toNat:Int)<=122
  ·have:ml c=true:=by unfold ml;rw[fW (show 97<=c.toNat/\c.toNat<=122 by omega)];rfl
   rw[fW u,aF,aD this]
  ·have:ml c=false:=by
     unfold ml
     rw[gu (show¬ (97<=c.toNat/\c.toNat<=122) by omega),gu (show¬ (48<=c.toNat/\c.toNat<=57) by omega),gu (show¬ c.toNat=45 by omega)];rfl
   rw[gu u,fW (show(48:Int)<=c.toNat by omega),gu (show¬ (c.toNat:Int)<=57 by omega),gu (show¬ (c.toNat:Int)=45 by omega),aE (by simp[this])];rfl
 ·rw[gu j,aH]
  by_cases x:48<=(c.toNat:Int)
  ·rw[fW x,aF]
   by_cases y:(c.toNat:Int)<=57
   ·have:ml c=true:=by unfold ml;rw[fW (show 48<=c.toNat/\c.toNat<=57 by omega)];simp
    rw[fW y,aF,aD this]
   ·have:ml c=false:=by
      unfold ml
      rw[gu (show¬ (97<=c.toNat/\c.toNat<=122) by omega),gu (show¬ (48<=c.toNat/\c.toNat<=57) by omega),gu (show¬ c.toNat=45 by omega)];rfl
    rw[gu y,gu (show¬ (c.toNat:Int)=45 by omega),aE (by simp[this])];rfl
  ·rw[gu x,aH]
   by_cases A:(c.toNat:Int)=45
   ·have:ml c=true:=by unfold ml;rw[fW (show c.toNat=45 by omega)];simp
    rw[fW A,aF,aD this]
   ·have:ml c=false:=by
      unfold ml
      rw[gu (show¬ (97<=c.toNat/\c.toNat<=122) by omega),gu (show¬ (48<=c.toNat/\c.toNat<=57) by omega),gu (show¬ c.toNat=45 by omega)];rfl
    rw[gu A,aE (by simp[this])];rfl
theorem agS{s:aj}{left:Int}{ok:Bool}{f:Int}(y:s.length<2^29){k:Int->eu->Option (aj×eu)}:∀(w:aj)(m a:Nat)(e:aj),s.drop a=w++e->(∀c∈w,ml c=true)->Iu e->w.length<m->re n m f ⟨s,a,left,ok⟩ k=k f ⟨s,((a+w.length:Nat):Int),left,ok⟩
 |_,0,a,e,h,j,u,A=>by omega
 |[],m+1,a,e,h,j,u,A=>by
  rw[iw] at h;rcases u with rfl|⟨c,t,rfl,D⟩
  ·have:=drop_nil h;have C:av (a:Int) (de s)=false:=xB (by rw[fN];omega);rw[re];dsimp only;rw[C,aH];rfl
  ·rw[ad1 y h,aE (by simp[D])];rfl
 |c::w,m+1,a,e,h,j,u,A=>by
  rw[ad1 y h,aD (j c (by simp)),agS y w m (a+1) e (drop_cons h).2.2 (λx hx=>j x (by simp[hx])) u (by simp at A;omega)]
  congr 2
  simp;omega
theorem Rv{s w j:aj}{a:Nat}{left:Int}{ok:Bool}(x:s.length<2^29)(h:s.drop a=w++j)(y:∀c∈w,ml c=true)(A:Iu j)(C:a<=s.length)(D:2^41<=n):Jm n ⟨s,a,left,ok⟩=some (w,⟨s,((a+w.length:Nat):Int),left,ok⟩):=by
 have u:a+w.length<=s.length:=by
  have:=congrArg List.length h
  simp at this;omega
 unfold Jm;dsimp only;refine(agS x w n a j h y A (by omega)).trans ?_;dsimp only;have e:dZ s (a:Int) ((a+w.length:Nat):Int)=some w:=by
  unfold dZ
  rw[aD (by omega),eC,eC,h]
  rw[show a+w.length-a=w.length by omega]
  simp
 rw[e,ak]
theorem DR{s t:aj}{a:Nat}{left:Int}{ok:Bool}{c:UInt8}(j:s.length<2^29)(h:s.drop a=c::t):rf n ⟨s,a,left,ok⟩ (c.toNat:Int)=some (true,⟨s,((a+1:Nat):Int),left,ok⟩):=by
 obtain⟨u,e,x⟩:=drop_cons h;unfold rf;dsimp only;rw[show bE (de s) (a:Int)=false by rw[gx,fN];exact gu (by omega),aH,e,ak,cN,fW rfl];simp only[cn,dy,aH,bD (show a<2^31 by omega)]
theorem Rw{s:aj}{a:Nat}{left:Int}{ok:Bool}{c:UInt8}(y:a<=s.length)(h:∀t,s.drop a≠c::t):rf n ⟨s,a,left,ok⟩ (c.toNat:Int)=some (false,⟨s,a,left,ok⟩):=by
 unfold rf;dsimp only;cases j:s.drop a with
 |nil=>
  have:=drop_nil j;rw[show bE (de s) (a:Int)=true by rw[gx,fN];exact fW (by omega),aF]
 |cons x t=>
  obtain⟨A,u,C⟩:=drop_cons j;have hx:x≠c:=λe=>h t (by rw[j,e]);rw[show bE (de s) (a:Int)=false by rw[gx,fN];exact gu (by omega),aH,u,ak,cN,gu (λe=>hx (XQ.1 e))];rfl
theorem afh{c:UInt8}(h:c.toNat=45\/(48<=c.toNat/\c.toNat<=57)):ml c=true:=by
 unfold ml;rcases h with h|h
 ·rw[fW h];simp
 ·rw[fW h];simp
theorem aqF{c:UInt8}(h:97<=c.toNat/\c.toNat<=122):ml c=true:=by
 unfold ml;rw[fW h];rfl
theorem ao1{a:Int}(e:-1000000000<=a)(j:a<=1000000000):fO .i64 a=-a:=by
 unfold fO;rw[IntKind.wrap_i64];omega
theorem afi{x:Int}(h:-1000000000<=x/\x<=1000000000):uz (itoa x)=(x,true):=by
 by_cases c:0<=x
 ·obtain⟨u,rfl⟩:=gD c;have:(itoa (u:Int)).head?≠some 45:=by
   rw[pF]
   cases e:decDigits u with
   |nil=>simp
   |cons y l=>
    have j:=AR u y (by rw[e];simp)
    simp only[Uy,Uz,aQ]
    rintro rfl
    have:(45:UInt8).toNat=45:=rfl
    omega
  unfold uz;rw[aE this];have:=KG (x:=(u:Int)) (by omega) (by omega);rw[this,fW c]
 ·obtain⟨u,rfl⟩:∃u:Nat,x=-(u:Int):=⟨x.natAbs,by omega⟩;rw[itoa_neg (by omega)];have a:(45::decDigits u:aj).head?=some 45:=rfl;unfold uz;rw[aD a];simp only[ayR,wR];rw[Hm (by omega),ao1 (by omega) (by omega),fW (show(0:Int)<u by omega)]
theorem ao2{s:aj}(h:gw s=true):(uz s).2=false:=by
 obtain⟨a,e,u⟩:=mQ h;cases s with
 |nil=>simp at e
 |cons c s=>
  have x:=a c (by simp);have j:(c::s:aj).head?≠some 45:=by
   simp only[Uy,Uz,aQ]
   rintro rfl
   have:(45:UInt8).toNat=45:=rfl
   omega
  unfold uz;rw[aE j];have:cA (c::s)=-1:=by
   unfold cA
   rw[aE]
   have:oX c=false:=by unfold oX;exact gu (by omega)
   simp[this]
  rw[this];rfl
theorem abU{s e:aj}{a:Nat}{left x:Int}(u:s.length<2^29)(hx:-1000000000<=x/\x<=1000000000)(h:s.drop a=itoa x++e)(y:Iu e)(A:a<=s.length)(j:2^41<=n):FC n ⟨s,a,left,true⟩=some (x,⟨s,((a+(itoa x).length:Nat):Int),left,true⟩):=by
 unfold FC;rw[Rv u h (λc C=>afh (A0 c C)) y A j,ak];dsimp only;rw[RS j,ak,afi hx];rfl
theorem Ql{c:UInt8}{t:aj}(h:ml c=false):Iu (c::t):=.inr ⟨c,t,rfl,h⟩
theorem agc{s:aj}{left:Int}(R:s.length<2^28)(F:2^41<=n):∀(j:List Mark)(m a:Nat)(out:List Mark)(u:aj),j≠[]->(∀x∈j,(0<=x.aC/\x.aC<=1000000000)/\0<=x.cg/\x.cg<=1000000)->out.length+j.length<=5->s.drop a=dE 44 (j.map nN)++u->a<=s.length->(∃t,u=41::t)->j.length<m->FB n m out ⟨s,a,left,true⟩ (λS U=>some (S,U))=some (out++j,⟨s,((a+(dE 44 (j.map nN)).length:Nat):Int),left,true⟩)
 |[],m,a,out,u,h0,D,H,E,I,J,h6=>absurd rfl h0
 |x::j,0,a,out,u,h0,D,H,E,I,J,h6=>by simp at h6
 |x::j,m+1,a,out,u,h0,D,H,E,I,J,h6=>by
  obtain⟨t,rfl⟩:=J;have hx:=D x (by simp);simp only[fD] at H h6;have A:a+(dE 44 ((x::j).map nN)).length+(41::t).length=s.length:=by
   have:=congrArg List.length E
   simp only[oN,dG] at this
   omega
  obtain⟨tl,M,C⟩:∃tl,dE 44 ((x::j).map nN)=itoa x.aC++58::(itoa x.cg++tl)/\(j=[]/\tl=[]\/j≠[]/\tl=44::dE 44 (j.map nN)):=by
   cases j with
   |nil=>exact⟨[],by simp[dE,nN],.inl ⟨rfl,rfl⟩⟩
   |cons y j=>exact⟨44::dE 44 ((y::j).map nN),by simp[dE,nN],.inr ⟨by simp,rfl⟩⟩
  have Y:(dE 44 ((x::j).map nN)).length=(itoa x.aC).length+1+((itoa x.cg).length+tl.length):=by rw[M];simp;omega
  have N:s.drop a=itoa x.aC++(58::(itoa x.cg++(tl++41::t))):=by rw[E,M];simp
  have P:s.drop (a+(itoa x.aC).length)=58::(itoa x.cg++(tl++41::t)):=by rw[<-uR,N];simp
  have Q:s.drop (a+(itoa x.aC).length+1)=itoa x.cg++(tl++41::t):=(drop_cons P).2.2;have e4:s.drop (a+(itoa x.aC).length+1+(itoa x.cg).length)=tl++41::t:=by rw[<-uR,Q];simp
  have Z:Iu (tl++41::t):=by
   rcases C with⟨_,rfl⟩|⟨_,rfl⟩
   ·exact Ql (by decide)
   ·exact Ql (by decide)
  rw[Y] at A⊢;simp only[fD] at A;rw[FB];dsimp only;rw[aF,show bE (au out) 5=true by rw[gx,aJ];exact fW (by omega),aF,abU (by omega) (by omega) N (Ql (by decide)) I F,ak];dsimp only;rw[aF,show(58:Int)=((58:UInt8).toNat:Int) from rfl,DR (by omega) P,ak];dsimp only;rw[abU (by omega) (by omega) Q Z (by omega) F,ak];dsimp only;rw[eL (by simp;omega) (by omega),ak,show(44:Int)=((44:UInt8).toNat:Int) from rfl];rcases C with⟨rfl,rfl⟩|⟨tQ,rfl⟩
  ·rw[Rw (by omega) (λt' e=>by rw[e4] at e;cases e),ak];dsimp only;simp only[cn,gE,aF,jZ,uQ]
   congr 4
   omega
  ·rw[DR (by omega) e4,ak];dsimp only;simp only[cn,dy,aH];simp only[fD] at A⊢;refine(agc R F j m (a+(itoa x.aC).length+1+(itoa x.cg).length+1) (out++[⟨x.aC,x.cg⟩]) (41::t) tQ (λy hy=>D y (by simp[hy])) (by simp;omega) ((drop_cons e4).2.2) (by omega) ⟨t,rfl⟩ (by omega)).trans ?_;rw[kD,CJ]
   congr 4
   omega
theorem aso{op:Nat}{a:Int}{rc:eu->Int->Option (ah×eu)}{r:eu}{k:Int->ah->eu->Option (ah×eu)}(h:3<=op/\op<=10)(e:2^41<=n):Jl n rc n a (gS jL op) 3 (ah.mk 0 0 [] [] []) r k=k a (ah.mk op 0 [] [] []) r:=by
 obtain⟨m,rfl⟩:∃m,n=m+9:=⟨n-9,by omega⟩;have:op=3\/op=4\/op=5\/op=6\/op=7\/op=8\/op=9\/op=10:=by omega
 rcases this with rfl|rfl|rfl|rfl|rfl|rfl|rfl|rfl<;>rfl
theorem ao3{op:Nat}(h:3<=op/\op<=10):∀c∈gS jL op,ml c=true:=by
 have:op=3\/op=4\/op=5\/op=6\/op=7\/op=8\/op=9\/op=10:=by omega
 rcases this with rfl|rfl|rfl|rfl|rfl|rfl|rfl|rfl<;>decide
def S6(s:aj):Prop:=s=[]\/∃c t,s=c::t/\ml c=false/\c≠40
theorem S6.w{s:aj}(h:S6 s):Iu s:=by
 rcases h with rfl|⟨c,t,rfl,h,_⟩
 ·exact .inl rfl
 ·exact .inr ⟨c,t,rfl,h⟩
def lA(d:Nat)(a:List ah)(i:Nat):aj:=if i<a.length then(if 0<i then[44] else[])++dE 44 ((a.drop i).map (ez d)) else[]
theorem al9{d:Nat}{a:List ah}{i:Nat}(h:i<a.length):dE 44 ((a.drop i).map (ez d))=ez d a[i]++lA d a (i+1):=by
 rw[lx h,mM];unfold lA
 by_cases c:i+1<a.length
 ·rw[aD c,aD (by omega),lx c,mM];rfl
 ·rw[aE c,aaI (by omega)];simp[dE]
theorem afj:∀(d n:Nat)(r:ah)(j:Int)(s:aj)(a:Nat)(left:Int)(rest:aj),2^41+d<=n->d<=6->nM d r->s.length<2^20->s.drop a=ez d r++rest->a<=s.length->S6 rest->j=7-d->(ju d r:Int)<=left->left<=30->tV n ⟨s,a,left,true⟩ j=some (r,⟨s,((a+(ez d r).length:Nat):Int),left-ju d r,true⟩)
 |0,n,r,j,s,a,left,rest,hn,hd,h,hs,C,ha,Q,tG,hl,jT=>absurd h (by simp[nM])
 |d+1,n,r,j,s,a,left,rest,hn,hd,h,hs,C,ha,Q,tG,hl,jT=>by
  obtain⟨n,rfl⟩:∃m,n=m+1:=⟨n-1,by omega⟩;obtain⟨u,hk⟩:=h;have wo:=(A2 r.op).2 (by have:=u.k;omega);have k4:=(A2 r.op).1;have kl:r.kids.length<=4:=by have:=u.k;omega
  have a5:1<=ju (d+1) r:=by rw[ju];omega
  have e1:aL .i64 left 1=left-1:=nq (by omega) (by omega) (by omega) (by omega);have R:a+(ez (d+1) r).length+rest.length=s.length:=by
   have:=congrArg List.length C
   simp only[oN,dG] at this
   omega
  rw[tV];dsimp only;rw[e1,xB (show¬ left-1<0 by omega),aH,xB (show¬ 6<j by omega),aH];simp only[cn,dy,aH]
  by_cases F:r.op=1
  ·have jV:=u.n1 F;have M:ez (d+1) r=itoa r.num:=by rw[ez,aD F]
   have S:r.kids=[]:=qg.1 (by have:=u.k;rw[F,show sU 1=0 from rfl] at this;omega);have H:ju (d+1) r=1:=by rw[ju,S];rfl
   rw[M] at C R⊢;rw[Rv (by omega) C (λc hc=>afh (A0 c hc)) Q.w ha (by omega),ak];dsimp only;have e2:s.drop (a+(itoa r.num).length)=rest:=by rw[<-uR,C];simp
   rw[show(40:Int)=((40:UInt8).toNat:Int) from rfl,Rw (by omega) (λt e=>by
    rw[e2] at e
    rcases Q with rfl|⟨c,t',rfl,_,I⟩
    ·cases e
    ·injection e with e _;exact I e),ak];dsimp only;simp only[gE,aF];rw[RS (by omega),ak,afi jV];dsimp only;rw[aF,H];have:ah.mk 1 r.num [] [] []=r:=by
    have U:=u.name (by omega)
    have E:=u.uP (by omega)
    cases r
    simp only[ah.op,ah.num,ah.name,ah.kids,ah.marks] at*
    subst F U E S
    rfl
   rw[this];rfl
  by_cases N:r.op=2
  ·have EO:=u.n2 N;have M:ez (d+1) r=r.name:=by rw[ez,aE F,aD N]
   have S:r.kids=[]:=qg.1 (by have:=u.k;rw[N,show sU 2=0 from rfl] at this;omega);have H:ju (d+1) r=1:=by rw[ju,S];rfl
   rw[M] at C R⊢;rw[Rv (by omega) C (λc hc=>aqF ((mQ EO).1 c hc)) Q.w ha (by omega),ak];dsimp only;have e2:s.drop (a+r.name.length)=rest:=by rw[<-uR,C];simp
   rw[show(40:Int)=((40:UInt8).toNat:Int) from rfl,Rw (by omega) (λt e=>by
    rw[e2] at e
    rcases Q with rfl|⟨c,t',rfl,_,I⟩
    ·cases e
    ·injection e with e _;exact I e),ak];dsimp only;simp only[gE,aF];rw[RS (by omega),ak,ao2 EO,aH,H];have:ah.mk 2 0 r.name [] []=r:=by
    have U:=u.num (by omega)
    have E:=u.uP (by omega)
    cases r
    simp only[ah.op,ah.num,ah.name,ah.kids,ah.marks] at*
    subst N U E S
    rfl
   rw[this];rfl
  obtain⟨op,It⟩:=gD (show 0<=r.op by omega);have Y:3<=op/\op<=10:=by omega
  have M:ez (d+1) r=gS jL op++[40]++dE 44 (r.kids.map (ez d))++jM r.marks++[41]:=by
   rw[ez,aE F,aE N,It,eC]
  have a6:1<=r.kids.length:=by
   have eY:=u.k
   have:1<=sU r.op:=by
    rw[It]
    have:op=3\/op=4\/op=5\/op=6\/op=7\/op=8\/op=9\/op=10:=by omega
    rcases this with rfl|rfl|rfl|rfl|rfl|rfl|rfl|rfl<;>decide
   omega
  have zR:lA d r.kids 0=dE 44 (r.kids.map (ez d)):=by
   unfold lA
   rw[aD (by omega),aE (by omega)]
   rfl
  have x:(ez (d+1) r).length=(gS jL op).length+1+(lA d r.kids 0).length+(jM r.marks).length+1:=by
   rw[M,zR];simp only[dG,fD,jZ]
  have f1:s.drop a=gS jL op++(40::(lA d r.kids 0++(jM r.marks++41::rest))):=by
   rw[C,M,zR];simp only[kD,sE,iw]
  have f2:s.drop (a+(gS jL op).length)=40::(lA d r.kids 0++(jM r.marks++41::rest)):=by rw[<-uR,f1];simp
  have f3:=(drop_cons f2).2.2;rw[Rv (by omega) f1 (ao3 Y) (Ql (by decide)) ha (by omega),ak];dsimp only;rw[show(40:Int)=((40:UInt8).toNat:Int) from rfl,DR (by omega) f2,ak];dsimp only;simp only[dy,aH];refine(aso Y (by omega)).trans ?_
  try dsimp only
  have ap:∀(K:ah->eu->Option (ah×eu)),∀m i b:Nat,∀lf:Int,i<=r.kids.length->r.kids.length<m+i->s.drop b=lA d r.kids i++(jM r.marks++41::rest)->b<=s.length->lf=left-1-(((r.kids.take i).map (ju d)).sum:Nat)->yB n (tV n) m j i (ah.mk op 0 [] (r.kids.take i) []) ⟨s,b,lf,true⟩ K=K (ah.mk op 0 [] r.kids []) ⟨s,((b+(lA d r.kids i).length:Nat):Int),left-ju (d+1) r,true⟩:=by
   intro K m
   induction m with
   |zero=>intro i b lf U E;omega
   |succ m ih=>
    intro i b lf U E h3 h4 h5
    have Z:A8 n (ah.op (ah.mk op 0 [] (r.kids.take i) []))=some (r.kids.length:Int):=by
     show A8 n (op:Int)=_
     rw[Xo,<-It,u.k]
    by_cases hi:i<r.kids.length
    ·have J:av (i:Int) (r.kids.length:Int)=true:=BL (by omega);have a7:((r.kids.map (ju d)).sum:Nat)=((r.kids.take i).map (ju d)).sum+ju d r.kids[i]+((r.kids.drop (i+1)).map (ju d)).sum:=by
      conv=>lhs;rw[<-akT i r.kids,lx hi]
      rw[oO,mM,ak1,ak2]
      omega
     have a8:ju (d+1) r=1+(r.kids.map (ju d)).sum:=rfl;have P:(lA d r.kids i)=(if 0<i then[44] else[])++(ez d r.kids[i]++lA d r.kids (i+1)):=by
      rw[<-al9 hi]
      unfold lA
      rw[aD hi]
     have xM:S6 (lA d r.kids (i+1)++(jM r.marks++41::rest)):=by
      unfold lA
      split
      ·rw[aD (by omega)];exact .inr ⟨44,_,rfl,by decide,by decide⟩
      ·rw[iw];unfold jM;split
       ·exact .inr ⟨41,_,rfl,by decide,by decide⟩
       ·exact .inr ⟨59,_,rfl,by decide,by decide⟩
     have aa:∀y:Nat,y<=s.length->s.drop y=ez d r.kids[i]++(lA d r.kids (i+1)++(jM r.marks++41::rest))->tV n ⟨s,y,lf,true⟩ (j+1)=some (r.kids[i],⟨s,((y+(ez d r.kids[i]).length:Nat):Int),lf-ju d r.kids[i],true⟩):=λy dS kO=>
      afj d n r.kids[i] (j+1) s y lf _ (by omega) (by omega) (hk _ (bI hi)) hs kO dS xM (by omega) (by omega) (by omega)
     have Bw:∀y:Nat,s.drop y=ez d r.kids[i]++(lA d r.kids (i+1)++(jM r.marks++41::rest))->y<=s.length->y+(ez d r.kids[i]).length<=s.length/\s.drop (y+(ez d r.kids[i]).length)=lA d r.kids (i+1)++(jM r.marks++41::rest):=λy kO dS=>by
      have:=congrArg List.length kO
      simp only[oN,dG] at this
      refine⟨by omega,?_⟩
      rw[<-uR,kO];simp
     have ab:lf-ju d r.kids[i]=left-1-(((r.kids.take (i+1)).map (ju d)).sum:Nat):=by
      rw[oe hi,oO,ak1,mM,wP,ak2,List.sum_nil]
      omega
     have aM:aq .i64 j 1=j+1:=js (by omega) (by omega) (by omega) (by omega);have ad:∀k:ah,aN 80 (r.kids.take i) [k]=some (r.kids.take i++[k]):=λk=>eL (by simp;omega) (by omega);have A:r.kids.take i++[r.kids[i]]=r.kids.take (i+1):=(oe hi).symm;rw[yB,Z,ak,J,aF];dsimp only;rw[aF,aM,bD (by omega)]
     by_cases h0:i=0
     ·have e0:ai (i:Int) 0=true:=by rw[cN];exact fW (by omega)
      rw[aE (by omega),iw] at P;have D:=h3;rw[P,kD] at D;obtain⟨g1,g2⟩:=Bw b D h4;rw[e0,aF,aa b h4 D,ak];dsimp only;rw[iz];show ae (aN 80 (r.kids.take i) [r.kids[i]]) _=_;rw[ad,ak,A];show yB n (tV n) m j ((i+1:Nat):Int) (ah.mk op 0 [] (r.kids.take (i+1)) []) _ K=_;rw[ih (i+1) _ _ (by omega) (by omega) g2 g1 ab]
      congr 2
      rw[P,dG]
      congr 1;omega
     ·have e0:ai (i:Int) 0=false:=by rw[cN];exact gu (by omega)
      rw[aD (by omega)] at P;have D:=h3;rw[P] at D;simp only[kD,sE,iw] at D;have am:=(drop_cons D).2.2;have a9:=(drop_cons D).1;obtain⟨g1,g2⟩:=Bw (b+1) am (by omega);rw[e0,aH,show(44:Int)=((44:UInt8).toNat:Int) from rfl,DR (by omega) D,ak];dsimp only;rw[aa (b+1) (by omega) am,ak];dsimp only;rw[iz];show ae (aN 80 (r.kids.take i) [r.kids[i]]) _=_;rw[ad,ak,A];show yB n (tV n) m j ((i+1:Nat):Int) (ah.mk op 0 [] (r.kids.take (i+1)) []) _ K=_;rw[ih (i+1) _ _ (by omega) (by omega) g2 g1 ab]
      congr 2
      rw[P];simp only[dG,fD,jZ]
      congr 1;omega
    ·have:i=r.kids.length:=by omega
     subst this;have J:av (r.kids.length:Int) (r.kids.length:Int)=false:=xB (by omega);have a0:lA d r.kids r.kids.length=[]:=by unfold lA;rw[aE (by omega)]
     rw[yB,Z,ak,J,aH,wQ,a0];rw[wQ] at h5;have:lf=left-ju (d+1) r:=by rw[ju];omega
     rw[this];rfl
  have a1:a+(gS jL op).length+1<=s.length:=by have:=(drop_cons f2).1;omega
  have E:=λK=>ap K n 0 (a+(gS jL op).length+1) (left-1) (by omega) (by omega) f3 a1 (by simp);rw[Fk] at E;refine(E _).trans ?_;dsimp only;rw[aF];have f4:s.drop (a+(gS jL op).length+1+(lA d r.kids 0).length)=jM r.marks++41::rest:=by rw[<-uR,f3];simp
  have ao:∀ms,ms=r.marks->ah.mk (ah.op (ah.mk op 0 [] r.kids [])) (ah.num (ah.mk op 0 [] r.kids [])) (ah.name (ah.mk op 0 [] r.kids [])) (ah.kids (ah.mk op 0 [] r.kids [])) ms=r:=λms tQ=>by
   have g1:=u.num F
   have g2:=u.name N
   subst tQ
   rw[<-It]
   show ah.mk r.op 0 [] r.kids r.marks=r
   rw[<-g1,<-g2,iz]
  by_cases hm:r.marks=[]
  ·have Of:jM r.marks=[]:=by unfold jM;rw[aD hm]
   rw[Of,iw] at f4;have Io:=ao [] hm.symm;rw[Of] at x;rw[show(59:Int)=((59:UInt8).toNat:Int) from rfl,Rw (by have:=(drop_cons f4).1;omega) (λt e=>by rw[f4] at e;cases e),ak];dsimp only;rw[aH,aF,show(41:Int)=((41:UInt8).toNat:Int) from rfl,DR (by omega) f4,ak];dsimp only;rw[show ah.marks (ah.mk op 0 [] r.kids [])=[] from rfl,Io];rw[x,jZ]
   congr 4
   omega
  ·have a2:r.op=10:=by
     by_cases c:r.op=10
     ·exact c
     ·exact absurd (u.uP c) hm
   obtain⟨Fg,vX,bb⟩:=Ke (u.n3 a2);have Of:jM r.marks=59::dE 44 (r.marks.map nN):=by unfold jM;rw[aE hm];rfl
   rw[Of,sE] at f4;have f5:=(drop_cons f4).2.2;have f6:s.drop (a+(gS jL op).length+1+(lA d r.kids 0).length+1+(dE 44 (r.marks.map nN)).length)=41::rest:=by rw[<-uR,f5];simp
   have Io:=ao r.marks rfl;have a3:a+(gS jL op).length+1+(lA d r.kids 0).length+1<=s.length:=by have:=(drop_cons f4).1;omega
   rw[Of] at x;rw[show(59:Int)=((59:UInt8).toNat:Int) from rfl,DR (by omega) f4,ak];dsimp only;rw[aF];have hM:=agc (n:=n) (left:=left-ju (d+1) r) (s:=s) (by omega) (by omega) r.marks n _ [] (41::rest) hm Fg (by simp;omega) f5 a3 ⟨rest,rfl⟩ (by omega);have a4:OB n ⟨s,((a+(gS jL op).length+1+(lA d r.kids 0).length+1:Nat):Int),left-ju (d+1) r,true⟩=some (r.marks,⟨s,((a+(gS jL op).length+1+(lA d r.kids 0).length+1+(dE 44 (r.marks.map nN)).length:Nat):Int),left-ju (d+1) r,true⟩):=by
    unfold OB
    exact hM
   rw[a4,ak];dsimp only;rw[aF,show(41:Int)=((41:UInt8).toNat:Int) from rfl,DR (by omega) f6,ak];dsimp only;rw[Io]
   congr 3
   rw[x,fD]
   congr 1;omega
end
end
section
section
variable{n:Nat}
structure uq(n:Nat)(r:ah):Prop where
 p:nM 6 r
 s:ju 6 r<=30
 w:(ez 6 r).length<=300
 ok:u6 n r=some true
theorem nM.z:∀(d:Nat)(r:ah),nM d r->lz d r
 |0,r,h=>h
 |d+1,r,⟨h,a⟩=>by
  have k1:=h.k;have k2:=(A2 r.op).1;have m:=(U2 h).2;refine⟨by omega,by omega,?_,λk e=>nM.z d k (a k e)⟩
  by_cases c:r.op=2
  ·have:=(mQ (h.n2 c)).2.2;omega
  ·rw[h.name c];simp
theorem acJ{z:Nat}{r:ah}(hz:lz z r)(e:2^41+6<=n):Ok (u6 n r) λb=>b=true->nM 6 r/\ju 6 r<=30/\(ez 6 r).length<=300:=by
 unfold u6;rw[iz];refine aW (ad0 6 z n r 1 30 (by omega) hz (by omega) (by omega) (by omega)) λx hx=>pM (λh0=>?_) λh0=>az (λh=>by cases h);obtain⟨a,j⟩:=hx.2.2 h0;rw[Qk 6 n r (by omega) (by omega) a,ak];refine az λh=>⟨a,by omega,?_⟩;rw[gx,bH,fN] at h;omega
theorem uq.of{z:Nat}{r:ah}(hz:lz z r)(h:u6 n r=some true)(j:2^41+6<=n):uq n r:=by
 obtain⟨b,e,u⟩:=acJ hz j;rw[h] at e;injection e with e;obtain⟨a,c,d⟩:=u e.symm;exact⟨a,c,d,h⟩
theorem uq.write{r:ah}(h:uq n r)(a:2^41+6<=n):Gm n r=some (ez 6 r):=by
 unfold Gm;rw[iz,h.ok,ak,cn,dy,aH,Qk 6 n r (by omega) (by omega) h.p,ak]
theorem ang{d:Nat}{r:ah}(h:nM (d+1) r):ez (d+1) r≠[]:=by
 unfold ez;split
 ·intro e;have:=congrArg List.length e;rename_i c
  by_cases h0:0<=r.num
  ·obtain⟨u,a⟩:=gD h0;rw[a,pF] at e;exact y7 u e
  ·obtain⟨u,a⟩:∃u:Nat,r.num=-(u:Int):=⟨r.num.natAbs,by omega⟩;rw[a,itoa_neg (by omega)] at e;cases e
 ·split
  ·rename_i c;have:=(mQ (h.1.n2 c)).2.1;intro e;rw[e] at this;simp at this
  ·simp
theorem uq.read{r:ah}(h:uq n r)(e:2^41+6<=n):O7 n (ez 6 r)=some (r,true):=by
 have j:=h.w;have a:=afj 6 n r 1 (ez 6 r) 0 30 [] (by omega) (by omega) h.p (by omega) (by simp) (by omega) (.inl rfl) (by omega) (by have:=h.s;omega) (by omega);rw[iu] at a;unfold O7;rw[show bE (de (ez 6 r)) 300=true by rw[gx,fN];exact fW (by omega)];refine(congrArg (λo=>ae o _) a).trans ?_;rw[ak];dsimp only;rw[cn,dy,aH,fN,cN,fW rfl,cn,dy,aH,mU,gu (ang h.p),aH,iz,h.write e,ak,mU,fW rfl,cn,dy,aH]
def ns(a:List aj):Nat->ah->Prop|0,_=>False|d+1,r=>(r.op=2->r.name∈a)/\∀k∈r.kids,ns a d k
theorem aqG{a:List aj}{s:aj}(J:a.length<=10000000)(M:2^41<=n):Ok (Q4 n a s) λl=>(∀x∈l,x∈a\/x=s)/\l.length<=a.length+1:=by
 have e:∀(Q:List aj->Prop)(K:List aj->aj->Int->Option (List aj)),(∀j:Nat,j<=a.length->Ok (K a s j) Q)->∀m i:Nat,i<=a.length->a.length<m+i->Ok (JU n m a s i K) Q:=by
  intro Q K y m
  induction m with
  |zero=>intro i u A;omega
  |succ m C=>
   intro i u A
   rw[JU]
   refine cw (λhi=>?_) λhi=>y i u
   rw[aJ] at hi
   refine iV (by omega) (by omega) λx _ _=>cc (λ_=>?_) λ_=>y i u
   rw[bD (by omega)]
   exact C (i+1) (by omega) (by omega)
 unfold Q4;refine e _ _ (λj N=>?_) n 0 (by omega) (by omega);have ins:Ok (ae (dF a 0 (j:Int)) λD=>ae (aN 16 [] D) λE=>ae (aN 16 E [s]) λF=>ae (dF a (j:Int) (au a)) λH=>ae (aN 16 F H) λI=>some I) λl=>(∀x∈l,x∈a\/x=s)/\l.length<=a.length+1:=by
  refine BG (by omega) (by omega) (by omega) (dI (by simp;omega) (by omega) (dI (by simp;omega) (by omega) (BG (by omega) (by rw[aJ];omega) (by rw[aJ];omega) (dI (by simp[aJ];omega) (by omega) (az ⟨λx hx=>?_,?_⟩)))))
  ·simp only[iw,cU,fe] at hx;rcases hx with(hx|hx)|hx
   ·exact .inl (Ox (yA hx))
   ·exact .inr hx
   ·exact .inl (Ox (yA hx))
  ·simp[aJ];omega
 refine cw (λhi=>?_) λhi=>ins;rw[aJ] at hi;exact iV (by omega) (by omega) λx _ _=>qz (λ_=>az ⟨λx hx=>.inl hx,by omega⟩) λ_=>ins
theorem acK{names:List aj}:∀(d n:Nat)(r:ah)(out:List aj),2^41+d<=n->d<=6->ns names d r->lz d r->(∀x∈out,x∈names)->out.length+11^d<=10000000->Ok (AV n r out) λl=>(∀x∈l,x∈names)/\l.length<=out.length+11^d
 |0,n,r,out,F,H,I,hz,u,J=>absurd I (by simp[ns])
 |d+1,n,r,out,F,H,⟨M,N⟩,⟨P,Q,R,A⟩,u,J=>by
  obtain⟨n,rfl⟩:∃m,n=m+1:=⟨n-1,by omega⟩;have hp:(11:Nat)^(d+1)=11*11^d:=by rw[yy];omega
  have S:1<=11^d:=aaV _ _ (by omega);have e:∀(K:List aj->Option (List aj))(b:Nat),(∀l,K l=some l)->∀m i:Nat,∀a:List aj,i<=r.kids.length->r.kids.length<m+i->(∀x∈a,x∈names)->a.length<=out.length+1+11^d*i->Ok (F3 n (AV n) m a i r K) λl=>(∀x∈l,x∈names)/\l.length<=out.length+11^(d+1):=by
   intro K b U m
   induction m with
   |zero=>intro i a Y Z;omega
   |succ m ih=>
    intro i a Y Z D h4
    rw[F3]
    refine cw (λhi=>?_) λhi=>?_
    ·rw[aJ] at hi;have C:i<r.kids.length:=by omega
     have E:11^d*(i+1)<=11^d*10:=Jk _ (by omega);rw[aaT] at E;rw[bn C,ak,iz,iz,bD (by omega)];refine aW (acK d n r.kids[i] a (by omega) (by omega) (N _ (bI C)) (A _ (bI C)) D (by omega)) λy j=>ih (i+1) y (by omega) (by omega) j.1 (by have:=j.2;rw[aaT];omega)
    ·rw[U];have E:11^d*i<=11^d*10:=Jk _ (by omega);exact az ⟨D,by omega⟩
  rw[AV,iz];refine ok_eq (λc=>?_) λc=>?_
  ·refine aW (aqG (by omega) (by omega)) λx hx=>e _ 0 (λl=>rfl) n 0 x (by omega) (by omega) (λy j=>?_) (by have:=hx.2;omega);rcases hx.1 y j with h|h
   ·exact u y h
   ·rw[h];exact M c
  ·exact e _ 0 (λl=>rfl) n 0 out (by omega) (by omega) u (by omega)
def jB:List aj:=[[108,101,103,115],[115,101,97,116,115],[116,105,109,101]]
structure zn(n:Nat)(f:eD):Prop where
 nm:gw f.name=true
 cls:0<=f.cls/\f.cls<=2
 r:∃r,f.nw=ez 6 r/\uq n r/\KV n f=some (r,true)
theorem ao4{f:eD}{d:Nat}{r:ah}(a:gw f.name=true)(y:0<=f.cls/\f.cls<=2)(A:f.nw=ez 6 r)(j:uq n r)(u:d<=6)(C:ns jB d r)(hz:lz d r)(D:2^41+6<=n):zn n f:=by
 refine⟨a,y,r,A,j,?_⟩;obtain⟨l,el,E,F⟩:=acK (names:=jB) d n r [] (by omega) u C hz (by simp) (by
  have:11^d<=11^6:=As (by omega) u
  simp;omega);have H:l.length<=10000000:=by
  have:11^d<=11^6:=As (by omega) u
  simp at F;omega
 have P:=(mQ a).2.2;unfold KV;rw[A,j.read D,ak,cn,dy,aH,u5 (by omega) (by omega),ak,a,cn,dy,aH,vf,ak,fW y,cn,dy,aH];simp only[iz];have I:OS n r=some l:=by
  unfold OS
  rw[iz,j.ok,ak,cn,dy,aH,el,ak]
 rw[I,ak];have x:∀K:ah->Option (ah×Bool),∀m i:Nat,i<=l.length->l.length<m+i->Dg n m l i r K=K r:=by
  intro K m
  induction m with
  |zero=>intro i J M;omega
  |succ m N=>
   intro i J M
   rw[Dg]
   by_cases hi:i<l.length
   ·rw[show av (i:Int) (au l)=true by rw[bp,aJ];exact fW (by omega),aF,bn hi];simp only[ak,iz];rw[bD (by omega),N (i+1) (by omega) (by omega)];have:=E _ (bI hi);simp only[jB,cO,oP,oQ] at this;rcases this with e|e|e<;>rw[e]<;>rfl
   ·rw[show av (i:Int) (au l)=false by rw[bp,aJ];exact gu (by omega),aH,iz]
 exact x _ n 0 (by omega) (by omega)
end
end
section
section
variable{n:Nat}
theorem ad2{M:Int}(D:M<=999999999000){k:List Mark->Rd->Option (List Mark×Rd)}{Q:List Mark×Rd->Prop}:∀(m c:Nat)(out:List Mark)(r:Rd),1<=out.length->c+out.length<=4->c<m->bU (M+2*out.length) r->(∀j A,1<=j.length->j.length<=4->bU (M+8) A->Ok (k j A) Q)->Ok (Jr n m out c r k) Q
 |0,c,out,r,C,E,F,u,K=>by omega
 |m+1,c,out,r,C,E,F,u,K=>by
  rw[Jr];refine cw (λH=>?_) λH=>K out r C (by omega) (u.mono (by omega));have e:aL .i64 (au out) 1=((out.length-1:Nat):Int):=by rw[aJ,iA];omega
  rw[e];refine iV (by omega) (by omega) λa _ _=>iV (by omega) (by omega) λb _ _=>?_;refine cJ u (by omega) (by omega) λx P R S I=>cJ I (by omega) (by omega) λy J U Y N=>?_;refine dI (by simp;omega) (by omega) ?_;rw[show aL .i64 (c:Int) 1=((c-1:Nat):Int) by rw[iA];omega];exact ad2 D m (c-1) _ J (by simp) (by simp;omega) (by omega) (N.mono (by simp;omega)) K
theorem ama{N:Int}{r:Rd}(u:bU N r)(H:N<=999999990000)(I:2^41<=n):Ok (O5 n r) λx=>x.1.length<=10/\bU (N+10) x.2:=by
 unfold O5;refine cJ u (by omega) (by omega) λx J P Q A=>cJ A (by omega) (by omega) λy C D R E=>?_;obtain⟨y,rfl⟩:=gD D;refine ad2 (n:=n) (M:=N) (by omega) n y _ C (by simp) (by simp;omega) (by omega) (E.mono (by simp;omega)) λout S U Y F=>?_;refine cJ F (by omega) (by omega) λz Z z0 z1 j=>ok_eq (λ_=>?_) λ_=>az ⟨by show out.length<=10;omega,j.mono (by omega)⟩;have e:aL .i64 (au out) 1=((out.length-1:Nat):Int):=by rw[aJ,iA];omega
 rw[e];exact iV (by omega) (by omega) λa _ _=>iV (by omega) (by omega) λb _ _=>az ⟨by show(aX _ _ _).length<=10;rw[mP];omega,j.mono (by omega)⟩
theorem amb{x:aj}(h:x∈jB):x.length<=1000:=by
 simp only[jB,cO,oP,oQ] at h;rcases h with rfl|rfl|rfl<;>simp
theorem atF{v:Int}{d:Nat}:lz (d+1) (ah.mk 1 v [] [] [])/\ns jB (d+1) (ah.mk 1 v [] [] []):=⟨⟨by show(0:Nat)<=10;omega,by show(0:Nat)<=10;omega,by show(0:Nat)<=1000;omega,λk a=>by cases a⟩,(λh=>absurd (show(1:Int)=2 from h) (by omega)),λk a=>by cases a⟩
theorem Yw{s:aj}{d:Nat}(h:s∈jB):lz (d+1) (ah.mk 2 0 s [] [])/\ns jB (d+1) (ah.mk 2 0 s [] []):=⟨⟨by show(0:Nat)<=10;omega,by show(0:Nat)<=10;omega,amb h,λk a=>by cases a⟩,λ_=>h,λk a=>by cases a⟩
theorem afk{e M B:Int}{d f:Nat}(y:0<=B/\B<=1000000)(F:M<=999900000000){rc:Rd->Int->List aj->Option (ah×Rd)}(D:∀(r:Rd)(N:Int),N<=M+B*3->bU N r->Ok (rc r (aq .i64 e 1) jB) λx=>(lz d x.1/\ns jB d x.1)/\bU (N+B) x.2){op:Int}(H:op≠2){k:ah->Rd->Option (ah×Rd)}{Q:ah×Rd->Prop}:∀(m c:Nat)(a:List ah)(r:Rd),c+a.length<=4->c<m->(∀k∈a,lz d k/\ns jB d k)->bU (M+B*a.length) r->(∀j E,j.length<=4->(∀k∈j,lz d k/\ns jB d k)->bU (M+B*4) E->Ok (k (ah.mk op 0 [] j []) E) Q)->Ok (JA f rc m e jB c (ah.mk op 0 [] a []) r k) Q
 |0,c,a,r,I,J,A,C,K=>by omega
 |m+1,c,a,r,I,J,A,C,K=>by
  have S:B*a.length<=B*4:=aaU (by omega) y.1;rw[JA];refine cw (λP=>?_) λP=>?_
  ·have R:B*a.length<=B*3:=aaU (by omega) y.1;refine aW (D r (M+B*a.length) (by omega) C) λx hx=>?_;rw[iz];show Ok (ae (aN 80 a [x.1]) _) Q;refine dI (by simp;omega) (by omega) ?_;rw[show aL .i64 (c:Int) 1=((c-1:Nat):Int) by rw[iA];omega];refine afk y F D H m (c-1) (a++[x.1]) x.2 (by simp;omega) (by omega) (λk u=>?_) (hx.2.mono (by rw[dG,yx];push_cast;rw[akR];omega)) K;rcases cU.1 u with u|u
   ·exact A k u
   ·rw[fe] at u;rw[u];exact hx.1
  ·exact K a r (by omega) A (C.mono (by omega))
theorem agd{e:Nat}:∀(n:Nat)(r:Rd)(N:Int),N<=999999000000->bU N r->∀Q:ah×Rd->Prop,(∀x F,lz (e+1) x/\ns jB (e+1) x->bU (N+10) F->Q (x,F))->Ok (ae (aI n r 2) λj=>
 cond (ai j.1 0)
  (ae (oR n j.2 jB) λH=>
  some (ah.mk 2 0 H.1 [] [],H.2))
  (ae (aI n j.2 40) λy=>
  ae (aI n y.2 9) λA=>
  ae (aI n A.2 3) λC=>
  ae (aI n C.2 5) λD=>
  ae (af [y.1,aL .i64 A.1 4,100,1000000000,C.1] D.1) λY=>
  ae (af [y.1,aL .i64 A.1 4,100,1000000000,C.1] D.1) λJ=>
  some (ah.mk 1 J [] [] [],D.2))) Q:=by
 intro n r N Z M Q K;refine cJ M (by omega) (by omega) λa r1 _ _ I=>ok_eq (λ_=>?_) λ_=>?_
 ·exact Ir I (by omega) (by decide) λx P hx E=>az (K _ _ (Yw hx) (E.mono (by omega)))
 ·refine cJ I (by omega) (by omega) λb P _ _ E=>cJ E (by omega) (by omega) λc r3 _ _ R=>cJ R (by omega) (by omega) λd r4 _ _ S=>cJ S (by omega) (by omega) λf r5 f0 f1 U=>?_;dsimp only;exact iV f0 (by simp;omega) λu _ _=>iV f0 (by simp;omega) λv _ _=>az (K _ _ atF (U.mono (by omega)))
theorem anh:∀(e n:Nat)(r:Rd)(j N:Int),2^41+e<=n->e<=4->j=5-e->N+((30*5^e:Nat):Int)<=999900000000->bU N r->Ok (Dz n r j jB) λx=>(lz (e+1) x.1/\ns jB (e+1) x.1)/\bU (N+((30*5^e:Nat):Int)) x.2:=by
 intro e;induction e with
 |zero=>
  intro n r j N I J P Q u;obtain⟨n,rfl⟩:∃m,n=m+1:=⟨n-1,by omega⟩;rw[Dz];refine pM (λ_=>?_) λh=>by omega
  exact agd n r N (by omega) u _ λx y A C=>⟨A,C.mono (by omega)⟩
 |succ e R=>
  intro n r j N I J P Q u;obtain⟨n,rfl⟩:∃m,n=m+1:=⟨n-1,by omega⟩;have hp:(5:Nat)^(e+1)=5*5^e:=by rw[yy];omega
  have tJ:1<=5^e:=aaV _ _ (by omega);have S:5^e<=5^4:=As (by omega) (by omega);rw[Dz];refine pM (λh=>by omega) λ_=>?_;refine cJ u (by omega) (by omega) λa U _ _ F=>ok_eq (λ_=>?_) λ_=>?_
  ·exact agd n U (N+1) (by omega) F _ λx y A C=>⟨A,C.mono (by omega)⟩
  ·refine cJ F (by omega) (by omega) λb Y b0 b1 Z=>?_;dsimp only;rw[js (a:=3) (b:=b) (by omega) (by omega) (by omega) (by omega),Xo,ak];obtain⟨c,hc⟩:∃c:Nat,sU (3+b)=c/\c<=4:=by
    have:b=0\/b=1\/b=2\/b=3\/b=4\/b=5\/b=6\/b=7:=by omega
    rcases this with rfl|rfl|rfl|rfl|rfl|rfl|rfl|rfl<;>exact⟨_,rfl,by decide⟩
   rw[hc.1];refine afk (op:=3+b) (M:=N+2) (B:=((30*5^e:Nat):Int)) (d:=e+1) ⟨by omega,by omega⟩ (by omega) (λy N' aa iN=>?_) (by omega) n c [] Y (by simp;omega) (by omega) (by simp) (Z.mono (by simp;omega)) λD r3 k1 k2 H=>?_
   ·rw[js (by omega) (by omega) (by omega) (by omega)];exact R n y (j+1) N' (by omega) (by omega) (by omega) (by omega) iN
   ·have g:lz (e+1+1) (ah.mk (3+b) 0 [] D [])/\ns jB (e+1+1) (ah.mk (3+b) 0 [] D []):=⟨⟨by show D.length<=10;omega,by show(0:Nat)<=10;omega,by show(0:Nat)<=1000;omega,λk E=>(k2 k E).1⟩,(λh=>absurd (show 3+b=2 from h) (by omega)),λk E=>(k2 k E).2⟩;refine ok_eq (λ_=>?_) λ_=>az ⟨g,H.mono (by omega)⟩;exact aW (ama H (by omega) (by omega)) λx hx=>az ⟨⟨⟨g.1.1,hx.1,g.1.2.2.1,g.1.2.2.2⟩,g.2⟩,hx.2.mono (by omega)⟩
end
end
section
section
variable{n:Nat}
def Em(n:Nat)(r:ah):Prop:=uq n r/\∃d,d<=6/\ns jB d r/\lz d r
theorem agf{d:Nat}{r:ah}(a:d<=6)(e:ns jB d r)(hz:lz d r)(h:∀m,u6 (m+1000) r=some true)(j:2^41+6<=n):Em n r:=by
 refine⟨uq.of hz ?_ j,d,a,e,hz⟩;obtain⟨m,rfl⟩:∃m,n=m+1000:=⟨n-1000,by omega⟩;exact h m
abbrev Yx:aj:=[108,101,103,115]
abbrev asp:aj:=[115,101,97,116,115]
abbrev agV:aj:=[116,105,109,101]
theorem atG(a:2^41+6<=n):Em n (ah.mk 2 0 Yx [] []):=agf (d:=1) (by omega) (Yw (by decide)).2 (Yw (by decide)).1 (λm=>rfl) a
theorem abV{N:Int}{r:Rd}(D:bU N r)(S:N<=999000000000)(U:2^42<=n):Ok (JT n r jB) λx=>Em n x.1/\bU (N+100000) x.2:=by
 have j:∀(K:List aj->Rd->Option (ah×Rd)),(∀u,bU (N+80000) u->Ok (K jB u) λx=>Em n x.1/\bU (N+100000) x.2)->∀m i:Nat,∀r,i<=4->4<m+i->bU (N+20000*i) r->Ok (Js n m jB i r K) λx=>Em n x.1/\bU (N+100000) x.2:=by
  intro K E m
  induction m with
  |zero=>intro i r F H;omega
  |succ m I=>
   intro i r F H A
   rw[Js]
   refine cw (λhi=>?_) λhi=>E r (A.mono (by omega))
   refine cJ A (by omega) (by omega) λx J M Y P=>?_
   obtain⟨x,rfl⟩:=gD M
   dsimp only
   rw[js (a:=1) (by omega) (by omega) (by omega) (by omega)]
   have Q:5^(4-x)<=5^4:=As (by omega) (by omega)
   refine aW (anh (4-x) n J (1+x) (N+20000*i+1) (by omega) (by omega) (by omega) (by omega) P) λy e=>?_
   generalize 5^(4-x)=p at Q e
   rw[iz]
   obtain⟨b,C,Z⟩:=acJ e.1.1 (n:=n) (by omega)
   refine Sj C (cc (λc=>az ?_) λc=>?_)
   ·subst c;exact⟨⟨uq.of e.1.1 C (by omega),4-x+1,by omega,e.1.2,e.1.1⟩,e.2.mono (by omega)⟩
   ·rw[bD (by omega)];exact I (i+1) y.2 (by omega) (by omega) (e.2.mono (by omega))
 unfold JT;refine j _ (λu R=>?_) n 0 r (by omega) (by omega) (D.mono (by omega));exact Sj (show af jB 0=some Yx from rfl) (az ⟨atG (by omega),R.mono (by omega)⟩)
structure HP(n:Nat)(fs:List eD):Prop where
 f:∀f∈fs,zn n f
 d:∀i j(hi:i<fs.length)(hj:j<i),fs[j].name≠fs[i].name
 l:1<=fs.length/\fs.length<=4
theorem alJ{fs:List eD}(h:HP n fs)(A:2^41<=n):PN n fs=some true:=by
 have C:=h.l;have k2:∀i(hi:i<fs.length),∀K:List eD->Int->Option Bool,∀m j:Nat,j<=i->i<m+j->JC n m fs i j K=K fs i:=by
  intro i hi K m
  induction m with
  |zero=>intro j a u;omega
  |succ m x=>
   intro j a u
   rw[JC]
   by_cases y:j<i
   ·rw[show av (j:Int) (i:Int)=true from BL (by omega),aF,bn (show j<fs.length by omega),ak,bn hi,ak,mU,gu (h.d i j hi y),aH,bD (by omega)];exact x (j+1) (by omega) (by omega)
   ·rw[show av (j:Int) (i:Int)=false from xB (by omega),aH]
 have k1:∀K:List eD->Option Bool,∀m i:Nat,i<=fs.length->fs.length<m+i->JD n m fs i K=K fs:=by
  intro K m
  induction m with
  |zero=>intro j a u;omega
  |succ m x=>
   intro i a u
   rw[JD]
   by_cases hi:i<fs.length
   ·obtain⟨r,_,_,e⟩:=(h.f _ (bI hi)).r;rw[show av (i:Int) (au fs)=true from BL (by rw[aJ];omega),aF,bn hi,ak,e,ak,cn,dy,aH];refine(k2 i hi _ n 0 (by omega) (by omega)).trans ?_;rw[bD (by omega)];exact x (i+1) (by omega) (by omega)
   ·rw[show av (i:Int) (au fs)=false from xB (by rw[aJ];omega),aH]
 unfold PN;refine(k1 _ n 0 (by omega) (by omega)).trans ?_;rw[gx,aJ,fW (by omega)]
theorem Yy{name text:aj}{cls:Int}{r:ah}(a:gw name=true)(e:0<=cls/\cls<=2)(j:Em n r)(u:text=ez 6 r)(x:2^41+6<=n):zn n ⟨name,cls,text⟩:=by
 obtain⟨y,d,A,C,hz⟩:=j;exact ao4 a e u y A C hz x
abbrev atI:ah:=ah.mk 5 0 [] [ah.mk 2 0 Yx [] [],ah.mk 1 500 [] [] []] []
abbrev atJ:ah:=ah.mk 1 100 [] [] []
abbrev atK:ah:=ah.mk 3 0 [] [ah.mk 1 50 [] [] [],ah.mk 5 0 [] [ah.mk 2 0 agV [] [],ah.mk 1 10 [] [] []] []] []
abbrev atM:ah:=ah.mk 6 0 [] [ah.mk 1 1000 [] [] [],ah.mk 2 0 asp [] [],ah.mk 1 3 [] [] []] []
abbrev atN:ah:=ah.mk 10 0 [] [ah.mk 2 0 agV [] []] [⟨0,30⟩,⟨5,10⟩]
theorem atO{r:ah}{text:aj}(e:Em n r)(h:∀m,sG (m+1000) r=some text)(j:2^41+6<=n):text=ez 6 r:=by
 have a:=Qk 6 n r j (by omega) e.1.p;obtain⟨m,rfl⟩:∃m,n=m+1000:=⟨n-1000,by omega⟩;rw[h m] at a;injection a
theorem LP{name text:aj}{cls:Int}{r:ah}(j:gw name=true)(u:0<=cls/\cls<=2)(x:ns jB 3 r)(hz:lz 3 r)(h:∀m,u6 (m+1000) r=some true)(y:∀m,sG (m+1000) r=some text)(a:2^41+6<=n):zn n ⟨name,cls,text⟩:=
 have e:=agf (by omega) x hz h a
 Yy j u e (atO e y a) a
theorem atP(a:2^41+6<=n):zn n ⟨[102,117,108,108],0,[109,117,108,40,108,101,103,115,44,53,48,48,41]⟩:=LP (r:=atI) (by decide) (by omega) (by simp[ns,jB,ah.op,ah.kids,ah.name]) (by simp[lz,ah.op,ah.kids,ah.name,ah.marks]) (λm=>rfl) (λm=>rfl) a
def aif:List aj:=[[49,48,48],[97,100,100,40,53,48,44,109,117,108,40,116,105,109,101,44,49,48,41,41],[112,97,114,116,40,49,48,48,48,44,115,101,97,116,115,44,51,41],[116,105,101,114,115,40,116,105,109,101,59,48,58,51,48,44,53,58,49,48,41]]
theorem avk{cls:Int}{text:aj}(a:0<=cls/\cls<=2)(h:text∈aif)(e:2^41+6<=n):zn n ⟨[108,111,119],cls,text⟩:=by
 simp only[aif,cO,oP,oQ] at h;rcases h with rfl|rfl|rfl|rfl
 ·exact LP (r:=atJ) (by decide) a (by simp[ns,jB,ah.op,ah.kids,ah.name]) (by simp[lz,ah.op,ah.kids,ah.name,ah.marks]) (λm=>rfl) (λm=>rfl) e
 ·exact LP (r:=atK) (by decide) a (by simp[ns,jB,ah.op,ah.kids,ah.name]) (by simp[lz,ah.op,ah.kids,ah.name,ah.marks]) (λm=>rfl) (λm=>rfl) e
 ·exact LP (r:=atM) (by decide) a (by simp[ns,jB,ah.op,ah.kids,ah.name]) (by simp[lz,ah.op,ah.kids,ah.name,ah.marks]) (λm=>rfl) (λm=>rfl) e
 ·exact LP (r:=atN) (by decide) a (by simp[ns,jB,ah.op,ah.kids,ah.name]) (by simp[lz,ah.op,ah.kids,ah.name,ah.marks]) (λm=>rfl) (λm=>rfl) e
theorem RX{fs:List eD}(h:∀f∈fs,zn n f)(a:(fs.map eD.name).Pairwise (·≠·))(e:1<=fs.length/\fs.length<=4):HP n fs:=by
 refine⟨h,λi j hi u=>?_,e⟩;have:=aaK.1 a j i (by simp;omega) (by simp;omega) u;simpa using this
theorem amc{N:Int}{r:Rd}(H:bU N r)(R:N<=998000000000)(D:2^42<=n):Ok (O6 n r) λx=>HP n x.1/\bU (N+200000) x.2:=by
 have A:=atP (n:=n) (by omega);unfold O6;refine cJ H (by omega) (by omega) λa S _ _ E=>cw (λ_=>?_) λ_=>?_
 ·refine cJ E (by omega) (by omega) λb U Y b1 I=>Ir I (by omega) (by simp) λt Z J M=>?_;dsimp only;rw[js (a:=1) (by omega) (by omega) (by omega) (by omega)];have F:=avk (n:=n) (cls:=1+b) (text:=t) (by omega) J (by omega);refine dI (by simp) (by omega) (cJ M (by omega) (by omega) λc P _ _ u=>ok_eq (λ_=>?_) λ_=>az ⟨RX ?_ ?_ (by simp),u.mono (by omega)⟩)
  ·refine cJ u (by omega) (by omega) λd Q d0 d1 C=>aW (abV C (by omega) D) λy j=>?_;rw[iz,j.1.1.write (by omega),ak];refine dI (by simp) (by omega) (az ⟨RX ?_ ?_ (by simp),j.2.mono (by omega)⟩)
   ·intro f e;simp only[sE,iw,cO,oP,oQ] at e;rcases e with rfl|rfl|rfl
    ·exact A
    ·exact F
    ·exact Yy (by decide) (by show 0<=d/\d<=2;omega) j.1 rfl (by omega)
   ·simp
  ·intro f e;simp only[sE,iw,cO,oP,oQ] at e;rcases e with rfl|rfl
   ·exact A
   ·exact F
  ·simp
 ·refine cJ E (by omega) (by omega) λc P _ _ u=>ok_eq (λ_=>?_) λ_=>az ⟨RX ?_ ?_ (by simp),u.mono (by omega)⟩
  ·refine cJ u (by omega) (by omega) λd Q d0 d1 C=>aW (abV C (by omega) D) λy j=>?_;rw[iz,j.1.1.write (by omega),ak];refine dI (by simp) (by omega) (az ⟨RX ?_ ?_ (by simp),j.2.mono (by omega)⟩)
   ·intro f e;simp only[sE,iw,cO,oP,oQ] at e;rcases e with rfl|rfl
    ·exact A
    ·exact Yy (by decide) (by show 0<=d/\d<=2;omega) j.1 rfl (by omega)
   ·simp
  ·intro f e;simp only[cO,oP,oQ] at e;rw[e];exact A
  ·simp
end
end
end Go.Ev
