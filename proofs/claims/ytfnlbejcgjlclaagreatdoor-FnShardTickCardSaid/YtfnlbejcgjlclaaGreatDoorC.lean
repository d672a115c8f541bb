/- Calls, regions that draw their order, loops and functions are sound against the model (third part). No conditions. -/
import Derived.Orders
import Derived.Lib.ItoaNum
import Derived.Lib.AtoiAll
import Derived.Lib.IndexMore
import Derived.Lib.Strings
import Derived.Lib.Split
import Derived.Lib.Join
import Derived.Lib.Repeat
import Derived.Test.YtfnlbejcgjlclaaGreatDoorProg
import Derived.Test.YtfnlbejcgjlclaaGreatDoorB
import Derived.Test.YtfnlbejcgjlclaaGreatDoorA
set_option linter.all false
namespace Go.Sd
open Go Go.RowKit
open Go.Ev hiding World Event Rd
section
def bW(γ:Nat->G)(w:World):Rc:=⟨w,γ,λ_=>0,λ_=>none⟩
abbrev qw(b:Nat):Value:=.pointer (some ⟨b,0,none⟩)
def uF(c:Rc)(i:Nat)(a:Value):(p:bO)->p.T->Value->Prop|.val q,x,v=>Rd c (some (.aw i,[])) (q.enc x) v|.pb t m _,x,v=>∃b,v=qw b/\xw c (.aw i) b (jC m (enc false t x))|.pr t,x,v=>Rd c (some (.aw i,[])) (.own true t x.1) a/\∃b o len cap,a=.slice (some ⟨b,o,none⟩) len cap/\0<=x.2/\x.2<(len:Int)/\v=.pointer (some ⟨b,o+x.2.toNat*aA t,none⟩)|.mu t,x,v=>Rd c (some (.aw i,[])) (.own true t x) a/\v=a|.rp t,x,v=>Rd c none (.ip (enc false t x) 0) v|.bd,x,v=>∃b,v=qw b/\BA c (.aw i) b x|.fn g e,x,v=>Rd c none (.fn g (kM e x)) v
def Np(c:Rc)(i:Nat)(a:Value):(p:bO)->p.O->Value->Prop|.pb t _ e,o,v=>∃b,v=qw b/\xw c (.aw i) b (jC e (enc false t o))|.pr t,o,_=>Rd c (some (.aw i,[])) (.own true t o) a|.mu t,o,_=>Rd c (some (.aw i,[])) (.own true t o) a|.bd,o,v=>∃b,v=qw b/\BA c (.aw i) b o|.val _,_,_=>True|.rp _,_,_=>True|.fn _ _,_,_=>True
def tc(c:Rc)(a:Nat->Value):Nat->(ps:List bO)->qJ ps->List Value->Prop|_,[],_,vs=>vs=[]|_,_::_,_,[]=>False|i,p::ps,x,v::vs=>uF c i (a i) p x.1 v/\tc c a (i+1) ps x.2 vs
def Ew(c:Rc)(a:Nat->Value):Nat->(ps:List bO)->pV ps->List Value->Prop|_,[],_,_=>True|_,_::_,_,[]=>False|i,p::ps,x,v::vs=>Np c i (a i) p x.1 v/\Ew c a (i+1) ps x.2 vs
def uG(c:Rc)(n:Nat)(rs:List ea)(x:kt rs)(v:Value):Prop:=
 match rs,x with
 |[.nb t m],x=>∃b,v=qw b/\xw c (.aw n) b (jC m (enc false t x.1))
 |rs,x=>Rd c (some (.aw n,[])) (pack (fQ rs x)) v
def Ey(gl:Nat->TV)(gb:Nat->Option Obj)(γ:Nat->G)(w:World):Prop:=(∀i,Rd (bW γ w) none (gl i) (.pointer (some ⟨i,0,none⟩)))/\∀i o,gb i=some o->γ i=.im/\w.heap[i]?=some o
def Ly(P:Program)(gl:Nat->TV)(gb:Nat->Option Obj)(f:Nat)(c:fR):Prop:=∀(γ:Nat->G)(w:World)(a:List Value)(u:Nat->Value)(x:qJ c.ps)(y:c.X),(∀b,w.heap.size<=b->γ b=.fr)->Ey gl gb γ w->tc (bW γ w) u 0 c.ps x a->c.f x=some y->Calls P f a.toArray w (λe A=>∃v j,e=.returned v/\bw (λq _=>∃n,q=.aw n) γ w j A/\uG (bW j A) c.ps.length c.rs (c.back y).1 v/\Ew (bW j A) u 0 c.ps (c.back y).2 a)
def Enters(P:Program)(f:Nat):Prop:=∃fn,P.funcs[f]?=some fn/\fn.name≠ "runtime.NumGoroutine" /\fn.body.isNone=false
theorem amC{P:Program}{f:Nat}(h:Enters P f)(args:Array Value)(w:World):(callFunc f args).run P w=.ok (.enter f args) w:=by
 obtain⟨fn,a,e,u⟩:=h;have j:fn.body≠none:=by cases x:fn.body<;>simp_all
 simp[callFunc,go_sem,a,e,j]
structure uj(P:Program)(C:Cx):Prop where
 ok:∀g h c,C.fn g h=some c->Enters P g/\Ly P C.gl C.gb g c
def Tv:TV->Bool|.ptr _ _|.pe _ _|.ip _ _|.fn _ _|.vec _ _|.er _|.mY|.np|.iv _ _=>true|_=>false
structure uk(c:Rc)(i:Nat)(tv:TV)(v:Value):Prop where
 cells:∃xs:List Value,xs.length=(cellsOf tv).length/\(∀(j:Nat)bP v',(cellsOf tv)[j]?=some bP->xs[j]?=some v'->tw c (.aw i,[(0,0+j)]) bP v')/\
  ((∃cs,tv=.agg cs/\v=.agg xs.toArray/\(∀u∈cs,lh u=true)/\∀u∈xs,u.oneCell'=true)\/((∀cs,tv≠.agg cs)/\xs=[v]))
 pt:Tv tv=true->Rd c none tv v
 ep:∀p t r j,tv=.ep p t r j->∃b o len cap,c.va p=some (.slice (some ⟨b,o,none⟩) len cap)/\0<=r/\r<(len:Int)/\v=.pointer (some ⟨b,o+r.toNat*aA t+j,none⟩)
theorem adb{c:Rc}{i:Nat}{a:TV}{v:Value}(h:Rd c (some (.aw i,[])) a v)(u:(∃e,a=.agg e)\/(∃e,a=.dM e)\/fJ a=true):uk c i a v where
 cells:=aa8 h u
 pt hp:=by
  have:fJ a=true:=by cases a<;>simp_all [Tv,fJ]
  exact h.anyM this none
 ep p t r j he:=by
  subst he;cases h with
  |ep _ _ _ _ _ b o len cap D x y A=>exact⟨b,o,len,cap,x,y,A,rfl⟩
def jQ(γ:Nat->G):Nat->G:=λb=>match γ b with|.at _ _=>.im|x=>x
theorem Ha{γ:Nat->G}{b:Nat}(h:γ b=.im):jQ γ b=.im:=by simp only[jQ,h]
theorem KN{γ:Nat->G}{b:Nat}{q:Rt}{p:aZ}(h:γ b=.at q p):jQ γ b=.im:=by simp only[jQ,h]
theorem ade{γ:Nat->G}{b:Nat}(h:γ b=.fr):jQ γ b=.fr:=by simp only[jQ,h]
theorem adf{γ:Nat->G}{b:Nat}{q:Rt}{p:aZ}:jQ γ b≠.at q p:=by
 cases h:γ b<;>simp[jQ,h]
section
variable{C:Cx}{E:Env}{s:TS}{g:Gs}{w:World}{R:Type}{r:R}
theorem Rd.ux{m:Option Gp}{a:TV}{v:Value}(h:Rd (g.rc C w) m a v)(j:bC a=true):Rd (bW (jQ g.γ) w) none (kH a) v:=h.ku j (λb e=>⟨Ha e,rfl⟩) (λq p _ b u e=>⟨KN e,rfl⟩)
theorem anW(h:Rel C E s g w){J:TV}{v:Value}{G0:Gp}(u:tw (g.rc C w) G0 J v){K:TV->Option R}(e:zc C s J K=some r):
  ∃M,K M=some r/\bC M=true/\Rd (bW (jQ g.γ) w) none M v:=by
 cases J with
 |vw p t=>
  simp only[zc] at e;obtain⟨x,N,e⟩:=ry e;have P:=u.vw p t rfl;rcases sJ h P N with rfl|A
  ·simp at e
  ·cases x with
   |own d D j=>exact⟨_,e,rfl,A.ux rfl⟩
   |bJ D j=>exact⟨_,e,rfl,A.ux rfl⟩
   |_=>simp at e
 |sl p t lo hi=>
  simp only[zc] at e;obtain⟨x,N,e⟩:=ry e;obtain⟨a,len,cap,a',F,P,rfl,h1,h2,h3,h4,h5,h6⟩:=u.sl p t lo hi rfl;rcases sJ h P N with rfl|A
  ·simp at e
  ·have H:∀(j:List (El t))(y:List (El t)),Rd (bW (jQ g.γ) w) none (.bJ t j) (.slice a len cap)->dF j lo hi=some y->Rd (bW (jQ g.γ) w) none (.bJ t y) (.slice a' (hi.toNat-lo.toNat) F):=λj y hx I=>by
     obtain⟨⟨_,_,Q⟩,rfl⟩:=wW.1 I
     exact hx.Lb h1 h2 Q h4 h5
   cases x with
   |own d D j=>
    obtain⟨S,U⟩:=bQ.1 e;clear e;have Y:D=t:=by simpa using S
    subst Y;obtain⟨y,I,Z⟩:=dw.1 U;exact⟨_,Z,rfl,H j y (A.ux rfl) I⟩
   |bJ D j=>
    obtain⟨S,U⟩:=bQ.1 e;clear e;have Y:D=t:=by simpa using S
    subst Y;obtain⟨y,I,Z⟩:=dw.1 U;exact⟨_,Z,rfl,H j y (A.ux rfl) I⟩
   |_=>simp at e
 |own d t j=>exact⟨_,e,rfl,(u.pl rfl).ux rfl⟩
 |bJ t j=>exact⟨_,e,rfl,(u.pl rfl).ux rfl⟩
 |eM t j=>exact⟨_,e,rfl,((u.pl rfl).ux rfl).DT⟩
 |b x=>exact⟨_,e,rfl,(u.pl rfl).ux rfl⟩
 |i k n=>exact⟨_,e,rfl,(u.pl rfl).ux rfl⟩
 |s x=>exact⟨_,e,rfl,(u.pl rfl).ux rfl⟩
 |nil=>exact⟨_,e,rfl,(u.pl rfl).ux rfl⟩
 |gU=>exact⟨_,e,rfl,(u.pl rfl).ux rfl⟩
 |_=>simp[zc] at e
theorem adg(h:Rel C E s g w){i:Nat}:∀(vs:List TV){A:List Value}{j0:Nat}{K:List TV->Option R},A.length=vs.length->
  (∀(j:Nat)a v,vs[j]?=some a->A[j]?=some v->tw (g.rc C w) (.aw i,[(0,j0+j)]) a v)->D7 C s vs K=some r->
  ∃y,K y=some r/\y.length=vs.length/\(∀a∈y,bC a=true)/\∀(j:Nat)a v,y[j]?=some a->A[j]?=some v->Rd (bW (jQ g.γ) w) none a v
 |[],A,j0,K,H,I,e=>⟨[],e,rfl,by simp,by simp⟩
 |v::vs,[],j0,K,H,I,e=>by simp at H
 |v::vs,x::A,j0,K,H,I,e=>by
  simp only[D7] at e;obtain⟨M,e,N,P⟩:=anW h (I 0 v x rfl rfl) e;obtain⟨y,e,Q,S,U⟩:=adg h vs (j0:=j0+1) (by simpa using H) (λj a u D F=>by
   have:=I (j+1) a u (by simpa using D) (by simpa using F)
   rwa[show j0+1+j=j0+(j+1) by omega]) e;refine⟨M::y,e,by simp[Q],λa J=>?_,λj a u D F=>?_⟩
  ·rcases cO.1 J with rfl|J
   ·exact N
   ·exact S a J
  ·cases j with
   |zero=>simp at D F;subst D;subst F;exact P
   |succ j=>exact U j a u (by simpa using D) (by simpa using F)
theorem WN{c:Rc}{i:Nat}{a:TV}{A:List TV}{v:Value}{D:List Value}{M:Nat->Option Gp}(x:A.length=(cellsOf a).length)(I:D.length=(cellsOf a).length)
  (Q:(∃e,a=.agg e/\v=.agg D.toArray/\(∀u∈e,lh u=true)/\∀u∈D,u.oneCell'=true)\/((∀e,a≠.agg e)/\D=[v]))
  (S:∀u∈A,bC u=true)(J:∀(j:Nat)u w,A[j]?=some u->D[j]?=some w->Rd c (M j) u w)(m:Option Gp)(U:(∃e,a=.agg e)->∀j,M j=lZ m 0 j)(H:(∀e,a≠.agg e)->M 0=m):Rd c m (xG a A) v:=by
 rcases Q with⟨e,rfl,rfl,Z,Y⟩|⟨N,rfl⟩
 ·simp only[xG];refine .agg _ _ _ (λu y=>GW (S u y)) (by simp only[Uv];rw[I,x]) (λj u w y F=>Y w (by rw[akF] at F;exact dH F)) (λj u w y F=>?_);rw[<-U ⟨e,rfl⟩ j];exact J j u w y (by rwa[akF] at F)
 ·have P:(cellsOf a).length=1:=by simpa using I.symm
  match A,x with
  |[u],_=>
   have y:=J 0 u v rfl rfl;rw[H N] at y;have:xG a [u]=u:=by cases a<;>first|rfl|exact absurd rfl (N _)
   rw[this];exact y
  |[],x=>rw[P] at x;simp at x
  |_::_::_,x=>rw[P] at x;simp at x
theorem Xy{c c':Rc}(e:kx c c'){t:Ty}{a:List TV}{x:El t}{v:Value}(j:Ev.dec t a=some x)(h:Rd c none (.ip a 0) v):Rd c' none (.ip (enc false t x) 0) v:=by
 have u:tu [t] [.ip a 0]=some (x,()):=by simp only[tu,j];rfl
 obtain⟨_,_,y⟩:=V2 (c:=c) (c':=c') e (m:=none) (tm':=none) u;exact y 0 _ _ v rfl rfl h
theorem are(h:Rel C E s g w){k:Nat}{F:List TV}(y:s.box k=.cells F){t:Ty}{x:El t}(I:Ev.dec t F=some x):Rd (bW (jQ g.γ) w) none (.ip (enc false t x) 0) (.pointer (some ⟨g.bx k,0,none⟩)):=by
 have H:=h.boxes k;rw[y] at H;obtain⟨vs,e,fr,J,M,N,h4,h5,h6⟩:=H;have P:w.heap[g.bx k]?=some (.cells vs e fr):=J;have Q:g.γ (g.bx k)=.at (.box k) []:=N;have get:∀(i:Nat)tv,(enc false t x)[i]?=some tv->∃a v,F[i]?=some a/\Cd false a tv/\vs[i]?=some v/\v.oneCell'=true/\Rd (g.rc C w) (some (.box k,[(0,i)])) a v:=λi tv hi=>by
  obtain⟨a,u,A⟩:=O2 I hi
  have D:=(da.1 u).1
  have j:vs[i]?=some (vs[i]'(by omega)):=jX _
  obtain⟨k1,k2⟩:=h6 i a _ u j
  exact⟨a,_,u,A,j,k1,k2⟩
 refine .ip _ _ _ _ _ (λi=>vs[i]?.getD undef) (Dv _ _ _) (KN Q) (λi tv hi=>?_) (λi tv hi=>?_)
 ·obtain⟨a,v,u,A,j,k1,k2⟩:=get i tv hi;rw[j];refine⟨?_,k1⟩;simp only[akG];show w.cell? ⟨g.bx k,0+i,none⟩=some v;have D:=(akH.1 j).1;simp only[World.cell?,P,iu];have:=M i D;simp[this,j]
 ·obtain⟨a,v,u,A,j,k1,k2⟩:=get i tv hi;rw[j];have S:=fg hi;have:=Vp (c:=g.rc C w) (c':=bW (jQ g.γ) w) (q:=.box k) (p:=[(0,i)]) (q':=.aw 0) (p':=[]) (f:=.l) (λb y=>⟨Ha y,rfl⟩) ⟨λb U _ Y=>Y.elim,λb U y _=>KN y,λ_ _ _=>rfl⟩ A (vd hi) rfl (VZ A S) k2;have Z:zK .l tv=tv:=by cases tv<;>rfl
  rw[Z] at this;have u:fJ tv=true:=by
   have:=vd hi
   cases tv<;>simp_all [bC,fJ,iB]
  exact this.anyM u none
theorem aey(h:Rel C E s g w):∀(A:List Ty)(cap:List TV)(e:List Value){K:tp A->Option R},e.length=cap.length->(∀(j:Nat)y v,cap[j]?=some y->e[j]?=some v->Rd (g.rc C w) none y v)->lD s A cap K=some r->
  ∃x,K x=some r/\(kM A x).length=e.length/\(∀y∈kM A x,rW y=true)/\∀(j:Nat)y v,(kM A x)[j]?=some y->e[j]?=some v->Rd (bW (jQ g.γ) w) none y v
 |[],[],e,K,F,_,a=>⟨(),by simpa[lD] using a,by simp[kM,F],by simp[kM],by simp[kM]⟩
 |[],_::_,_,K,_,_,a=>by simp[lD] at a
 |t::A,[],_,K,_,_,a=>by simp[lD] at a
 |t::A,v::cap,[],K,F,_,a=>by simp at F
 |t::A,v::cap,u::e,K,F,Q,a=>by
  have h0:=Q 0 v u rfl rfl;have M:∃D:El t,(lD s A cap λS=>K (D,S))=some r/\Rd (bW (jQ g.γ) w) none (.ip (enc false t D) 0) u:=by
   cases v with
   |ip U n=>
    cases n with
    |zero=>
     simp only[lD,one?] at a
     split at a
     ·rename_i D N;exact⟨D,a,Xy (c:=g.rc C w) (c':=bW (jQ g.γ) w) (λb P=>⟨Ha P,rfl⟩) N h0⟩
     ·simp at a
    |succ n=>simp[lD] at a
   |ptr k n=>
    cases n with
    |zero=>
     simp only[lD] at a;split at a
     ·rename_i U P;simp only[one?] at a;split at a
      ·rename_i D N;refine⟨D,a,?_⟩;cases h0;exact are h P N
      ·simp at a
     ·simp at a
    |succ n=>simp[lD] at a
   |_=>simp[lD] at a
  obtain⟨D,a,Y⟩:=M;obtain⟨Z,a,h1,h2,h3⟩:=aey h A cap e (by simpa using F) (λj y v H I=>Q (j+1) y v (by simpa using H) (by simpa using I)) a;refine⟨(D,Z),a,by simp[kM,h1],λy J=>?_,λj y v H I=>?_⟩
  ·simp only[kM,cO] at J;rcases J with rfl|J
   ·simp only[rW,jJ];exact Dv _ _ _
   ·exact h2 y J
  ·cases j with
   |zero=>simp[kM] at H I;subst H;subst I;exact Y
   |succ j=>exact h3 j y v (by simpa[kM] using H) (by simpa using I)
theorem anX(h:Rel C E s g w){p:bO}(J:sP [p]=true){i:Nat}{e:TV}{v:Value}(M:uk (g.rc C w) i e v){K:p.T->(p.O->TS->TS)->TS->Option R}(a:arg C true p e s K=some r):
  ∃x D,K x D s=some r/\(∀o y,D o y=y)/\∀u,uF (bW (jQ g.γ) w) i u p x v:=by
 have F:∀{Kp:aZ->Prop}{q:Rt}{N:aZ}{q':Rt}{nA:aZ},Tn (bW (jQ g.γ) w) (bW (jQ g.γ) w) Kp q N q' nA:=⟨λb N A=>absurd A adf,λb N A=>absurd A adf,λ_ _ _=>rfl⟩;have H:kx (bW (jQ g.γ) w) (bW (jQ g.γ) w):=λb A=>⟨A,rfl⟩;cases p with
 |val q=>
  have IB:q.mv=false:=by
   simp only[sP] at J
   cases hq:q.mv with
   |false=>rfl
   |true=>rw[hq] at J;simp at J
  have gen:(BN C true q.mv (cellsOf e) s λvs y=>match q.dec (xG e vs) with|some x=>K x (λ_ s=>s) y|none=>none)=some r->∃x D,K x D s=some r/\(∀o y,D o y=y)/\∀u,uF (bW (jQ g.γ) w) i u (.val q) x v:=λa=>by
   simp only[BN,IB,aH,aF] at a
   obtain⟨Y,Z,nX,we⟩:=M.cells
   obtain⟨du,a,P,h4,h5⟩:=adg h (i:=i) (cellsOf e) (j0:=0) Z nX a
   split at a
   ·rename_i x u;refine⟨x,_,a,λ_ _=>rfl,λ_=>?_⟩;have h6:Rd (bW (jQ g.γ) w) none (xG e du) v:=WN (i:=i) P Z we h4 h5 none (λ_ _=>rfl) (λ_=>rfl);exact ve H F u (h6.lift (some (.aw i,[])))
   ·simp at a
  cases e with
  |vec t Y=>
   simp only[arg] at a;split at a
   ·rename_i x u;refine⟨x,_,a,λ_ _=>rfl,λ_=>?_⟩;have h6:Rd (bW (jQ g.γ) w) (some (.aw i,[])) (.vec t Y) v:=by
     cases M.pt rfl with
     |vec _ _ _ cH=>exact .vec _ _ _ cH
    exact ve H F u h6
   ·simp at a
  |_=>exact gen a
 |rp t=>
  simp only[arg] at a;split at a
  ·simp only[one?] at a;split at a
   ·rename_i x u;exact⟨x,_,a,λ_ _=>rfl,λ_=>Xy (c:=g.rc C w) (c':=bW (jQ g.γ) w) (λb A=>⟨Ha A,rfl⟩) u (M.pt rfl)⟩
   ·simp at a
  ·simp at a
 |fn gg ts=>
  simp only[arg] at a;split at a
  ·rename_i g' cap;obtain⟨Q,gV⟩:=bQ.1 a;clear a;have Q:=gr Q;subst Q;have h0:=M.pt rfl;cases h0 with
   |fn _ _ _ I hc hl hr=>
    obtain⟨x,a,h1,h2,P⟩:=aey h ts cap I.toList (by simpa using hl) (λj e v S U=>hr j e v S (by simpa using U)) gV;exact⟨x,_,a,λ_ _=>rfl,λ_=>.fn _ _ _ _ h2 (by simpa using h1.symm) (λj e v S U=>P j e v S (by simpa using U))⟩
  ·simp at a
 |_=>simp[sP] at J
theorem ab9(h:Rel C E s g w):∀(ps:List bO)(vs:List TV)(a:List Value)(i:Nat){K:qJ ps->(pV ps->TS->TS)->TS->Option R},sP ps=true->a.length=vs.length->(∀(j:Nat)H v,vs[j]?=some H->a[j]?=some v->uk (g.rc C w) (i+j) H v)->args C true ps vs s K=some r->
  ∃x I,K x I s=some r/\(∀o J,I o J=J)/\∀A,tc (bW (jQ g.γ) w) A i ps x a
 |[],[],a,i,K,_,D,_,e=>⟨(),_,e,λ_ _=>rfl,λ_=>by simpa[tc] using D⟩
 |[],_::_,_,_,K,_,_,_,e=>by simp[args] at e
 |_::_,[],_,_,K,_,_,_,e=>by simp[args] at e
 |p::ps,v::vs,[],i,K,_,D,_,e=>by simp at D
 |p::ps,v::vs,u::a,i,K,y,D,M,e=>by
  simp only[args] at e;cases F:R0 p v vs with
  |true=>rw[F] at e;simp at e
  |false=>
   rw[F,aH] at e;have N:sP [p]=true/\sP ps=true:=by
    cases p with
    |val q=>
     simp only[sP] at y⊢
     cases P:q.mv with
     |true=>rw[P] at y;simp at y
     |false=>
      rw[P,aH] at y
      cases Q:q.R1 with
      |true=>rw[Q,aF] at y;exact⟨by simp,y⟩
      |false=>rw[Q] at y;simp at y
    |rp t=>exact⟨rfl,y⟩
    |fn g ts=>exact⟨rfl,y⟩
    |_=>simp[sP] at y
   obtain⟨x,I,e,S,U⟩:=anX h N.1 (M 0 v u rfl rfl) e;obtain⟨Y,Tc,e,Z,h5⟩:=ab9 h ps vs a (i+1) N.2 (by simpa using D) (λj H w hj hw=>by
    have:=M (j+1) H w (by simpa using hj) (by simpa using hw)
    rwa[show i+1+j=i+(j+1) by omega]) e;exact⟨(x,Y),_,e,λo J=>by rw[S,Z],λA=>⟨U (A i),h5 A⟩⟩
end
end
section
open Classical in
noncomputable def rP(γ:Nat->G)(i:Nat)(pre:aZ)(K:aZ->Prop):Nat->G:=λb=>
 match γ b with
 |.at q p=>if q=.aw i/\pre<+:p then(if K (p.drop pre.length) then .at (.aw i) (p.drop pre.length) else .im) else .at q p
 |x=>x
open Classical in
noncomputable def lW(γ:Nat->G)(q1:Rt)(q2:Rt)(K:aZ->Prop):Nat->G:=λb=>
 match γ b with
 |.at q p=>if q=q1 then(if K p then .at q2 p else .im) else .at q p
 |x=>x
section
variable{γ:Nat->G}{i b:Nat}{pre π p:aZ}{K:aZ->Prop}{q q1 q2:Rt}
theorem WO(h:γ b=.im):rP γ i pre K b=.im:=by simp only[rP,h]
theorem apJ(h:γ b=.fr):rP γ i pre K b=.fr:=by simp only[rP,h]
theorem V3(h:γ b=.at q p)(a:q≠.aw i):rP γ i pre K b=.at q p:=by simp only[rP,h];rw[aE (λe=>a e.1)]
theorem amD(h:γ b=.at (.aw i) (pre++π))(a:K π):rP γ i pre K b=.at (.aw i) π:=by
 simp only[rP,h];rw[aD ⟨trivial,wN _ _⟩,akI,aD a]
theorem anY(h:γ b=.at (.aw i) (pre++π))(a:¬ K π):rP γ i pre K b=.im:=by
 simp only[rP,h];rw[aD ⟨trivial,wN _ _⟩,akI,aE a]
theorem aez:FK (λq=>∃n,q=.aw n) γ (rP γ i pre K) where
 im b h:=WO h
 at' b q p h hz:=by
  by_cases a:q=.aw i
  ·subst a;obtain⟨⟨k,e⟩,_⟩:=hz ⟨i,rfl⟩;cases e
  ·exact V3 h a
 fr b h:=apJ h
theorem Qp(h:γ b=.im):lW γ q1 q2 K b=.im:=by simp only[lW,h]
theorem adh(h:γ b=.fr):lW γ q1 q2 K b=.fr:=by simp only[lW,h]
theorem Vs(h:γ b=.at q p)(a:q≠q1):lW γ q1 q2 K b=.at q p:=by simp only[lW,h];rw[aE a]
theorem abz(h:γ b=.at q1 p)(a:K p):lW γ q1 q2 K b=.at q2 p:=by simp only[lW,h];rw[aD trivial,aD a]
theorem aca(h:γ b=.at q1 p)(a:¬ K p):lW γ q1 q2 K b=.im:=by simp only[lW,h];rw[aD trivial,aE a]
theorem adi{w:World}(a:∀b,w.heap.size<=b->γ b=.fr):bw (λq _=>q=q1) γ w (lW γ q1 q2 K) w:=⟨λb h=>⟨Qp h,rfl⟩,λb q p h hx=>⟨Vs h hx,rfl⟩,λb _ h=>⟨adh h,rfl⟩,iI _,λb h=>adh (a b h),rfl,rfl,rfl⟩
end
structure kb(J:Nat->Prop)(γ γ':Nat->G):Prop where
 im:∀b,γ b=.im->γ' b=.im
 aw:∀b j π,¬ J j->γ b=.at (.aw j) π->γ' b=.at (.aw j) π
theorem kb.refl(J:Nat->Prop)(γ:Nat->G):kb J γ γ:=⟨λ_ h=>h,λ_ _ _ _ h=>h⟩
theorem kb.trans{J:Nat->Prop}{γ a BQ:Nat->G}(h:kb J γ a)(k:kb J a BQ):kb J γ BQ:=⟨λb e=>k.im b (h.im b e),λb j π u e=>k.aw b j π u (h.aw b j π u e)⟩
theorem kb.mono{J a:Nat->Prop}{γ γ':Nat->G}(h:kb J γ γ')(e:∀j,J j->a j):kb a γ γ':=⟨h.im,λb j π u x=>h.aw b j π (λy=>u (e j y)) x⟩
theorem kb.fk{Z:Rt->Prop}{γ γ':Nat->G}(h:FK Z γ γ')(J:Nat->Prop)(hz:∀j,Z (.aw j)->J j):kb J γ γ':=⟨h.im,λb j π a e=>h.at' b _ _ e (λu=>absurd (hz j u) a)⟩
section
variable{C:Cx}{E:Env}{s:TS}{g:Gs}{w w':World}{R:Type}{r:R}
theorem Rd.stay{c a:Rc}{m:Option Gp}{tv:TV}{v:Value}(h:Rd c m tv v)(e:ik tv=true)(u:kx c a)(x:∀q p,m=some (q,p)->∀b π,c.γ b=.at q (p++π)->a.γ b=.at q (p++π)/\a.w.heap[b]?=c.w.heap[b]?):Rd a m tv v:=h.same u x (λk y=>absurd y (Hq e k)) (λp j=>absurd j (u9 e p)) (λp j=>absurd j.mv (u9 e p))
theorem anZ{a:TV}(h:bC a=true):ik a=true:=by cases a<;>simp_all [bC,ik,eE]
theorem Dr{m:List Fl}{t:Ty}{x:El t}:∀u∈jC m (enc false t x),bC u=true:=λu y=>by
 obtain⟨j,a⟩:=Oq.1 y;rw[KK] at a;cases e:(enc false t x)[j]? with
 |none=>rw[e] at a;simp at a
 |some b=>rw[e] at a;simp only[jA,aQ] at a;subst a;exact Kj (fg e)
theorem Hb{c c':Rc}{q y:Rt}{b:Nat}{cs:List TV}(F:kx c c')(u:Tn c c' (λ_=>True) q [] y [])(H:∀a∈cs,bC a=true)(h:xw c q b cs):xw c' y b cs:=by
 obtain⟨vs,e,fr,I,J,A,M,N,h6⟩:=h;exact⟨vs,e,fr,(u.heap b [] A).trans I,J,u.dq b [] A trivial,M,N,λj a v x D=>⟨(h6 j a v x D).1,(h6 j a v x D).2.all (H a (dH x)) F (u.sub (p:=[]) (p':=[]) (0,j) (λπ=>Oo))⟩⟩
theorem Hc{c c':Rc}{q e:Rt}{b:Nat}{x:aj}(D:kx c c')(a:Tn c c' (λ_=>True) q [] e [])(h:BA c q b x):BA c' e b x:=by
 obtain⟨p,v,u,j,y,A⟩:=h;exact⟨p,v,(a.heap b [] j).trans u,a.dq b [] j trivial,y,aev A a⟩
theorem KO{c A:Rc}{v:Value}{tv:TV}(D:(∃g a,∃x:tp a,tv=.fn g (kM a x))\/∃t,∃x:El t,tv=.ip (enc false t x) 0)(H:kx c A)(h:Rd c none tv v):Rd A none tv v:=by
 have nb:∀k,¬ MB k tv:=λk e=>by
  rcases D with⟨g,a,x,rfl⟩|⟨t,x,rfl⟩
  ·cases e with
   |fn _ _ j I=>
    have u:∀(a:List Ty)(x:tp a),TV.ptr k j∉kM a x:=by
     intro a
     induction a with
     |nil=>intro x;simp[kM]
     |cons t a J=>intro x;simp only[kM,cO,Je];exact⟨by simp,J _⟩
    exact u a x I
  ·cases e
 have F:∀p,¬ MV p tv:=λp e=>by rcases D with⟨g,a,x,rfl⟩|⟨t,x,rfl⟩<;>cases e
 exact h.same H (λ_ _ h=>by simp at h) (λk e=>absurd e (nb k)) (λp y=>absurd y (F p)) (λp y=>absurd y.mv (F p))
theorem uF.Cf{c c':Rc}{i:Nat}{A:Value}{p:bO}{x:p.T}{v:Value}(h:uF c i A p x v)(e:kx c c')(j:∀b π,c.γ b=.at (.aw i) π->c'.γ b=.at (.aw i) π/\c'.w.heap[b]?=c.w.heap[b]?):uF c' i A p x v:=by
 have D:Tn c c' (λ_=>True) (.aw i) [] (.aw i) []:=⟨λb π a _=>(j b _ a).1,λb π _ H=>absurd trivial H,λb π a=>(j b _ a).2⟩;have u:∀q p,(some (Rt.aw i,([]:aZ)):Option Gp)=some (q,p)->∀b π,c.γ b=.at q (p++π)->c'.γ b=.at q (p++π)/\c'.w.heap[b]?=c.w.heap[b]?:=λq p F b π a=>by
  simp only[aQ,cZ] at F
  obtain⟨rfl,rfl⟩:=F
  exact j b _ a
 cases p with
 |val q=>exact Rd.stay h (Hz q x).1 e u
 |pb t m M=>obtain⟨b,y,a⟩:=h;exact⟨b,y,Hb e D Dr a⟩
 |pr t=>exact⟨Rd.stay h.1 rfl e u,h.2⟩
 |mu t=>exact⟨Rd.stay h.1 rfl e u,h.2⟩
 |rp t=>exact KO (.inr ⟨t,x,rfl⟩) e h
 |bd=>obtain⟨b,y,a⟩:=h;exact⟨b,y,Hc e D a⟩
 |fn I J=>exact KO (.inl ⟨I,J,x,rfl⟩) e h
theorem Np.Cf{c c':Rc}{i:Nat}{y:Value}{p:bO}{x:p.O}{v:Value}(h:Np c i y p x v)(e:kx c c')(j:∀b π,c.γ b=.at (.aw i) π->c'.γ b=.at (.aw i) π/\c'.w.heap[b]?=c.w.heap[b]?):Np c' i y p x v:=by
 have A:Tn c c' (λ_=>True) (.aw i) [] (.aw i) []:=⟨λb π a _=>(j b _ a).1,λb π _ H=>absurd trivial H,λb π a=>(j b _ a).2⟩;have D:∀q p,(some (Rt.aw i,([]:aZ)):Option Gp)=some (q,p)->∀b π,c.γ b=.at q (p++π)->c'.γ b=.at q (p++π)/\c'.w.heap[b]?=c.w.heap[b]?:=λq p F b π a=>by
  simp only[aQ,cZ] at F
  obtain⟨rfl,rfl⟩:=F
  exact j b _ a
 cases p with
 |pb t m I=>obtain⟨b,u,a⟩:=h;exact⟨b,u,Hb e A Dr a⟩
 |pr t=>exact Rd.stay (tv:=.own true t x) h rfl e D
 |mu t=>exact Rd.stay (tv:=.own true t x) h rfl e D
 |bd=>obtain⟨b,u,a⟩:=h;exact⟨b,u,Hc e A a⟩
 |_=>trivial
theorem uk.Cf{i:Nat}{y:TV}{v:Value}{e:Nat->G}{J:Nat->Prop}(h:uk (g.rc C w) i y v)(x:kb J g.γ e)(A:¬ J i):uk (Gs.rc C {g with γ:=e} w) i y v where
 cells:=by
  obtain⟨D,F,H,I⟩:=h.cells;refine⟨D,F,λj M N P Q=>?_,I⟩;have k:=H j M N P Q;refine⟨k.vw,k.sl,λhp=>?_⟩;exact(k.pl hp).stay (anZ hp) (λb u=>⟨x.im b u,rfl⟩) (λq p a b π u=>by
   simp only[aQ,cZ] at a
   obtain⟨rfl,rfl⟩:=a
   exact⟨x.aw b _ _ A u,rfl⟩)
 pt hp:=by
  have k:=h.pt hp;refine k.same (λb u=>⟨x.im b u,rfl⟩) (λ_ _ h=>by simp at h) (λ_ _=>rfl) (λp a=>?_) (λp a=>?_)
  ·cases a<;>simp[Tv] at hp
  ·cases a;simp[Tv] at hp
 ep:=h.ep
theorem Rel.apK(h:Rel C E s g w){k i:Nat}{K:aZ->Prop}:Rel C E ((s.kill (Pl.gK k)).bx k .none) {g with γ:=lW g.γ (.box k) (.aw i) K} w:=by
 have u:bw (λq _=>q=.box k) g.γ w (lW g.γ (.box k) (.aw i) K) w:=adi h.aC.new;have x:∀j p,MV p ((s.kill (Pl.gK k)).slot j)->(gp p).1≠.box k:=λj p a D=>by
  rw[tY] at a
  have A:=(xc a).2
  rw[yR.2 D] at A
  cases A
 refine(h.kill (Pl.gK k)).pf (X:=λq _=>q=.box k) (g':={g with γ:=lW g.γ (.box k) (.aw i) K}) u (λj=>.inr ⟨rfl,rfl,(λp hx=>by cases hx),⟨λ_ _=>rfl,λp a=>?_,λp a π hx=>x j p a.mv hx⟩⟩) (λj=>?_)
 ·refine⟨rfl,λF=>?_⟩;exact(oU (C:=C) (g:=g) (g':={g with γ:=lW g.γ (.box k) (.aw i) K}) u p F (qj u λq H _ hx=>x j p a ((sF H).1 ▸hx)) (λ_ _ _=>rfl) (λJ I=>⟨rfl,λhx=>x j p a (by rw[DE.1 I];exact hx)⟩)).2
 ·by_cases y:j=k
  ·subst y
   left
   rcases yJ (s.kill (Pl.gK j)) j .none with e|e<;>rw[e]<;>trivial
  ·exact .inr ⟨yI _ _ y,rfl,λp hx=>y (by cases hx;rfl)⟩
end
end
section
def AX(p:bO)(a:TV)(q:Rt)(j:aZ):Prop:=(((∃e,MV e a/\(gp e).1=q)\/∃n,q=.aw n)/\¬ lU q j)\/∃k,q=.box k/\k∈nQ [p] [a]
def cb:bO->TV->Option Nat|.pr _,.ep (.cell k _) _ _ _=>some k|.mu _,.vw (.cell k _) _=>some k|_,_=>none
section
variable{C:Cx}{E:Env}{s:TS}{g:Gs}{w:World}{R:Type}{r:R}
structure Handed(C:Cx)(E:Env)(g:Gs)(w:World)(i:Nat)(p:bO)(tv:TV)(v:Value)(x:p.T)(bk:p.O->TS->TS)(s':TS)(γ':Nat->G)(hd:Value):Prop where
 rel:Rel C E s' {g with γ:=γ'} w
 prd:uF (bW γ' w) i hd p x v
 ev:kb (λj=>j=i) g.γ γ'
 fK:bw (AX p tv) g.γ w γ' w
 top:∀b k,ptrTo k tv=false->g.γ b=.at (.box k) []->γ' b=.at (.box k) []
 back:∀o s2 γ2 w2,Rel C E s2 {g with γ:=γ2} w2->(∀b k,cb p tv=some k->γ' b=.at (.box k) []->w2.heap[b]?=w.heap[b]?)->Np (bW γ2 w2) i hd p o v->
  ∃cX,Rel C E (bk o s2) {g with γ:=cX} w2/\kb (λj=>j=i) γ2 cX/\bw (λq _=>q=.aw i) γ2 w2 cX w2
theorem V4{γ:Nat->G}{i:Nat}{q:Rt}{a:aZ}:kb (λj=>j=i) γ (bV γ (.aw i) [] q a):=⟨λb h=>ua h,λb j a e h=>AS h (λhx=>e (by simpa[cW] using hx.1))⟩
theorem V5{γ:Nat->G}{i:Nat}{q:Rt}{a:aZ}(e:∀b,w.heap.size<=b->γ b=.fr):bw (λq _=>q=.aw i) γ w (bV γ (.aw i) [] q a) w:=(ri e).mono λq p hx=>hx.1
theorem UT{γ:Nat->G}{i:Nat}{q:Rt}{a:aZ}:FK (λq=>∃n,q=.aw n) γ (bV γ (.aw i) [] q a):=(FK.bV Dw).mono λq e=>⟨i,e⟩
theorem KP{c a:Rc}{γ:Nat->G}{i:Nat}{q:Rt}{j:aZ}(y:c.γ=γ)(e:a.γ=bV γ (.aw i) [] q j)(A:a.w=c.w):Tn c a (λ_=>True) (.aw i) [] q j where
 dq b u x _:=by
  rw[y] at x;rw[e];exact DH (by simpa using x)
 ku b u _ hk:=absurd trivial hk
 heap b u _:=by rw[A]
theorem Km{c c':Rc}{γ:Nat->G}{i:Nat}{q:Rt}{π:aZ}(e:c.γ=γ)(a:c'.γ=bV γ (.aw i) [] q π)(j:c'.w=c.w):kx c c':=λb u=>⟨by rw[a];exact ua (by rw[<-e];exact u),by rw[j]⟩
theorem aeA{i:Nat}{p:bO}{x:p.O->TS->TS}(e:∀o s,x o s=s)(o:p.O)(s2:TS)(a:Nat->G)(w2:World)(y:Rel C E s2 {g with γ:=a} w2):∃u,Rel C E (x o s2) {g with γ:=u} w2/\kb (λj=>j=i) a u/\bw (λq _=>q=.aw i) a w2 u w2:=⟨a,by rw[e];exact y,.refl _ _,.refl _ y.aC.new⟩
theorem Handed.same{i:Nat}{p:bO}{u:TV}{v:Value}{x:p.T}{j:p.O->TS->TS}{hd:Value}(h:Rel C E s g w)(y:uF (bW g.γ w) i hd p x v)(a:∀o s,j o s=s):Handed C E g w i p u v x j s g.γ hd:=⟨h,y,.refl _ _,.refl _ h.aC.new,λ_ _ _ h=>h,λo s2 e A D _ _=>aeA a o s2 e A D⟩
theorem ahf:kx (g.rc C w) (bW g.γ w):=λb h=>⟨h,rfl⟩
theorem aeB(h:Rel C E s g w){q:VS}{i:Nat}{A:TV}{v:Value}(ha:uk (g.rc C w) i A v){m:Bool->Pl->Bool}{K:q.T->(Unit->TS->TS)->TS->Option R}
  (M:(rU C m (cellsOf A) s λvs H=>match q.dec (xG A vs) with|some x=>K x (λ_ s=>s) H|none=>none)=some r):∃x N H I hd,K x N H=some r/\Handed C E g w i (.val q) A v x N H I hd:=by
 obtain⟨xs,S,nX,we⟩:=ha.cells;obtain⟨du,s1,a,U,h1,h3,h4,h5,h6,h7⟩:=Xt (n:=i) (j0:=0) (cellsOf A) h S nX M;split at U
 ·rename_i x hd;have F:∀(pre:aZ),Rd (Gs.rc C {g with γ:=a} w) (some (.aw i,pre)) (xG A du) v->∃x N H I hd,K x N H=some r/\Handed C E g w i (.val q) A v x N H I hd:=λpre hr=>by
   have hT:Tn (Gs.rc C {g with γ:=a} w) (bW (rP a i pre (qR q)) w) (qR q) (.aw i) pre (.aw i) []:=⟨λb Y y M=>amD y M,λb Y y M=>anY y M,λ_ _ _=>rfl⟩
   have hI:kx (Gs.rc C {g with γ:=a} w) (bW (rP a i pre (qR q)) w):=λb y=>⟨WO y,rfl⟩
   have IB:∀q',Zv (cellsOf A) q'->∃P,MV P A/\(gp P).1=q':=λq'⟨u,hu,P,iW,he⟩=>⟨P,ac7 hu iW (λJ D=>by
    rcases we with⟨gy,rfl,_,Z,_⟩|⟨Q,_⟩
    ·cases D;exact Z
    ·exact absurd D (Q J)),he⟩
   refine⟨x,_,s1,rP a i pre (qR q),undef,U,h1.sR aez,ve hI hT hd hr,?_,?_,?_,λo s2 aa w2 h2 _ _=>aeA (p:=.val q) (λ_ _=>rfl) o s2 aa w2 h2⟩
   ·refine(kb.fk h6 (λj=>j=i) (λj hz=>absurd hz (ac2 _ j))).trans ⟨λb y=>WO y,λb j Y hj y=>V3 y (λe=>hj (by cases e;rfl))⟩
   ·refine((h6.fK h.aC.new).trans ((aez (γ:=a) (i:=i) (pre:=pre) (K:=qR q)).fK h1.aC.new)).mono λq' Y hx=>?_;rcases hx with⟨hz,y⟩|⟨hz,y⟩
    ·exact .inl ⟨.inl (IB q' hz),y⟩
    ·exact .inl ⟨.inr hz,y⟩
   ·intro b k _ y;have:=h6.at' b _ _ y (λ_=>⟨⟨k,rfl⟩,rfl⟩);exact V3 this (by simp)
  rcases we with⟨J,rfl,hv,Z,ho⟩|⟨Q,oG⟩
  ·refine F [] (WN (i:=i) h3 S (.inl ⟨J,rfl,hv,Z,ho⟩) h4 h5 (some (.aw i,[])) (λ_ j=>by simp[lZ]) (λhn=>absurd rfl (hn J)))
  ·refine F [(0,0)] (WN (i:=i) h3 S (.inr ⟨Q,oG⟩) h4 h5 (some (.aw i,[(0,0)])) (λ⟨J,D⟩=>absurd D (Q J)) (λ_=>rfl))
 ·simp at U
theorem PE(h:Rel C E s g w){i:Nat}{p:Pl}{tv:TV}{t:Ty}{x:List (El t)}{hd:Value}(A:fo C s p=some (.own true t x))(D:(g.rc C w).va p=some hd){K:TS->Option R}(F:oB s p K=some r)(H:MV p tv):
  ∃u a,K u=some r/\Rel C E u {g with γ:=a} w/\Rd (bW a w) (some (.aw i,[])) (.own true t x) hd/\kb (λj=>j=i) g.γ a/\(∀ps,bw (AX ps tv) g.γ w a w)/\∀b k,g.γ b=.at (.box k) []->a b=.at (.box k) []:=by
 have y:Rd (g.rc C w) (some (gp p)) (.own true t x) hd:=by
  rcases sJ h D A with I|y
  ·cases I
  ·exact y
 obtain⟨u,a,k1,k2,k3,k4,k5⟩:=QS (n:=i) (π0:=[]) h p A rfl y F;refine⟨u,a,k1,k2,k3.stay rfl (λb e=>⟨e,rfl⟩) (λq J _ b N e=>⟨e,rfl⟩),kb.fk k4 _ (λj M=>absurd M.symm (jo p j)),λps=>?_,λb k e=>k4.at' b _ _ e (λ_=>⟨⟨k,rfl⟩,rfl⟩)⟩;exact(k4.fK h.aC.new).mono λq J hx=>.inl ⟨.inl ⟨p,H,hx.1.symm⟩,hx.2⟩
theorem aba{i k:Nat}{t:Ty}{xs:List (El t)}{s2:TS}{a:Nat->G}{w2:World}(u:Rel C E s2 {g with γ:=a} w2)(x:Rd (bW a w2) (some (.aw i,[])) (.own true t xs) (g.tm k)):
  ∃e,Rel C E (s2.raw k (.own true t xs)) {g with γ:=e} w2/\kb (λj=>j=i) a e/\bw (λq _=>q=.aw i) a w2 e w2:=by
 have y:=u.sR (γ':=bV a (.aw i) [] (.slot k) []) UT;refine⟨_,y.QT ?_,V4,V5 u.aC.new⟩;exact x.all (c':=Gs.rc C {g with γ:=bV a (.aw i) [] (.slot k) []} w2) rfl (Km (γ:=a) (i:=i) (q:=.slot k) (π:=[]) rfl rfl rfl) (KP (γ:=a) rfl rfl rfl)
theorem abb{i k c:Nat}{t:Ty}{xs:List (El t)}{y:Value}{s2:TS}{a:Nat->G}{w2:World}(A:Rel C E s2 {g with γ:=a} w2)(F:Rd (bW a w2) (some (.aw i,[])) (.own true t xs) y)(H:cellAt w2 (g.bx k) c=some y):
  ∃x,Rel C E (HQ k c (.own true t xs) s2) {g with γ:=x} w2/\kb (λj=>j=i) a x/\bw (λq _=>q=.aw i) a w2 x w2:=by
 have u:=A.sR (γ':=bV a (.aw i) [] (.box k) [(0,c)]) UT;refine⟨bV a (.aw i) [] (.box k) [(0,c)],?_,V4,V5 A.aC.new⟩;unfold HQ;split
 ·rename_i M I;refine u.RC ?_;rw[vc];have e:=u.boxes k;rw[I] at e;refine Vk (π0:=[]) (g:={g with γ:=bV a (.aw i) [] (.box k) [(0,c)]}) (γ':=bV a (.aw i) [] (.box k) [(0,c)]) e (.refl _ u.aC.new) rfl (λv J=>?_);have D:cellAt w2 (g.bx k) c=some v:=J;rw[H] at D;cases D;exact F.all (c':=Gs.rc C {g with γ:=bV a (.aw i) [] (.box k) [(0,c)]} w2) rfl (Km (γ:=a) (i:=i) (q:=.box k) (π:=[(0,c)]) rfl rfl rfl) (KP (γ:=a) rfl rfl rfl)
 ·exact u
theorem WQ{k:Nat}{u:Value}(h:(g.rc C w).va (.slot k)=some u):C.vs k=true/\g.tm k=u:=by
 simp only[Gs.rc,va] at h;split at h
 ·exact⟨by assumption,gB h⟩
 ·simp at h
theorem aeC{i k:Nat}{u:BC}{s2:TS}{a:Nat->G}{w2:World}(x:Rel C E s2 {g with γ:=a} w2)(y:Sx (Gs.rc C {g with γ:=bV a (.aw i) [] (.box k) []} w2) (.box k) (g.bx k) u):∃e,Rel C E (s2.bx k u) {g with γ:=e} w2/\kb (λj=>j=i) a e/\bw (λq _=>q=.aw i) a w2 e w2:=⟨_,(x.sR (γ':=bV a (.aw i) [] (.box k) []) UT).RC (yU.2 y),V4,V5 x.aC.new⟩
theorem abc(h:Rel C E s g w){i k:Nat}{K:aZ->Prop}(A:K []){p:bO}(x:k∈nQ [p] [TV.ptr k 0]):Rel C E ((s.kill (Pl.gK k)).bx k .none) {g with γ:=lW g.γ (.box k) (.aw i) K} w/\kb (λj=>j=i) g.γ (lW g.γ (.box k) (.aw i) K)/\
  bw (AX p (.ptr k 0)) g.γ w (lW g.γ (.box k) (.aw i) K) w/\∀b j,ptrTo j (.ptr k 0)=false->g.γ b=.at (.box j) []->lW g.γ (.box k) (.aw i) K b=.at (.box j) []:=by
 refine⟨h.apK,⟨λb a=>Qp a,λb j y u a=>Vs a (by simp)⟩,(adi h.aC.new).mono λq y hx=>.inr ⟨k,hx,x⟩,λb j u a=>Vs a (λe=>?_)⟩;cases e;simp[ptrTo] at u
theorem apL(h:Rel C E s g w){p:bO}(Nq:vn [p]=false){i:Nat}{tv:TV}{v:Value}(M:uk (g.rc C w) i tv v){K:p.T->(p.O->TS->TS)->TS->Option R}(a:arg C false p tv s K=some r):
  ∃x bk D F hd,K x bk D=some r/\Handed C E g w i p tv v x bk D F hd:=by
 cases p with
 |val q=>
  have gen:(BN C false q.mv (cellsOf tv) s λvs D=>match q.dec (xG tv vs) with|some x=>K x (λ_ s=>s) D|none=>none)=some r->∃x bk D F hd,K x bk D=some r/\Handed C E g w i (.val q) tv v x bk D F hd:=λa=>by
   simp only[BN,aH] at a
   cases hq:q.mv with
   |true=>rw[hq,aF] at a;exact aeB h M a
   |false=>rw[hq,aH] at a;exact aeB h M a
  cases tv with
  |vec t xs=>
   simp only[arg] at a;split at a
   ·rename_i x hd;refine⟨x,_,s,g.γ,undef,a,.same h ?_ (λ_ _=>rfl)⟩;have S:=M.pt rfl;cases q with
    |el t m=>
     rcases G8 hd with⟨cs,Z,_⟩|⟨cH,hd,_⟩
     ·cases Z
     ·cases t<;>simp[Ev.fP,Ev.dec] at cH hd
    |sl f t=>obtain⟨_,hd⟩:=KM hd;simp[dN] at hd
    |eM t=>have:=Kl hd;cases this
    |vec t=>
     have:=GX hd;cases this;cases S with
     |vec _ _ _ cH=>exact .vec _ _ _ cH
    |er=>rcases G9 hd with Z|⟨Z,_⟩<;>cases Z
   ·simp at a
  |_=>exact gen a
 |pb t m m'=>
  simp only[arg] at a;split at a
  ·rename_i k;split at a
   ·rename_i cs j;obtain⟨cL,J⟩:=bQ.1 a;clear a;simp only[one?] at J;split at J
    ·rename_i x hd;have S:=M.pt rfl;obtain⟨k1,k2,k3,k4⟩:=abc (i:=i) h (aex (.st t m)) (p:=.pb t m m') (k:=k) (by simp[nQ,o4]);have kI:=yU.1 (h.boxes k);have Tw:sX (.st t m) (s.box k)=some x:=by
      rw[j]
      have:(bif okF m cs then Ev.dec t cs else none:Option (El t))=some x:=bQ.2 ⟨cL,hd⟩
      exact this
     have hT:Tn (g.rc C w) (bW (lW g.γ (.box k) (.aw i) (wi (.st t m))) w) (wi (.st t m)) (.box k) [] (.aw i) []:=⟨λb π j a=>abz j a,λb π j a=>aca j a,λ_ _ _=>rfl⟩;have iH:=QZ (c:=g.rc C w) (c':=bW (lW g.γ (.box k) (.aw i) (wi (.st t m))) w) (λb j=>⟨Qp j,rfl⟩) hT Tw kI;have pn:v=qw (g.bx k):=by cases S;rfl
     refine⟨x,_,_,_,undef,J,k1,⟨g.bx k,pn,iH⟩,k2,k3,k4,λo s2 A U H _ N=>?_⟩;obtain⟨b,P,aa⟩:=N;rw[pn] at P;have lM:b=g.bx k:=by simpa using P.symm
     subst lM;exact aeC (u:=.cells (jC m' (enc false t o))) H (Hb (c:=bW A U) (c':=Gs.rc C {g with γ:=bV A (.aw i) [] (.box k) []} U) (Km (γ:=A) (i:=i) (q:=.box k) (π:=[]) rfl rfl rfl) (KP (γ:=A) rfl rfl rfl) Dr aa)
    ·simp at J
   ·simp at a
  ·simp at a
 |bd=>
  simp only[arg] at a;split at a
  ·rename_i k;split at a
   ·rename_i y j;have S:=M.pt rfl;obtain⟨k1,k2,k3,k4⟩:=abc (i:=i) (K:=λ_=>True) h trivial (p:=.bd) (k:=k) (by simp[nQ,o4]);have kI:=yU.1 (h.boxes k);rw[j] at kI;have hT:Tn (g.rc C w) (bW (lW g.γ (.box k) (.aw i) (λ_=>True)) w) (λ_=>True) (.box k) [] (.aw i) []:=⟨λb π j a=>abz j a,λb π j a=>aca j a,λ_ _ _=>rfl⟩;have iH:=Hc (c:=g.rc C w) (c':=bW (lW g.γ (.box k) (.aw i) (λ_=>True)) w) (λb j=>⟨Qp j,rfl⟩) hT kI;have pn:v=qw (g.bx k):=by cases S;rfl
    refine⟨y,_,_,_,undef,a,k1,⟨g.bx k,pn,iH⟩,k2,k3,k4,λo s2 A U H _ N=>?_⟩;obtain⟨b,P,aa⟩:=N;rw[pn] at P;have lM:b=g.bx k:=by simpa using P.symm
    subst lM;exact aeC (u:=.iG o) H (Hc (c:=bW A U) (c':=Gs.rc C {g with γ:=bV A (.aw i) [] (.box k) []} U) (Km (γ:=A) (i:=i) (q:=.box k) (π:=[]) rfl rfl rfl) (KP (γ:=A) rfl rfl rfl) aa)
   ·simp at a
  ·simp at a
 |pr t=>
  simp only[arg] at a;split at a
  ·rename_i k t0 i0;obtain⟨b,o,len,cap,Q,h1,H,S⟩:=M.ep _ _ _ _ rfl;split at a
   ·rename_i I xs hs;obtain⟨ht,J⟩:=bQ.1 a;clear a;have lL:I=t0:=by simpa using ht
    subst lL;obtain⟨e,cB⟩:=pB J;subst e;obtain⟨y,hy,lG⟩:=dw.1 cB;obtain⟨qO,en⟩:=WQ Q;have qP:fo C s (.slot k)=some (.own true I xs):=by simp only[fo];rw[aD qO,hs]
    obtain⟨D,F,m1,m2,m3,m4,m5,Y⟩:=PE (i:=i) (tv:=.ep (.slot k) I i0 0) h qP Q (K:=λD=>K (xs,i0) (λo s=>s.raw k (.own true I o)) D) lG (.ep _ _ _);refine⟨_,_,D,F,_,m1,m2,⟨m3,b,o,len,cap,rfl,h1,H,by simpa using S⟩,m4,m5 _,λb k' _ j=>Y b k' j,λou s2 A U H _ N=>?_⟩;exact aba (xs:=ou) H (by rw[en];exact N)
   ·simp at a
  ·rename_i k c t0 i0;obtain⟨b,o,len,cap,Q,h1,H,S⟩:=M.ep _ _ _ _ rfl;split at a
   ·rename_i cs j;split at a
    ·rename_i I xs hs;obtain⟨ht,J⟩:=bQ.1 a;clear a;have lL:I=t0:=by simpa using ht
     subst lL;obtain⟨e,cB⟩:=pB J;subst e;obtain⟨y,hy,lG⟩:=dw.1 cB;have qP:fo C s (.cell k c)=some (.own true I xs):=by simp only[fo,j,hs]
     obtain⟨D,F,m1,m2,m3,m4,m5,Y⟩:=PE (i:=i) (tv:=.ep (.cell k c) I i0 0) h qP Q (K:=λD=>K (xs,i0) (λo s=>HQ k c (.own true I o) s) D) (by simp only[oB,j];exact lG) (.ep _ _ _);refine⟨_,_,D,F,_,m1,m2,⟨m3,b,o,len,cap,rfl,h1,H,by simpa using S⟩,m4,m5 _,λb k' _ j=>Y b k' j,λou s2 A U H hh N=>?_⟩;have eF:=h.boxes k;rw[j] at eF;obtain⟨_,_,_,_,_,YS,_⟩:=eF;have gj:=hh (g.bx k) k rfl (Y _ _ YS);exact abb (xs:=ou) H N (by rw[mN gj];exact Q)
    ·simp at a
   ·simp at a
  ·simp at a
 |mu t=>
  simp only[arg] at a;split at a
  ·rename_i k t0;obtain⟨ab,nz,nX,we⟩:=M.cells;have Q:(g.rc C w).va (.slot k)=some v:=by
    rcases we with⟨cs,Z,_⟩|⟨_,rfl⟩
    ·cases Z
    ·exact(nX 0 _ v rfl rfl).vw _ _ rfl
   split at a
   ·rename_i I xs hs;obtain⟨e,cB⟩:=pB a;clear a;subst e;obtain⟨qO,en⟩:=WQ Q;have qP:fo C s (.slot k)=some (.own true I xs):=by simp only[fo];rw[aD qO,hs]
    obtain⟨D,F,m1,m2,m3,m4,m5,Y⟩:=PE (i:=i) (tv:=.vw (.slot k) t0) h qP Q (K:=λD=>K xs (λo s=>s.raw k (.own true I o)) D) cB (.vw _);refine⟨_,_,D,F,v,m1,m2,⟨m3,rfl⟩,m4,m5 _,λb k' _ j=>Y b k' j,λou s2 A U H _ N=>?_⟩;exact aba (xs:=ou) H (by rw[en];exact N)
   ·simp at a
  ·rename_i k c t0;obtain⟨ab,nz,nX,we⟩:=M.cells;have Q:(g.rc C w).va (.cell k c)=some v:=by
    rcases we with⟨cs,Z,_⟩|⟨_,rfl⟩
    ·cases Z
    ·exact(nX 0 _ v rfl rfl).vw _ _ rfl
   split at a
   ·rename_i cs j;split at a
    ·rename_i I xs hs;obtain⟨e,cB⟩:=pB a;clear a;subst e;have qP:fo C s (.cell k c)=some (.own true I xs):=by simp only[fo,j,hs]
     obtain⟨D,F,m1,m2,m3,m4,m5,Y⟩:=PE (i:=i) (tv:=.vw (.cell k c) t0) h qP Q (K:=λD=>K xs (λo s=>HQ k c (.own true I o) s) D) (by simp only[oB,j];exact cB) (.vw _);refine⟨_,_,D,F,v,m1,m2,⟨m3,rfl⟩,m4,m5 _,λb k' _ j=>Y b k' j,λou s2 A U H hh N=>?_⟩;have eF:=h.boxes k;rw[j] at eF;obtain⟨_,_,_,_,_,YS,_⟩:=eF;have gj:=hh (g.bx k) k rfl (Y _ _ YS);exact abb (xs:=ou) H N (by rw[mN gj];exact Q)
    ·simp at a
   ·simp at a
  ·simp at a
 |rp t=>
  simp only[arg] at a;split at a
  ·simp only[one?] at a;split at a
   ·rename_i x hd;exact⟨x,_,s,g.γ,undef,a,.same h (Xy (c:=g.rc C w) (c':=bW g.γ w) ahf hd (M.pt rfl)) (λ_ _=>rfl)⟩
   ·simp at a
  ·simp at a
 |fn gg ts=>
  cases ts with
  |cons t ts=>simp[vn] at Nq
  |nil=>
   simp only[arg] at a;split at a
   ·rename_i g' cap;obtain⟨hg,J⟩:=bQ.1 a;clear a;have hg:=gr hg;subst hg;have h0:=M.pt rfl;cases cap with
    |cons c cap=>simp[lD] at J
    |nil=>
     simp only[lD] at J;refine⟨_,_,s,g.γ,undef,J,.same h ?_ (λ_ _=>rfl)⟩;exact KO (c:=g.rc C w) (.inl ⟨gg,[],(),rfl⟩) ahf h0
   ·simp at a
end
end
section
theorem adj{c:Rc}{a e:Nat->Value}:∀{ps:List bO}{i:Nat}{x:qJ ps}{vs:List Value},(∀j,i<=j->a j=e j)->tc c a i ps x vs->tc c e i ps x vs|[],_,_,_,_,h=>h|_::_,_,_,[],_,h=>h.elim|p::ps,i,x,v::vs,u,h=>⟨by rw[<-u i (iI _)];exact h.1,adj (λj y=>u j (by omega)) h.2⟩
theorem adk{c:Rc}{a e:Nat->Value}:∀{ps:List bO}{i:Nat}{x:pV ps}{vs:List Value},(∀j,i<=j->a j=e j)->Ew c a i ps x vs->Ew c e i ps x vs|[],_,_,_,_,h=>h|_::_,_,_,[],_,h=>h.elim|p::ps,i,x,v::vs,u,h=>⟨by rw[<-u i (iI _)];exact h.1,adk (λj y=>u j (by omega)) h.2⟩
def AXs(ps:List bO)(vs:List TV)(q:Rt)(e:aZ):Prop:=(((∃j∈vs,∃a,MV a j/\(gp a).1=q)\/∃n,q=.aw n)/\¬ lU q e)\/∃k,q=.box k/\k∈nQ ps vs
theorem acb(p:bO)(ps:List bO)(v:TV)(vs:List TV):nQ (p::ps) (v::vs)=nQ [p] [v]++nQ ps vs:=by cases p<;>simp[nQ]
theorem alS{p:bO}{ps:List bO}(h:vn (p::ps)=false):vn [p]=false/\vn ps=false:=by
 cases p with
 |fn g a=>cases a<;>simp_all [vn]
 |_=>exact⟨rfl,h⟩
theorem an0{p:bO}{v:TV}{vs:List TV}{k:Nat}(h:R0 p v vs=false)(a:cb p v=some k):pJ k vs=false:=by
 unfold cb at a;split at a
 ·cases a;exact h
 ·cases a;exact h
 ·simp at a
section
variable{C:Cx}{E:Env}{s:TS}{g:Gs}{w:World}{R:Type}{r:R}
theorem adl:∀(ps:List bO)(vs:List TV)(a:List Value)(i:Nat){s:TS}{g:Gs}{K:qJ ps->(pV ps->TS->TS)->TS->Option R},Rel C E s g w->vn ps=false->a.length=vs.length->(∀(j:Nat)P v,vs[j]?=some P->a[j]?=some v->uk (g.rc C w) (i+j) P v)->args C false ps vs s K=some r->
  ∃x bk s' D F,K x bk s'=some r/\Rel C E s' {g with γ:=D} w/\tc (bW D w) F i ps x a/\kb (λj=>i<=j/\j<i+ps.length) g.γ D/\bw (AXs ps vs) g.γ w D w/\(∀b k,pJ k vs=false->g.γ b=.at (.box k) []->D b=.at (.box k) [])/\
   ∀o s2 A J,Rel C E s2 {g with γ:=A} J->(∀b k,D b=.at (.box k) []->J.heap[b]?=w.heap[b]?)->Ew (bW A J) F i ps o a->
    ∃Q,Rel C E (bk o s2) {g with γ:=Q} J/\kb (λj=>i<=j/\j<i+ps.length) A Q/\bw (λq _=>∃n,q=.aw n) A J Q J
 |[],[],a,i,s,g,K,h,_,S,_,e=>⟨(),_,s,g.γ,λ_=>undef,e,h,by simpa[tc] using S,.refl _ _,.refl _ h.aC.new,λ_ _ _ y=>y,λo s2 A J I _ _=>⟨A,I,.refl _ _,.refl _ I.aC.new⟩⟩
 |[],_::_,_,_,_,_,K,_,_,_,_,e=>by simp[args] at e
 |_::_,[],_,_,_,_,K,_,_,_,_,e=>by simp[args] at e
 |p::ps,v::vs,[],i,_,_,K,_,_,S,_,e=>by simp at S
 |p::ps,v::vs,u::a,i,s,g,K,h,Nq,S,ha,e=>by
  simp only[args] at e;cases M:R0 p v vs with
  |true=>rw[M] at e;simp at e
  |false=>
   rw[M,aH] at e;obtain⟨jV,EO⟩:=alS Nq;obtain⟨x,bk,s1,aa,hd,e,N⟩:=apL h jV (ha 0 v u rfl rfl) e;obtain⟨xs,Tc,s2,A,F,e,U,I,h3,h4,h5,h6⟩:=adl ps vs a (i+1) (g:={g with γ:=aa}) N.rel EO (by simpa using S) (λj P w H hw=>by
    have:=ha (j+1) P w (by simpa using H) (by simpa using hw)
    rw[show i+1+j=i+(j+1) by omega]
    exact this.Cf N.ev (by omega)) e;have Y:∀j,i+1<=j->F j=(λj=>if j=i then hd else F j) j:=λj H=>by simp only[];rw[aE (by omega)]
   refine⟨(x,xs),_,s2,A,λj=>if j=i then hd else F j,e,U,⟨?_,adj Y I⟩,?_,?_,?_,?_⟩
   ·have:=N.prd.Cf (c':=bW A w) (λb y=>⟨h3.im b y,rfl⟩) (λb Z y=>⟨h3.aw b i Z (by omega) y,rfl⟩);simpa using this
   ·refine(N.ev.mono (λj H=>?_)).trans (h3.mono λj H=>?_)
    ·subst H;simp
    ·simp only[fD];omega
   ·refine(N.fK.trans h4).mono λq Z hx=>?_;rcases hx with(⟨hx,y⟩|⟨k,hx,y⟩)|(⟨hx,y⟩|⟨k,hx,y⟩)
    ·refine .inl ⟨?_,y⟩;rcases hx with⟨p',U,I⟩|hx
     ·exact .inl ⟨v,by simp,p',U,I⟩
     ·exact .inr hx
    ·exact .inr ⟨k,hx,by rw[acb];exact cU.2 (.inl y)⟩
    ·refine .inl ⟨?_,y⟩;rcases hx with⟨P,a8,p',U,I⟩|hx
     ·exact .inl ⟨P,by simp[a8],p',U,I⟩
     ·exact .inr hx
    ·exact .inr ⟨k,hx,by rw[acb];exact cU.2 (.inr y)⟩
   ·intro b k e y;simp only[pJ] at e;cases hp:ptrTo k v with
    |true=>rw[hp] at e;simp at e
    |false=>rw[hp,aH] at e;exact h5 b k e (N.top b k hp y)
   ·intro o s3 Q w3 h7 h8 h9;obtain⟨yb,m1,m2,m3⟩:=h6 o.2 s3 Q w3 h7 h8 (adk (λj H=>(Y j H).symm) h9.2);obtain⟨ab,n1,n2,n3⟩:=N.back o.1 (Tc o.2 s3) yb w3 m1 (λb k hc y=>h8 b k (h5 b k (an0 M hc) y)) (by
     have:=h9.1.Cf (c':=bW yb w3) (λb y=>⟨m2.im b y,rfl⟩) (λb Z y=>⟨m2.aw b i Z (by omega) y,rfl⟩)
     simpa using this);refine⟨ab,n1,(m2.mono (λj H=>?_)).trans (n2.mono λj H=>?_),(m3.trans n3).mono λq Z hx=>?_⟩
    ·simp only[fD];omega
    ·subst H;simp
    ·rcases hx with hx|hx
     ·exact hx
     ·exact⟨i,hx⟩
theorem Rel.apM(h:Rel C E s g w){n d b:Nat}{u:List TV}(a:∀H∈u,bC H=true)(I:xw (bW g.γ w) (.aw n) b u):
  Rel C E ((s.fq d).bx d (.cells u)) ⟨bV g.γ (.aw n) [] (.box d) [],λk=>if k=d then b else g.bx k,g.tm⟩ w:=by
 have x:bw (cW (.aw n) []) g.γ w (bV g.γ (.aw n) [] (.box d) []) w:=ri h.aC.new;have J:∀j p,MV p ((s.fq d).slot j)->(gp p).1≠.box d:=λj p a M=>by
  rw[GF] at a
  have D:=(xc (acW a)).2
  rw[yR.2 M] at D
  cases D
 refine(h.fq d).pf (X:=cW (.aw n) []) (g':=⟨bV g.γ (.aw n) [] (.box d) [],λk=>if k=d then b else g.bx k,g.tm⟩) x (λj=>.inr ⟨rfl,rfl,(λp hx=>by simp[cW] at hx),⟨λk F=>?_,λp a=>?_,λp a π hx=>absurd hx.1 (jo p n)⟩⟩) (λj=>?_)
 ·rw[GF] at F;have:=(acV F).2;simp[this]
 ·have:=λy=>oU (C:=C) (g:=g) (g':=⟨bV g.γ (.aw n) [] (.box d) [],λk=>if k=d then b else g.bx k,g.tm⟩) x p y (qj x λq N _ hx=>by
    have:=(sF N).1
    rw[hx.1] at this
    exact absurd this.symm (jo p n)) (λ_ _ _=>rfl) (λP Q=>⟨by
     have:P≠d:=λe=>J j p a (by rw[DE.1 Q,e])
     simp[this],λhx=>by simp[cW] at hx⟩);have S:=(h.fq d).eK j;exact⟨(this (S.xv a)).1,λy=>(this y).2⟩
 ·by_cases A:j=d
  ·subst A
   left
   rcases yJ (s.fq j) j (.cells u) with e|e<;>rw[e]
   ·have:=Hb (c:=bW g.γ w) (c':=Gs.rc C ⟨bV g.γ (.aw n) [] (.box j) [],λk=>if k=j then b else g.bx k,g.tm⟩ w) (Km (γ:=g.γ) (i:=n) (q:=.box j) (π:=[]) rfl rfl rfl) (KP (γ:=g.γ) rfl rfl rfl) a I;have U:(Gs.rc C ⟨bV g.γ (.aw n) [] (.box j) [],λk=>if k=j then b else g.bx k,g.tm⟩ w).bx j=b:=by simp[Gs.rc]
    show xw _ (.box j) _ u;rw[U];exact this
   ·trivial
  ·exact .inr ⟨yI _ _ A,by simp[A],λp hx=>by simp[cW] at hx⟩
theorem arf(h:Rel C E s g w){n:Nat}{j:Option Nat}{rs:List ea}{x:kt rs}{v:Value}{J:TS}(y:uG (bW g.γ w) n rs x v)(a:BO C j rs x s=some J):
  ∃D,Rel C E J D w/\D.tm=(g.put j v).tm/\(∀k,j≠some k->D.bx k=g.bx k)/\bw (λq _=>q=.aw n) g.γ w D.γ w:=by
 have gen:Rd (bW g.γ w) (some (.aw n,[])) (pack (fQ rs x)) v->some (cz C s j (pack (fQ rs x)))=some J->(∀tv,tv=pack (fQ rs x)->(∀p,¬ MV p tv)/\∀k,¬ MB k tv)->∃D,Rel C E J D w/\D.tm=(g.put j v).tm/\(∀k,j≠some k->D.bx k=g.bx k)/\bw (λq _=>q=.aw n) g.γ w D.γ w:=λy a Y=>by
  obtain⟨n1,n2⟩:=Y _ rfl
  have Z:Rd (g.rc C w) (some (.aw n,[])) (pack (fQ rs x)) v:=y.same (λb I=>⟨I,rfl⟩) (λq p _ b π I=>⟨I,rfl⟩) (λk a=>absurd a (n2 k)) (λp F=>absurd F (n1 p)) (λp F=>absurd F.mv (n1 p))
  obtain⟨N,M,P⟩:=h.put (d:=j) Z
  cases a
  refine⟨_,M,?_,λk _=>by rw[Lt],?_⟩
  ·cases j<;>rfl
  ·rw[Ls];exact(P.fK h.aC.new).mono λq p hx=>hx.1
 have Q:∀(rs:List ea)(x:kt rs)tv,tv∈fQ rs x->ik tv=true:=by
  intro rs
  induction rs with
  |nil=>intro x tv A;simp[fQ] at A
  |cons r rs S=>
   intro x tv A
   cases r with
   |val q=>
    simp only[fQ,cO] at A
    rcases A with rfl|A
    ·exact(Hz q x.1).1
    ·exact S _ _ A
   |nb t m=>
    simp only[fQ,cO] at A;rcases A with rfl|A
    ·rfl
    ·exact S _ _ A
 have H:∀tv,tv=pack (fQ rs x)->(∀p,¬ MV p tv)/\∀k,¬ MB k tv:=λtv A=>by
  subst A
  have:=Q rs x
  match hL:fQ rs x,this with
  |[u],this=>
   have U:ik u=true:=this u (by simp)
   exact⟨λp=>u9 U p,λk=>Hq U k⟩
  |[],_=>exact⟨(λp F=>by cases F),λk a=>by cases a⟩
  |_::_::_,_=>exact⟨(λp F=>by cases F),λk a=>by cases a⟩
 match rs,x,y,a,gen,H with
 |[.nb t m],x,y,a,gen,_=>
  obtain⟨b,hv,I⟩:=y;clear gen Q;cases j with
  |none=>simp[BO] at a
  |some d=>
   simp only[BO] at a;split at a
   ·have a:=gB a;have M:=h.apM (d:=d) Dr I;have F:Rd (Gs.rc C ⟨bV g.γ (.aw n) [] (.box d) [],λk=>if k=d then b else g.bx k,g.tm⟩ w) (some (.aw n,[])) (.ptr d 0) v:=by
     have:=Rd.ptr (c:=Gs.rc C ⟨bV g.γ (.aw n) [] (.box d) [],λk=>if k=d then b else g.bx k,g.tm⟩ w) (some (.aw n,[])) d 0
     rw[hv]
     simpa[Gs.rc] using this
    obtain⟨N,P,h3⟩:=M.put (d:=some d) F;subst a;refine⟨_,P,rfl,λk a=>?_,?_⟩
    ·rw[Lt];have:k≠d:=λe=>a (by rw[e]);simp[this]
    ·rw[Ls];exact((ri h.aC.new (q1:=.aw n) (p1:=[]) (q2:=.box d) (p2:=[])).trans (h3.fK M.aC.new)).mono λq p hx=>hx.elim (λhx=>hx.1) (λhx=>hx.1)
   ·simp at a
 |[],x,y,a,gen,H=>exact gen y a H
 |[.val q],x,y,a,gen,H=>exact gen y a H
 |.val q::r2::rs,x,y,a,gen,H=>exact gen y a H
 |.nb t m::r2::rs,x,y,a,gen,H=>exact gen y a H
end
end
def nk:TV->Bool|.bJ _ _=>false|.eM _ _=>false|.own d t _=>bif flat t then true else d|_=>true
def vj:TV->Bool|.agg a=>a.all nk|v=>nk v
def Bj:TV->Bool|.dM vs=>vs.all vj|v=>vj v
theorem an1{t:Ty}(h:flat t=true)(d:Bool)(x:El t):∀a∈enc d t x,nk a=true:=by
 cases t<;>simp_all [flat,enc,nk]
theorem amE(t:Ty)(x:El t):∀a∈enc true t x,nk a=true:=by
 cases t<;>simp[enc,sc,nk]
theorem Rd.nk{c D:Rc}{m:Option Gp}{y:TV}{v:Value}(h:Rd c m y v):bC y=true->Sd.nk y=true->(∀q p,m=some (q,p)->∀b C,c.γ b=.at q (p++C)->D.γ b=.at q (p++C)/\D.w.heap[b]?=c.w.heap[b]?)->Rd D m y v:=by
 induction h with
 |b m x=>intros;exact .b _ _
 |i m k n=>intros;exact .i _ _ _
 |s m x=>intros;exact .s _ _
 |nil m=>intros;exact .nil _
 |gU m a=>intros;exact .gU _ _
 |j6 m d t a=>intros;exact .j6 _ _ _ _
 |kY q p d t xs b o cap M e fr f N P Q R S U hr Y=>
  intro _ u F;obtain⟨E,H⟩:=F q p rfl b [tg t] P;refine .kY _ _ _ _ _ _ _ _ M e fr f N E (H.trans Q) R S (λr x j y hx A=>by rw[mN H];exact U r x j y hx A) (λr x j y hx A=>?_);refine Y r x j y hx A (fg A) ?_ (λq2 p2 I b2 C Z=>?_)
  ·simp only[Sd.nk] at u;cases J:flat t with
   |true=>exact an1 J d x y (dH A)
   |false=>rw[J,aH] at u;subst u;exact amE t x y (dH A)
  ·simp only[aQ,cZ] at I;obtain⟨rfl,rfl⟩:=I;have:=F q p rfl b2 (((r:Int),cj t j)::C) (by simpa using Z);simpa using this
 |lE _ _ _ _=>intro _ u _;simp[Sd.nk] at u
 |pP=>intro _ u _;simp[Sd.nk] at u
 |sZ=>intro _ u _;simp[Sd.nk] at u
 |s7=>intro _ u _;simp[Sd.nk] at u
 |_=>intro hp;simp[bC] at hp
theorem Rd.afL{c e:Rc}{m:Option Gp}{a:TV}{v:Value}(h:Rd c m a v)(j:eE a=true)(x:Sd.nk a=true)(y:∀q p,m=some (q,p)->∀b u,c.γ b=.at q (p++u)->e.γ b=.at q (p++u)/\e.w.heap[b]?=c.w.heap[b]?):Rd e m a v:=by
 rcases afp j with j|rfl
 ·exact h.nk j x y
 ·exact .un _ _
theorem aeD{c e:Rc}{m:Option Gp}{j:Nat}(x:∀q p,m=some (q,p)->∀b a,c.γ b=.at q (p++a)->e.γ b=.at q (p++a)/\e.w.heap[b]?=c.w.heap[b]?):∀q p,lZ m 0 j=some (q,p)->∀b a,c.γ b=.at q (p++a)->e.γ b=.at q (p++a)/\e.w.heap[b]?=c.w.heap[b]?:=by
 intro q p u b a y;cases m with
 |none=>simp[lZ] at u
 |some g=>
  obtain⟨A,C⟩:=g;simp only[lZ,jA,aQ,cZ] at u;obtain⟨rfl,rfl⟩:=u;have:=x _ _ rfl b ((0,j)::a) (by simpa using y);simpa using this
theorem Rd.WR{c u:Rc}{m:Option Gp}{a:TV}{v:Value}(h:Rd c m a v)(y:ik a=true)(F:∀e,a≠.dM e)(A:Sd.vj a=true)(D:∀q p,m=some (q,p)->∀b E,c.γ b=.at q (p++E)->u.γ b=.at q (p++E)/\u.w.heap[b]?=c.w.heap[b]?):Rd u m a v:=by
 cases a with
 |agg e=>
  cases h with
  |agg _ _ vs H I J M=>
   simp only[ik,jJ] at y;simp only[Sd.vj,jJ] at A;exact .agg _ _ _ H I J (λj a v C N=>(M j a v C N).afL (y a (dH C)) (A a (dH C)) (aeD D))
 |vec t Q=>cases h with|vec _ _ _ P=>exact .vec _ _ _ P
 |er x=>cases h with|vP _ t x=>exact .vP _ _ _|vQ=>exact .vQ _
 |mY=>cases h;exact .mY _
 |dM e=>exact absurd rfl (F e)
 |_=>exact h.afL (by simpa[ik] using y) A D
theorem Rd.Bj{c x:Rc}{m:Option Gp}{a:TV}{v:Value}(h:Rd c m a v)(C:ik a=true\/∃e,a=.dM e)(u:Sd.Bj a=true)(y:∀q p,m=some (q,p)->∀b D,c.γ b=.at q (p++D)->x.γ b=.at q (p++D)/\x.w.heap[b]?=c.w.heap[b]?):Rd x m a v:=by
 cases a with
 |dM e=>
  cases h with
  |dM _ _ vs E H I=>
   simp only[Sd.Bj,jJ] at u;refine .dM _ _ _ E H (λj a v A J=>?_);have F:=E a (dH A);exact(I j a v A J).WR F (λe M=>by subst M;simp[ik,eE,bC] at F) (u a (dH A)) (aeD y)
 |agg e=>exact h.WR (C.resolve_right (by simp)) (by simp) u y
 |_=>exact h.WR (C.resolve_right (by simp)) (by simp) u y
def zh:TV->Bool|.bJ _ _=>true|_=>false
theorem amF(t:Ty)(x y:El t):(enc false t x).map zh=(enc false t y).map zh:=by cases t<;>rfl
theorem WS:∀{m:List Fl}{u:List TV}{j:Nat}{c:TV},pY m u=true->u[j]?=some c->zh c=true->rO m j=.d
 |m,[],j,c,_,h,_=>by simp at h
 |[],e::u,j,c,a,h,x=>by
  exfalso;cases j with
  |zero=>simp at h;subst h;cases e<;>simp[zh] at x;simp[pY] at a
  |succ j=>
   have:pY [] u=true:=by cases e<;>simp[pY] at a<;>exact a
   have:=WS this (by simpa using h) x;simp[rO] at this
 |f::m,e::u,j,c,a,h,x=>by
  cases j with
  |zero=>
   simp at h;subst h;cases f with
   |d=>rfl
   |l=>cases e<;>simp[zh] at x;simp[pY] at a
   |s=>cases e<;>simp[zh] at x;simp[pY] at a
  |succ j=>
   have:pY m u=true:=by
    cases f with
    |d=>simpa[pY] using a
    |l=>cases e<;>simp[pY] at a<;>exact a
    |s=>cases e<;>simp[pY] at a<;>exact a
   exact WS (m:=m) this (by simpa using h) x
theorem abA{m:List Fl}{t:Ty}(E:pY m (enc false t (rV t))=true)(x:El t):∀A∈jC m (enc false t x),nk A=true:=λA F=>by
 obtain⟨j,a⟩:=Oq.1 F;rw[KK] at a;cases e:(enc false t x)[j]? with
 |none=>rw[e] at a;simp at a
 |some b=>
  rw[e] at a;simp only[jA,aQ] at a;subst a;have u:=congrArg (λl=>l[j]?) (amF t x (rV t));simp only[ir,e,jA] at u;cases hz:(enc false t (rV t))[j]? with
  |none=>rw[hz] at u;simp at u
  |some z=>
   rw[hz] at u;simp only[jA,aQ] at u;cases C:zh b with
   |true=>
    have H:=WS E hz (u ▸C);rw[H];cases b<;>simp[zh] at C;simp[zK,nk]
   |false=>
    have I:=fg e;have M:=vd e;have y:∀D xs,b≠.eM D xs:=λD xs J=>by
     subst J
     have:=dH e
     revert this
     cases t<;>simp[enc,sc]
    cases b<;>first|(exact absurd rfl (y _ _))|(simp_all [zh,bC,iB]<;>(cases rO m j<;>rfl))
theorem amG{q:VS}(h:zL q=true)(x:q.T):vj (q.enc x)=true:=by
 cases q with
 |el t m=>
  rw[Le];cases a:Ev.fP t with
  |true=>rw[aD rfl];simp only[vj,jJ];exact abA h x
  |false=>cases t<;>simp[Ev.fP] at a<;>rfl
 |sl f t=>
  cases f with
  |l=>simp[zL] at h
  |s=>
   have h:flat t=true:=h;show vj (.own (flat t) t x)=true;simp[vj,nk,h]
  |d=>show vj (.own true t x)=true;simp[vj,nk]
 |eM t=>simp[zL] at h
 |vec t=>rfl
 |er=>rfl
theorem U6:∀{rs:List ea}{x:kt rs},uf rs=true->∀e∈fQ rs x,ik e=true/\vj e=true
 |[],_,_,e,h=>by simp[fQ] at h
 |.val q::rs,x,a,e,h=>by
  simp only[uf] at a;obtain⟨y,u⟩:zL q=true/\uf rs=true:=by
   cases j:zL q with
   |true=>rw[j,aF] at a;exact⟨rfl,a⟩
   |false=>rw[j] at a;simp at a
  simp only[fQ,cO] at h;rcases h with rfl|h
  ·exact⟨(Hz q x.1).1,amG y x.1⟩
  ·exact U6 u e h
 |.nb t m::rs,x,a,e,h=>by
  simp only[uf] at a;have u:uf rs=true:=by
   cases j:zL (.el t m) with
   |true=>rw[j,aF] at a;exact a
   |false=>rw[j] at a;simp at a
  simp only[fQ,cO] at h;rcases h with rfl|h
  ·exact⟨rfl,rfl⟩
  ·exact U6 u e h
theorem uG.fresh{c A:Rc}{n:Nat}{rs:List ea}{x:kt rs}{v:Value}(h:uG c n rs x v)(a:uf rs=true)(F:∀b y,c.γ b=.at (.aw n) y->A.γ b=.at (.aw n) y/\A.w.heap[b]?=c.w.heap[b]?):uG A n rs x v:=by
 have M:∀q p,(some (Rt.aw n,([]:aZ)):Option Gp)=some (q,p)->∀b y,c.γ b=.at q (p++y)->A.γ b=.at q (p++y)/\A.w.heap[b]?=c.w.heap[b]?:=λq p D b y N=>by
  simp only[aQ,cZ] at D
  obtain⟨rfl,rfl⟩:=D
  exact F b _ N
 have gen:Rd c (some (.aw n,[])) (pack (fQ rs x)) v->Rd A (some (.aw n,[])) (pack (fQ rs x)) v:=λh=>by
  have E:=U6 (x:=x) a
  match hL:fQ rs x,E,h with
  |[u],E,h=>
   obtain⟨H,P⟩:=E u (by simp)
   refine h.Bj (.inl H) ?_ M
   show Sd.Bj u=true
   cases u<;>first|exact P|simp[ik,eE,bC] at H
  |[],_,h=>exact h.Bj (.inr ⟨[],rfl⟩) rfl M
  |u1::S::U,E,h=>exact h.Bj (.inr ⟨u1::S::U,rfl⟩) (by simp only[pack,Sd.Bj,jJ];exactλC Y=>(E C Y).2) M
 match rs,x,h,a,gen with
 |[.nb t m],x,h,a,gen=>
  obtain⟨b,I,vs,e,fr,H,P,Q,Z,h5,h6⟩:=h;have qS:pY m (enc false t (rV t))=true:=by
   simp only[uf] at a
   cases R:zL (.el t m) with
   |true=>exact R
   |false=>rw[R] at a;simp at a
  refine⟨b,I,vs,e,fr,((F b [] Q).2).trans H,P,(F b [] Q).1,Z,h5,λj C v J I=>⟨(h6 j C v J I).1,?_⟩⟩;refine(h6 j C v J I).2.nk (Dr C (dH J)) (abA qS x.1 C (dH J)) (λq p D b y N=>?_);simp only[aQ,cZ] at D;obtain⟨rfl,rfl⟩:=D;exact F b _ N
 |[],x,h,a,gen=>exact gen h
 |[.val q],x,h,a,gen=>exact gen h
 |.val q::r2::rs,x,h,a,gen=>exact gen h
 |.nb t m::r2::rs,x,h,a,gen=>exact gen h
theorem uG.Cf{c c':Rc}{n:Nat}{rs:List ea}{x:kt rs}{v:Value}(h:uG c n rs x v)(C:kx c c')(F:∀b e,c.γ b=.at (.aw n) e->c'.γ b=.at (.aw n) e/\c'.w.heap[b]?=c.w.heap[b]?):uG c' n rs x v:=by
 have H:∀q p,(some (Rt.aw n,([]:aZ)):Option Gp)=some (q,p)->∀b e,c.γ b=.at q (p++e)->c'.γ b=.at q (p++e)/\c'.w.heap[b]?=c.w.heap[b]?:=λq p I b e j=>by
  simp only[aQ,cZ] at I
  obtain⟨rfl,rfl⟩:=I
  exact F b _ j
 have M:∀(rs:List ea)(x:kt rs)D,D∈fQ rs x->ik D=true:=by
  intro rs
  induction rs with
  |nil=>intro x D a;simp[fQ] at a
  |cons r rs J=>
   intro x D a
   cases r with
   |val q=>
    simp only[fQ,cO] at a
    rcases a with rfl|a
    ·exact(Hz q x.1).1
    ·exact J _ _ a
   |nb t m=>
    simp only[fQ,cO] at a;rcases a with rfl|a
    ·rfl
    ·exact J _ _ a
 have gen:Rd c (some (.aw n,[])) (pack (fQ rs x)) v->Rd c' (some (.aw n,[])) (pack (fQ rs x)) v:=λh=>by
  have E:=M rs x
  match Q:fQ rs x,E,h with
  |[u],E,h=>exact h.stay (E u (by simp)) C H
  |[],_,h=>exact h.same C H (λk A=>by cases A) (λp y=>by cases y) (λp y=>by cases y)
  |u1::R::S,E,h=>exact h.same C H (λk A=>by cases A) (λp y=>by cases y) (λp y=>by cases y)
 match rs,x,h,gen with
 |[.nb t m],x,h,gen=>
  obtain⟨b,N,j⟩:=h;exact⟨b,N,Hb C ⟨λb e j _=>(F b _ j).1,λb e _ A=>absurd trivial A,λb e j=>(F b _ j).2⟩ Dr j⟩
 |[],x,h,gen=>exact gen h
 |[.val q],x,h,gen=>exact gen h
 |.val q::P::rs,x,h,gen=>exact gen h
 |.nb t m::P::rs,x,h,gen=>exact gen h
section
def CX(C:Cx)(f:Nat)(vs:List TV)(q:Rt)(j:aZ):Prop:=∃c,C.fn f (Bc vs)=some c/\((((c.km=false/\∃u∈vs,∃e,MV e u/\(gp e).1=q)\/∃n,q=.aw n)/\¬ lU q j)\/∃k,q=.box k/\k∈nQ c.ps vs)
def Ed(γ e:Nat->G):Nat->G:=λb=>match γ b with|.at q p=>.at q p|_=>e b
section
variable{P:Program}{C:Cx}{E:Env}{nt:Nat}{o:Oper}{s:TS}{g:Gs}{a:Act}{w:World}{R:Type}{r:R}{K:TS->Option R}
theorem agE(h:Rel C E s g w){e:Nat->G}(u:∀b,g.γ b=.im->e b=.im):Ey C.gl C.gb e w:=⟨λi=>(h.gl i).same (λb x=>⟨u b x,rfl⟩) (λ_ _ h=>by simp at h) (λk y=>absurd y ((h.l9 i).2 k)) (λp j=>absurd j ((h.l9 i).1 p)) (λp j=>absurd j.mv ((h.l9 i).1 p)),λi o hi=>⟨u i (h.gb i o hi).1,(h.gb i o hi).2⟩⟩
theorem an2(hF:uj P C)(h:Rel C E s g w)(l:cD nt g a)(hd:gN nt o.dst){vs:List TV}{vals:List Value}{f:Nat}(hl:vals.length=vs.length)(ha:∀(j:Nat)tv v,vs[j]?=some tv->vals[j]?=some v->uk (g.rc C w) (0+j) tv v)
  (gh:Enters P f->(execOp a.eval o).run P w=.ok (.enter f vals.toArray) w)(A:HR C f vs s o.dst K=some r):
  ∃I,K I=some r/\zt P o a w (λa' w'=>∃g',Out C E nt (CX C f vs) o.dst (λk=>o.dst=some k) g w I a' w' g'):=by
 simp only[HR] at A;cases hc:C.fn f (Bc vs) with
 |none=>rw[hc] at A;simp at A
 |some c=>
  rw[hc] at A;obtain⟨N,gV⟩:=bQ.1 A;clear A;obtain⟨Nr,aa⟩:=hF.ok _ _ _ hc;have ab:∀{s3:TS}{y:c.X}{I:TS},BO C o.dst c.rs (c.back y).1 s3=some I->∀{S:Nat->G}{w':World}{v:Value},Rel C E s3 {g with γ:=S} w'->uG (bW S w') c.ps.length c.rs (c.back y).1 v->bw (CX C f vs) g.γ w S w'->
    ∃g',Out C E nt (CX C f vs) o.dst (λk=>o.dst=some k) g w I (a.put o.dst v) w' g':=λ{s3 y I}M{S w' v}h3 hR D=>by
   obtain⟨g',h4,h5,h6,h7⟩:=arf (g:={g with γ:=S}) h3 hR M
   refine⟨g',h4,?_,(D.trans h7).mono λq p hx=>?_,λk A=>?_,λk A=>by rw[h6 k A]⟩
   ·have l1:cD nt {g with γ:=S} a:=l.same rfl;exact(l1.put hd (v:=v)).same h5
   ·rcases hx with hx|hx
    ·exact hx
    ·refine⟨c,hc,.inl ⟨.inr ⟨_,hx⟩,?_⟩⟩;rintro⟨⟨k,A⟩,_⟩;rw[hx] at A;cases A
   ·rw[h5];exact RD {g with γ:=S} o.dst v k A
  have ZO:∀{q:Rt}{π:aZ},(∃n,q=.aw n)->¬ lU q π:=λ{q π}⟨n,hn⟩⟨⟨k,A⟩,_⟩=>by rw[hn] at A;cases A
  cases H:c.km with
  |true=>
   rw[H] at gV;simp only[Xr,H,aF] at N;obtain⟨zV,oH⟩:uf c.rs=true/\sP c.ps=true:=by
    cases U:uf c.rs with
    |true=>rw[U,aF] at N;exact⟨rfl,N⟩
    |false=>rw[U] at N;simp at N
   obtain⟨x,bk,cB,am,Ns⟩:=ab9 h c.ps vs vals 0 oH hl ha gV;obtain⟨y,hy,J⟩:=dw.1 cB;rw[am] at J;cases M:BO C o.dst c.rs (c.back y).1 s with
   |none=>rw[M] at J;simp at J
   |some I=>
    rw[M] at J;refine⟨I,J,λnext Q U=>?_⟩;have Z:=aa (jQ g.γ) w vals (λ_=>undef) x y (λb u=>ade (h.aC.new b u)) (agE h λb u=>Ha u) (Ns _) hy;unfold Oper.wp;rw[gh Nr,Oper.upon_enter];refine Z.mono λe w' hw=>?_;obtain⟨v,F,rfl,D,hR,_⟩:=hw;refine U _ _ ?_;have hold:∀b q p,g.γ b=.at q p->b<w.heap.size:=λb q p u=>Jf λhn=>by rw[h.aC.new b hn] at u;cases u
    have BR:bw (λq _=>∃n,q=.aw n) g.γ w (Ed g.γ F) w':=by
     refine⟨λb u=>?_,λb q p u _=>?_,λb ao u=>?_,D.size,λb u=>?_,D.tape,D.os,D.output⟩
     ·obtain⟨Y,h2⟩:=D.im b (Ha u);exact⟨by simp only[Ed,u];exact Y,h2⟩
     ·obtain⟨Y,h2⟩:=D.im b (KN u);exact⟨by simp only[Ed,u],h2⟩
     ·obtain⟨Y,h2⟩:=D.fr b ao (ade u);exact⟨by simp only[Ed,u];exact Y,h2⟩
     ·have dS:w.heap.size<=b:=Fh D.size u;have:=h.aC.new b dS;simp only[Ed,this];exact D.new b u
    have h3:=h.grow BR (λq p hx=>hx);refine ab M h3 (hR.fresh zV λb π u=>⟨?_,rfl⟩) (BR.mono λq p hx=>⟨c,hc,.inl ⟨.inr hx,ZO hx⟩⟩);have dS:F b=.at (.aw c.ps.length) π:=u;show Ed g.γ F b=_;unfold Ed;split
    ·rename_i q p hg;exfalso;have:=(D.im b (KN hg)).1;rw[dS] at this;cases this
    ·exact dS
  |false=>
   rw[H] at gV;have Nq:vn c.ps=false:=by
    simp only[Xr,H,aH] at N
    cases U:vn c.ps with
    |true=>rw[U] at N;simp at N
    |false=>rfl
   obtain⟨x,bk,s1,ad,ap,cB,Y,h2,h3,h4,h5,h6⟩:=adl c.ps vs vals 0 h Nq hl ha gV;obtain⟨y,hy,J⟩:=dw.1 cB;cases M:BO C o.dst c.rs (c.back y).1 (bk (c.back y).2 s1) with
   |none=>rw[M] at J;simp at J
   |some I=>
    rw[M] at J;refine⟨I,J,λnext Q U=>?_⟩;have Z:=aa ad w vals ap x y Y.aC.new (agE Y λb u=>u) h2 hy;unfold Oper.wp;rw[gh Nr,Oper.upon_enter];refine Z.mono λe w' hw=>?_;obtain⟨v,F,rfl,D,hR,hO⟩:=hw;refine U _ _ ?_;have h7:Rel C E s1 {g with γ:=F} w':=Y.grow (g:={g with γ:=ad}) D (λq p hx=>hx);obtain⟨S,h8,h9,eg⟩:=h6 (c.back y).2 s1 F w' h7 (λb k u=>(D.at' b _ _ u (by simp)).2) hO;refine ab M h8 (hR.Cf (λb u=>⟨h9.im b u,rfl⟩) λb π u=>⟨h9.aw b _ π (by simp) u,rfl⟩) ?_;refine((h4.trans D).trans eg).mono λq p hx=>⟨c,hc,?_⟩;rcases hx with(hx|hx)|hx
    ·rcases hx with⟨hx,u⟩|hx
     ·refine .inl ⟨?_,u⟩;rcases hx with hx|hx
      ·exact .inl ⟨H,hx⟩
      ·exact .inr hx
     ·exact .inr hx
    ·exact .inl ⟨.inr hx,ZO hx⟩
    ·exact .inl ⟨.inr hx,ZO hx⟩
theorem kE{k:Nat}:∀{l:List Nat},eV k l=true↔k∈l
 |[]=>by simp[eV]
 |x::l=>by
  simp only[eV,cO];cases hx:Nat.beq k x with
  |true=>simp[gr hx]
  |false=>
   have:k≠x:=λe=>by subst e;simp at hx
   simp only[aH,this,false_or];exact kE
theorem V6{k:Nat}:∀{xs:List Operand},k∈opsL xs↔.tmp k∈xs
 |[]=>by simp[opsL]
 |x::xs=>by cases x<;>simp[opsL,V6 (xs:=xs)]
theorem abB{t:TS}{k:Nat}(h:whole (t.slot k)=true):iD t (.tmp k)=t:=by
 simp only[iD];split<;>simp_all [whole]
theorem apN{t:TS}{x:Operand}{j:Nat}(h:x≠.tmp j):(iD t x).slot j=t.slot j:=by
 cases x with
 |tmp k=>
  have:j≠k:=λe=>h (by rw[e]);simp only[iD];split<;>first|rfl|exact uT _ _ this
 |_=>rfl
theorem Hd{t:TS}{x:Operand}(h:∀k,x=.tmp k->t.slot k=s.slot k):aU C t x=aU C s x:=by
 cases x with
 |tmp k=>simp only[aU,h k rfl]
 |_=>rfl
theorem adm(hC:eW P C):∀(xs:List Operand)(i:Nat){t:TS}{g:Gs},Rel C E t g w->cD nt g a->(∀x∈xs,dW nt x=true)->(∀k,.tmp k∈xs->t.slot k=s.slot k)->zo s xs=false->
  ∃u,Rel C E (XY t xs) {g with γ:=u} w/\(∀(j:Nat)x,xs[j]?=some x->uk (Gs.rc C {g with γ:=u} w) (i+j) (aU C s x) (a.eval x))/\kb (λj=>i<=j) g.γ u/\FK (λq=>∃x∈xs,uC x q) g.γ u
 |[],i,t,g,h,l,_,_,_=>⟨g.γ,h,by simp,.refl _ _,.refl _⟩
 |x::xs,i,t,g,h,l,hx,J,A=>by
  obtain⟨γ1,h1,S,U⟩:=H9 (n:=i) h l hC.gl (hx x (by simp));have hv:aU C t x=aU C s x:=Hd λk e=>J k (by simp[e]);have Y:zo s xs=false/\∀k,x=.tmp k->whole (s.slot k)=true\/.tmp k∉xs:=by
   cases x with
   |tmp k=>
    simp only[zo] at A
    cases H:whole (s.slot k) with
    |true=>rw[H,aF] at A;exact⟨A,λk' N=>by cases N;exact .inl H⟩
    |false=>
     rw[H,aH] at A
     cases M:eV k (opsL xs) with
     |true=>rw[M] at A;simp at A
     |false=>
      rw[M,aH] at A
      refine⟨A,λk' N=>.inr ?_⟩
      cases N
      intro Er
      rw[kE.2 (V6.2 Er)] at M
      cases M
   |_=>exact⟨by simpa[zo] using A,λk e=>by cases e⟩
  have ng:∀k,.tmp k∈xs->(iD t x).slot k=s.slot k:=λk e=>by
   by_cases I:x=.tmp k
   ·subst I;rcases Y.2 k rfl with H|hn
    ·have Nt:whole (t.slot k)=true:=by rw[J k (by simp)];exact H
     rw[abB Nt];exact J k (by simp)
    ·exact absurd e hn
   ·rw[apN I];exact J k (by simp[e])
  obtain⟨Q,k1,k2,k3,k4⟩:=adm hC xs (i+1) (t:=iD t x) (g:={g with γ:=γ1}) h1 (l.same rfl) (λy D=>hx y (by simp[D])) ng Y.1;have e1:kb (λ_=>False) g.γ γ1:=kb.fk U _ (λj Z=>by obtain⟨k,_,e⟩:=Z;cases e);refine⟨Q,k1,λj y D=>?_,(e1.mono (λ_ h=>h.elim)).trans (k3.mono λj Z=>by omega),(U.mono λq F=>?_).trans (k4.mono λq F=>?_)⟩
  ·cases j with
   |zero=>
    simp only[tU,aQ] at D;subst D;rw[hv] at S;have:=adb S (Pz hC.gl);exact this.Cf (g:={g with γ:=γ1}) k3 (by omega)
   |succ j=>
    have:=k2 j y (by simpa using D);rwa[show i+1+j=i+(j+1) by omega] at this
  ·obtain⟨k,e,F⟩:=F;exact⟨x,by simp,k,e,F⟩
  ·obtain⟨y,D,F⟩:=F;exact⟨y,by simp[D],F⟩
theorem aeE{e:TV}(h:rW e=true):fJ e=true/\bC e=false:=by cases e<;>first|exact⟨rfl,rfl⟩|(simp[rW] at h)
def zi(C:Cx)(s:TS)(o:Oper)(q:Rt)(e:aZ):Prop:=∃c x f cap,o.op=.call c/\c.callee=.value x/\aU C s x=.fn f cap/\((∃y∈c.args.toList,uC y q)/\¬ lU q e\/CX C f (c.args.toList.map (aU C s)++cap) q e)
theorem aeF(hC:eW P C)(hF:uj P C)(h:Rel C E s g w)(l:cD nt g a)(cL:qn P C nt o=true){c:Call}{x:Operand}(M:o.op=.call c)(N:c.callee=.value x)(H:Ev.step C o s K=some r):
  ∃Y,K Y=some r/\zt P o a w (λa' w'=>∃Z,Out C E nt (zi C s o) o.dst (λk=>o.dst=some k) g w Y a' w' Z):=by
 obtain⟨hd,oG⟩:=yH cL;simp only[Ev.step,M,N] at H;split at H
 ·rename_i f cap n4;cases tf:zo s c.args.toList with
  |true=>rw[tf] at H;simp at H
  |false=>
   rw[tf,aH] at H;have r9:dW nt x=true:=oG x (by simp[M,Op.operands,Call.operands,N]);have jW:∀y∈c.args.toList,dW nt y=true:=λy Q=>oG y (by simp only[M,Op.operands,Call.operands,N,On];exact cU.2 (.inr Q));have A:=iS h l r9;rw[n4] at A;obtain⟨aa,h1,h2,h3,h4⟩:=adm (s:=s) hC c.args.toList 0 h l jW (λ_ _=>rfl) tf;generalize ab:a.eval x=fv at A;generalize iX x=gm at A;cases A with
   |fn _ _ _ cv xV ad pZ=>
    have am:=an2 (g:={g with γ:=aa}) (vs:=c.args.toList.map (aU C s)++cap) (vals:=c.args.toList.map a.eval++cv.toList) hF h1 (l.same rfl) hd (by simp[ad]) (λj tv v u F=>?_) (λNr=>?_) H
    ·obtain⟨Y,eY,fU⟩:=am;refine⟨Y,eY,fU.mono λa' w'⟨Z,S⟩=>⟨Z,S.rel,S.Iy,?_,S.tm,S.bx⟩⟩;refine((h4.fK h.aC.new).trans S.fK).mono λq p hx=>⟨c,x,f,cap,M,N,n4,?_⟩;rcases hx with hx|hx
     ·exact .inl hx
     ·exact .inr hx
    ·by_cases D:j<c.args.toList.length
     ·rw[rb (by simpa using D)] at u;rw[rb (by simpa using D)] at F;rw[ir] at u F;cases Q:c.args.toList[j]? with
      |none=>rw[Q] at u;simp at u
      |some y=>
       rw[Q] at u F;simp only[jA,aQ] at u F;subst u;subst F;exact h2 j y Q
     ·rw[sB (by simpa using D)] at u;rw[sB (by simpa using D)] at F;simp only[qf] at u F;have hr:=pZ _ tv v u (by rw[<-ni];exact F);have I:=xV tv (dH u);have:uk (g.rc C w) (0+j) tv v:=adb (hr.lift _) (.inr (.inr (aeE I).1));refine⟨?_,λJ=>hr.same (λb hb=>⟨h3.im b hb,rfl⟩) (λ_ _ h=>by simp at h) (λ_ _=>rfl) (λp J=>absurd J (QN I p)) (λp J=>absurd J.mv (QN I p)),this.ep⟩;obtain⟨xs,m1,m2,m3⟩:=this.cells;refine⟨xs,m1,λj' bP v' eN cG=>?_,m3⟩;have bS:∀cs,tv≠.agg cs:=λcs U=>by subst U;simp[rW] at I
      have ao:cellsOf tv=[tv]:=by cases tv<;>first|rfl|exact absurd rfl (bS _)
      rw[ao] at eN;have a8:bP=tv:=by
       have:=dH eN
       simpa using this
      subst a8;exact⟨λp t U=>by subst U;simp[rW] at I,λp t lo hi U=>by subst U;simp[rW] at I,λJ=>by rw[(aeE I).2] at J;cases J⟩
    ·simp only[execOp,M];have:(resolve a.eval c o.type)=pure {target:=.fn (.func f) cv,args:=#[]++c.args.map a.eval}:=by
      simp only[resolve,N,ab,Deferred.ofValue]
     rw[this];simp only[pure_bind,invoke];have e:(#[]++Array.map a.eval c.args++cv)=(List.map a.eval c.args.toList++cv.toList).toArray:=by
      apply Array.ext'
      simp
     rw[e];exact amC Nr _ _
 ·simp at H
end
end
section
def Nu(C:Cx)(s:TS)(o:Oper)(q:Rt)(e:aZ):Prop:=(ug o=true/\(XZ (BS s o) q e\/ET C s o q e))\/zi C s o q e
def gX(C:Cx)(s:TS)(o:Oper)(q:Rt)(e:aZ):Prop:=Nu C s o q e\/((∃n,q=.aw n)/\¬ lU q e)
def jf(nt:Nat)(g e:Gs):Prop:=∀k,nt<=k->e.tm k=g.tm k/\e.bx k=g.bx k
theorem jf.refl{nt:Nat}{g:Gs}:jf nt g g:=λ_ _=>⟨rfl,rfl⟩
theorem jf.trans{nt:Nat}{g u g'':Gs}(h:jf nt g u)(k:jf nt u g''):jf nt g g'':=λj e=>⟨(k j e).1.trans (h j e).1,(k j e).2.trans (h j e).2⟩
theorem jf.γ{nt:Nat}{g:Gs}{e:Nat->G}:jf nt g {g with γ:=e}:=λ_ _=>⟨rfl,rfl⟩
section
variable{P:Program}{C:Cx}{E:Env}{nt:Nat}{o:Oper}{s:TS}{g:Gs}{a:Act}{w:World}{R:Type}{r:R}{K:TS->Option R}
theorem Out.dq{X:Rt->aZ->Prop}{d:Option Nat}{j:TS}{u:Act}{x:World}{g':Gs}(h:Out C E nt X d (λk=>d=some k) g w j u x g')(y:gN nt d):jf nt g g':=λk A=>by
 have:d≠some k:=λe=>by subst e;exact absurd (show k<nt from y) (by omega)
 exact⟨h.tm k this,h.bx k this⟩
theorem apO{q:Rt}(h:oZ s o q):BS s o q:=by
 unfold oZ at h;split at h
 ·rename_i x e;exact⟨x,by simp[e,Op.operands],bZ.z h⟩
 ·exact h
theorem KQ{k:Nat}(h:k∈nS o):o.dst=some k:=by
 have e:∀{d:Option Nat},k∈br d->d=some k:=λ{d}h=>by
  cases d with
  |none=>simp[br] at h
  |some d=>simp[br] at h;rw[h]
 unfold nS at h;split at h
 ·exact e h
 ·exact e h
 ·split at h
  ·exact e h
  ·simp at h
 ·simp at h
theorem an3(hC:eW P C)(S:uj P C)(h:Rel C E s g w)(l:cD nt g a)(Q:qn P C nt o=true)(D:Ev.step C o s K=some r):
  ∃u,K u=some r/\zt P o a w (λF H=>∃y,Out C E nt (Nu C s o) o.dst (λk=>o.dst=some k) g w u F H y):=by
 cases e:ug o with
 |true=>
  obtain⟨u,I,J⟩:=step_ok hC h l Q e D;exact⟨u,I,J.mono λF H⟨y,M⟩=>⟨y,M.mono (λq p N=>.inl ⟨e,N.imp (λhz=>⟨hz.1.imp (apO) id,hz.2⟩) id⟩) (λk h=>KQ h)⟩⟩
 |false=>
  cases A:o.op with
  |call c=>
   cases j:c.callee with
   |value x=>
    obtain⟨u,I,J⟩:=aeF hC S h l Q A j D;exact⟨u,I,J.mono λF H⟨y,M⟩=>⟨y,M.mono (λq p N=>.inr N) (λ_ h=>h)⟩⟩
   |invoke x m=>simp[Ev.step,A,j] at D
   |builtin b=>simp[ug,A,j] at e
  |_=>simp[ug,A] at e
theorem aeG(h:Rel C E s g w)(l:cD nt g a)(j:gN nt o.dst){nb:Nat->Prop}:∃g',Out C E nt (λq u=>(∃n,q=.aw n)/\¬ lU q u) o.dst nb g w (cz C s o.dst (.dM [])) (a.put o.dst undef) w g':=by
 have x:Rd (g.rc C w) (some (.aw 0,[])) (.dM []) undef:=.dM _ _ _ (by simp) rfl (by simp);obtain⟨e,y,A⟩:=h.put (d:=o.dst) x;refine⟨_,y,(l.same (g':={g with γ:=e}) rfl).put j,?_,λk D=>RD _ _ _ k D,λk _=>by rw[Lt]⟩;rw[Ls];exact(A.fK h.aC.new).mono λq p hx=>⟨⟨0,hx.1⟩,hx.2⟩
def HX(P:Program)(ops:Array Oper)(i:Nat)(a:Act)(w:World)(u:Act->World->Prop):Prop:=∀(next:Act->World->Prop)(Q:Exit->Act->World->Prop),(∀e j,u e j->next e j)->wpOp P ops Q i next a w
theorem HX.mono{ops:Array Oper}{i:Nat}{u Ψ:Act->World->Prop}(h:HX P ops i a w u)(x:∀e j,u e j->Ψ e j):HX P ops i a w Ψ:=λnext Q y=>h next Q λe j A=>y e j (x e j A)
theorem V7:∀(l:List Oper)(j:Nat),qq l j=(l[j]?).bind (·.dst)
 |[],j=>by simp[qq]
 |o::l,0=>by simp[qq]
 |o::l,j+1=>by simp[qq,V7 l j]
theorem alq{y:Type}(z:y):∀(t:Tr y)(i j:Nat)(v:y),t.get z i=v->v≠z->(t.set i v).get z j=t.get z j
 |.lf,i,j,v,h,A=>absurd h.symm (by simpa[Tr.get] using A)
 |.nd l x r,i,j,v,h,A=>by
  by_cases I:i=j
  ·subst I;rcases CW z v (.nd l x r) i with e|e
   ·rw[e,h]
   ·exfalso;have D:∀(t:Tr y)(i:Nat),t.get z i=v->(t.set i v).get z i=v:=by
     intro t
     induction t with
     |lf=>intro i h;exact absurd h.symm (by simpa[Tr.get] using A)
     |nd l x r F H=>
      intro i h
      rw[om] at h
      rw[Kf]
      by_cases hi:i=0
      ·rw[aD hi,om,aD hi]
      ·rw[aE hi] at h;rw[aE hi]
       by_cases u:i % 2=1
       ·rw[aD u] at h;rw[aD u,om,aE hi,aD u];exact F _ h
       ·rw[aE u] at h;rw[aE u,om,aE hi,aE u];exact H _ h
    rw[D _ _ h] at e;exact A e
  ·exact At _ _ _ _ _ I
theorem adn{k:Nat}{v:TV}(h:s.slot k=v)(e:v≠.un)(j:Nat):(s.raw k v).slot j=s.slot j:=by
 have u:s.t.get .un k=v:=h;exact alq .un s.t k j v u e
theorem an4{s e:TS}(h:∀j,e.slot j=s.slot j):Nu C e o=Nu C s o:=by
 have u:∀x,aU C e x=aU C s x:=λx=>Hd λk _=>h k;have y:∀x,bZ e x=bZ s x:=λx=>by funext q;simp only[bZ,h]
 have A:aU C e=aU C s:=funext u;have D:BS e o=BS s o:=by funext q;simp only[BS,y]
 funext q F;simp only[Nu,ET,zi,A,D]
theorem an5(hC:eW P C)(hF:uj P C)(h:Rel C E s g w)(l:cD nt g a){ops:Array Oper}(oF:∀o∈ops.toList,qn P C nt o=true){i:Nat}(Ch:ops[i]?=some o)(e:X0 C ops.toList o s K=some r):
  ∃H,K H=some r/\HX P ops i a w (λS U=>∃J,Out C E nt (gX C s o) o.dst (λk=>o.dst=some k) g w H S U J):=by
 have Nw:o∈ops.toList:=by rw[<-ni] at Ch;exact dH Ch
 have cL:=oF o Nw;have hd:=(yH cL).1;have go:Region.wanted o (yielded ops a.tmps)=true->∀{M:TS},(∀j,M.slot j=s.slot j)->Rel C E M g w->Ev.step C o M K=some r->∃H,K H=some r/\HX P ops i a w (λS U=>∃J,Out C E nt (gX C s o) o.dst (λk=>o.dst=some k) g w H S U J):=λN{M}iY Z e=>by
  obtain⟨H,h2,h3⟩:=an3 hC hF Z l cL e
  refine⟨H,h2,λnext Q hq=>?_⟩
  unfold wpOp
  simp only[Ch,N,fM]
  refine .inl (h3 next Q λS U⟨J,h4⟩=>hq S U ⟨J,h4.mono (λq p hx=>.inl ?_) (λ_ h=>h)⟩)
  rw[<-an4 iY];exact hx
 have no:Region.wanted o (yielded ops a.tmps)=false->∀{M:TS},Rel C E M g w->K (cz C M o.dst (.dM []))=some r->∃H,K H=some r/\HX P ops i a w (λS U=>∃J,Out C E nt (gX C s o) o.dst (λk=>o.dst=some k) g w H S U J):=λN{M}Z e=>by
  obtain⟨J,h2⟩:=aeG (o:=o) (nb:=λk=>o.dst=some k) Z l hd
  refine⟨_,e,λnext Q hq=>?_⟩
  unfold wpOp
  simp only[Ch,N,iJ,iy]
  exact hq _ _ ⟨J,h2.mono (λq p hx=>.inr hx) (λ_ h=>h)⟩
 unfold X0 at e;cases hg:o.guard with
 |none=>
  rw[hg] at e;exact go (by simp[Region.wanted,hg]) (λ_=>rfl) h e
 |some jw=>
  obtain⟨j,wv⟩:=jw;rw[hg] at e;simp only[] at e;cases I:qq ops.toList j with
  |none=>rw[I] at e;simp at e
  |some D=>
   rw[I] at e;simp only[] at e;rw[V7,ni] at I;have zW:D<nt:=by
    cases zX:ops[j]? with
    |none=>rw[zX] at I;simp at I
    |some oj=>
     rw[zX] at I
     simp only[sx] at I
     have:=(yH (oF oj (by rw[<-ni] at zX;exact dH zX))).1
     rw[I] at this
     exact this
   have Nx:a.tmps[D]?=some (g.tm D):=by
    have Z:=l.tm D zW
    have h2:D<a.tmps.size:=by rw[l.sz];exact zW
    rw[jX h2]
    rw[yw,jX h2] at Z
    simpa using Z
   have F:=h.eK D;split at e
   ·rename_i x hx;rw[hx] at F;have en:g.tm D=.bool x:=F.rF;have Y:yielded ops a.tmps j=some x:=by simp[yielded,I,Nx,en]
    have N:Region.wanted o (yielded ops a.tmps)=(x==wv):=by
     simp only[Region.wanted,hg,Y]
     cases x<;>cases wv<;>rfl
    have raw:∀y,x=y->Rel C E (s.raw D (.b y)) g w:=λy Y=>by subst Y;exact h.QT (by rw[en];exact .b _ _)
    have rs:∀y,x=y->∀j,(s.raw D (.b y)).slot j=s.slot j:=λy Y=>by subst Y;exact adn hx (by simp)
    cases wv with
    |true=>
     simp only[] at e;rcases G5.1 e with⟨A,e⟩|⟨A,e⟩
     ·exact go (by rw[N,A];rfl) (rs true A) (raw true A) e
     ·exact no (by rw[N,A];rfl) (raw false A) e
    |false=>
     simp only[] at e;rcases G5.1 e with⟨A,e⟩|⟨A,e⟩
     ·exact no (by rw[N,A];rfl) (raw true A) e
     ·exact go (by rw[N,A];rfl) (rs false A) (raw false A) e
   ·rename_i hx;rw[hx] at F;have en:∃vs,g.tm D=.tuple vs:=by
     generalize g.tm D=u at F
     cases F with
     |dM _ _ vs _ _ _=>exact⟨vs,rfl⟩
    obtain⟨vs,en⟩:=en;have Y:yielded ops a.tmps j=none:=by simp[yielded,I,Nx,en]
    exact no (by simp[Region.wanted,hg,Y]) h e
   ·simp at e
theorem ado(hC:eW P C)(J:uj P C){ops:Array Oper}(y:∀o∈ops.toList,qn P C nt o=true){Q:Exit->Act->World->Prop}{g0:Gs}(M:∀A u D F,K A=some r->Rel C E A u F->cD nt u D->jf nt g0 u->Q .normal D F):
  ∀(e:List Oper)(i:Nat){s:TS}{g:Gs}{a:Act}{w:World},(∀j,e[j]?=ops[i+j]?)->R3 C ops.toList e s K=some r->Rel C E s g w->cD nt g a->jf nt g0 g->wpOps P ops Q (List.range' i e.length) a w
 |[],i,s,g,a,w,_,x,h,l,kp=>M s g a w x h l kp
 |o::e,i,s,g,a,w,hi,x,h,l,kp=>by
  have H:ops[i]?=some o:=by simpa using(hi 0).symm
  simp only[R3] at x;obtain⟨A,N,S⟩:=an5 hC J h l y H x;simp only[fD,aaA];rw[wpOps_cons];refine S _ _ λD F⟨u,I⟩=>?_;have U:o∈ops.toList:=by rw[<-ni] at H;exact dH H
  exact ado hC J y M e (i+1) (λj=>by have:=hi (j+1);simpa[ra,Ap 1 j] using this) N I.rel I.Iy (kp.trans (I.dq (yH (y o U)).1))
end
end
section
def mS(P:Program)(C:Cx)(nt:Nat):Code->Bool|.region _ ops _=>ops.toList.all (qn P C nt)|.seq a b=>mS P C nt a&&mS P C nt b|.cond c a b=>dW nt c&&mS P C nt a&&mS P C nt b|.block _ (.loop _)=>true|.block _ c=>mS P C nt c|.ret=>true|.exit _=>true|.skip=>true|_=>false
def LA(P:Program)(C:Cx)(nt:Nat):Prop:=∀(E:Env)(R:Type)(r:R)(ops:Array Oper)(s:TS)(K:TS->Option R)(g:Gs)(a:Act)(w:World)(Q:Exit->Act->World->Prop),(∀o∈ops.toList,qn P C nt o=true)->ru C ops.toList ops.toList [] s K=some r->Rel C E s g w->cD nt g a->(∀j e u x,K j=some r->Rel C E j e x->cD nt e u->jf nt g e->Q .normal u x)->wpAny P .any ops Q ops.size (Array.replicate ops.size false) a w
section
variable{P:Program}{R:Type}{r:R}{D:Ctx R}{E:Env}{nt:Nat}
def Sf(D:Ctx R)(E:Env)(nt:Nat)(r:R)(g:Gs)(K:Ex->TS->Option R)(Q:Exit->Act->World->Prop):Prop:=(∀e a j u,K .normal e=some r->Rel D.c E e a u->cD nt a j->jf nt g a->Q .normal j u)/\(∀i e a j u,K (.exit i) e=some r->Rel D.c E e a u->cD nt a j->jf nt g a->Q (.exit i) j u)/\(∀e a j u,D.H3 e=some r->Rel D.c E e a u->cD nt a j->jf nt g a->Q .ret j u)
def afM(P:Program)(D:Ctx R)(nt:Nat)(id:Nat)(c:Code):Prop:=∀j,D.loops id=some j->∀(E:Env)(v:j.si.V)(k:j.so.V->Option R)(r:R)(g:Gs)(a:Act)(w:World)(Q:Exit->Act->World->Prop),j.L v k=some r->Rel D.c E (j.si.enc v) g w->cD nt g a->(∀o e u x,k o=some r->Rel D.c E (j.so.enc o) e x->cD nt e u->jf nt g e->Q .normal u x)->(∀y e u x,D.H3 y=some r->Rel D.c E y e x->cD nt e u->jf nt g e->Q .ret u x)->(Code.block id (.loop c)).wp P Q a w
def xe(P:Program)(D:Ctx R)(nt:Nat):Code->Prop|.seq a b=>xe P D nt a/\xe P D nt b|.cond _ a b=>xe P D nt a/\xe P D nt b|.block id (.loop c)=>afM P D nt id c|.block _ c=>xe P D nt c|_=>True
theorem Sf.dq{g A:Gs}{K:Ex->TS->Option R}{Q:Exit->Act->World->Prop}(h:Sf D E nt r g K Q)(k:jf nt g A):Sf D E nt r A K Q:=⟨λs2 g2 a e j u x y=>h.1 s2 g2 a e j u x (k.trans y),λi s2 g2 a e j u x y=>h.2.1 i s2 g2 a e j u x (k.trans y),λs2 g2 a e j u x y=>h.2.2 s2 g2 a e j u x (k.trans y)⟩
theorem an6{id:Nat}{c:Code}{s:TS}{K:Ex->TS->Option R}(a:∀j,c≠.loop j):ev D (.block id c) s K=ev D c s λe s'=>match e with|.normal=>K .normal s'|.exit i=>bif Nat.beq i id then K .normal s' else K (.exit i) s':=by
 cases c<;>first|rfl|exact absurd rfl (a _)
theorem Ee(S:P.follows .mixedOrders=true)(hC:eW P D.c)(U:uj P D.c)(Y:LA P D.c nt):∀(c:Code){s:TS}{K:Ex->TS->Option R}{g:Gs}{a:Act}{w:World}{Q:Exit->Act->World->Prop},ev D c s K=some r->mS P D.c nt c=true->xe P D nt c->Rel D.c E s g w->cD nt g a->Sf D E nt r g K Q->c.wp P Q a w
 |.region id ops Z,s,K,g,a,w,Q,j,u,_,h,l,y=>by
  have oF:∀o∈ops.toList,qn P D.c nt o=true:=by simp only[mS,jJ] at u;exact u
  simp only[ev] at j;obtain⟨s1,I,j,h1⟩:=abZ _ h j;cases Z with
  |false=>
   refine wp_region ?_;have:=ado (Q:=Q) (g0:=g) hC U oF (λH A C F j h l kp=>y.1 H A C F j h l kp) ops.toList 0 (by simp) j h1 (l.same rfl) jf.γ;rw[akJ];simpa using this
  |true=>
   refine wp_region_any S ?_;have hw:Rel D.c E s1 {g with γ:=I} {w with drawn:=w.drawn+1}:=by
    have a7:bw (λ_ _=>False) I w I {w with drawn:=w.drawn+1}:=⟨λ_ h=>⟨h,rfl⟩,λ_ _ _ h _=>⟨h,rfl⟩,λ_ _ h=>⟨h,rfl⟩,iI _,λb hb=>h1.aC.new b hb,rfl,rfl,rfl⟩
    exact h1.grow (g:={g with γ:=I}) a7 (λ_ _ h=>h.elim)
   exact Y E R r ops s1 (K .normal) {g with γ:=I} a _ Q oF j hw (l.same rfl) (λH A C F j h l kp=>y.1 H A C F j h l (jf.γ.trans kp))
 |.seq c1 c2,s,K,g,a,w,Q,j,u,J,h,l,y=>by
  simp only[mS,bo] at u;simp only[ev] at j;refine wp_seq (Ee S hC U Y c1 j u.1 J.1 h l ⟨λH A C F j h l kp=>?_,λi H A C F j h l kp=>y.2.1 i H A C F j h l kp,λH A C F j h l kp=>y.2.2 H A C F j h l kp⟩);exact Ee S hC U Y c2 j u.2 J.2 h l (y.dq kp)
 |.cond x c1 c2,s,K,g,a,w,Q,j,u,J,h,l,y=>by
  simp only[mS,bo] at u;simp only[ev] at j;split at j
  ·rename_i b hb;have M:=iS h l u.1.1;rw[hb] at M;have M:=M.rF;rcases G5.1 j with⟨rfl,j⟩|⟨rfl,j⟩
   ·exact wp_cond_true M (Ee S hC U Y c1 j u.1.2 J.1 h l y)
   ·exact wp_cond_false M (Ee S hC U Y c2 j u.2 J.2 h l y)
  ·simp at j
 |.block id c,s,K,g,a,w,Q,j,u,J,h,l,y=>by
  by_cases hc:∃c',c=.loop c'
  ·obtain⟨c',rfl⟩:=hc;simp only[ev,agn] at j;split at j
   ·rename_i zY hs;split at j
    ·rename_i v M;obtain⟨I,h1,_⟩:=Vr h M;exact J zY hs E v _ r {g with γ:=I} a w Q j h1 (l.same rfl) (λo A C F j h l kp=>y.1 _ A C F j h l (jf.γ.trans kp)) (λH A C F j h l kp=>y.2.2 H A C F j h l (jf.γ.trans kp))
    ·simp at j
   ·simp at j
  ·have N:∀c',c≠.loop c':=λc' e=>hc ⟨c',e⟩;rw[an6 N] at j;have zy:mS P D.c nt c=true:=by
    cases c<;>first|exact u|exact absurd rfl (N _)
   have Tx:xe P D nt c:=by
    cases c<;>first|exact J|exact absurd rfl (N _)
   refine wp_block (Ee S hC U Y c j zy Tx h l ⟨λH A C F j h l kp=>y.1 H A C F j h l kp,λi H A C F j h l kp=>?_,λH A C F j h l kp=>y.2.2 H A C F j h l kp⟩);simp only[Exit.inBlock];simp only[] at j
   by_cases hi:i=id
   ·rw[aD hi];rw[hi] at j;simp only[Nat.beq_refl,aF] at j;exact y.1 H A C F j h l kp
   ·rw[aE hi];have:Nat.beq i id=false:=by
     cases hb:Nat.beq i id with
     |false=>rfl
     |true=>exact absurd (gr hb) hi
    rw[this,aH] at j;exact y.2.1 i H A C F j h l kp
 |.ret,s,K,g,a,w,Q,j,_,_,h,l,y=>wp_ret (y.2.2 s g a w j h l .refl)
 |.exit i,s,K,g,a,w,Q,j,_,_,h,l,y=>wp_exit (y.2.1 i s g a w j h l .refl)
 |.skip,s,K,g,a,w,Q,j,_,_,h,l,y=>wp_skip (y.1 s g a w j h l .refl)
 |.loop _,_,_,_,_,_,_,j,u,_,_,_,_=>by simp[mS] at u
 |.rangeFunc _ _ _ _,_,_,_,_,_,_,j,u,_,_,_,_=>by simp[mS] at u
 |.scope _,_,_,_,_,_,_,j,u,_,_,_,_=>by simp[mS] at u
 |.label _,_,_,_,_,_,_,j,u,_,_,_,_=>by simp[mS] at u
 |.goto _,_,_,_,_,_,_,j,u,_,_,_,_=>by simp[mS] at u
 |.refuse _,_,_,_,_,_,_,j,u,_,_,_,_=>by simp[mS] at u
def Tz(P:Program)(c:Code)(Q:Exit->Act->World->Prop)(a:Act)(w:World):Prop:=∀(b:Frame)(k:List Item)(j:List Frame),∃e u x,Q e u x/\Arrives P (lone (b.at a (.code c::.inLoop c::k)) j w) b k j e u x
theorem amH{c:Code}{Q:Exit->Act->World->Prop}{a:Act}{w:World}(h:Tz P c Q a w):(Code.loop c).wp P Q a w:=λb k j=>by
 obtain⟨e,u,x,y,A⟩:=h b k j;exact⟨e,u,x,y,.of_steps (.one step_loop) A⟩
theorem an7{c:Code}{Q:Exit->Act->World->Prop}{a:Act}{w:World}(h:c.wp P (Exit.then (Tz P c Q) Q) a w):Tz P c Q a w:=by
 intro b k M;obtain⟨e,y,A,j,u⟩:=h b (.inLoop c::k) M;cases e with
 |normal=>
  obtain⟨C,F,H,I,J⟩:=j b k M;exact⟨C,F,H,I,.of_steps (Steps.trans u (.one step_inLoop)) J⟩
 |exit id=>exact⟨_,y,A,j,.pass (x:=.inLoop c) rfl (λ_ _=>.inl (by simp)) u⟩
 |goto l=>exact⟨_,y,A,j,.pass (x:=.inLoop c) rfl (λ_ _=>.inl (by simp)) u⟩
 |ret=>exact⟨_,y,A,j,.pass (x:=.inLoop c) rfl (λ_ _=>.inl (by simp)) u⟩
 |panic N=>exact⟨_,y,A,j,.pass (x:=.inLoop c) rfl (λ_ _=>.inl (by simp)) u⟩
 |outgrown=>exact⟨_,y,A,j,.pass (x:=.inLoop c) rfl (λ_ _=>.inl (by simp)) u⟩
def LB(D:Ctx R)(id:Nat)(c:Code)(si so:Live)(L:si.V->(so.V->Option R)->Option R)(v:si.V)(k:so.V->Option R):Option R:=
 ev D c (si.enc v) λe s=>
  match e with
  |.normal=>(match si.dec s with|some a=>L a k|none=>none)
  |.exit i=>bif Nat.beq i id then(match so.dec s with|some o=>k o|none=>none) else none
theorem apQ(U:P.follows .mixedOrders=true)(hC:eW P D.c)(Y:uj P D.c)(Z:LA P D.c nt){id n:Nat}{c:Code}{si so:Live}{L:Nat->si.V->(so.V->Option R)->Option R}(hD:D.loops id=some ⟨si,so,L n⟩)
  (h0:∀v k,L 0 v k=none)(hS:∀m v k,L (m+1) v k=LB D id c si so (L m) v k)(cL:mS P D.c nt c=true)(C:xe P D nt c):afM P D nt id c:=by
 intro zY S E v k r g a w Q e h l hn hr;rw[hD] at S;cases S;refine wp_block (amH ?_);have F:∀(m:Nat)(v:si.V)(j:Gs)(A:Act)(w1:World),L m v k=some r->Rel D.c E (si.enc v) j w1->cD nt j A->jf nt g j->Tz P c (Exit.inBlock id Q) A w1:=by
  intro m
  induction m with
  |zero=>intro v j A w1 e;rw[h0] at e;simp at e
  |succ m ih=>
   intro v j A w1 e h l kp
   rw[hS] at e
   refine an7 (Ee U hC Y Z c e cL C h l ⟨λH I u x e h l y=>?_,λi H I u x e h l y=>?_,λH I u x e h l y=>hr H I u x e h l (kp.trans y)⟩)
   ·simp only[] at e;split at e
    ·rename_i v' J;obtain⟨M,N,_⟩:=Vr h J;exact ih v' _ u x e N (l.same rfl) ((kp.trans y).trans jf.γ)
    ·simp at e
   ·simp only[] at e
    by_cases hi:i=id
    ·subst hi;simp only[Nat.beq_refl,aF] at e;split at e
     ·rename_i o J;obtain⟨M,N,_⟩:=Vr h J;have:=hn o _ u x e N (l.same rfl) ((kp.trans y).trans jf.γ);simpa[Exit.then,Exit.inBlock] using this
     ·simp at e
    ·have:Nat.beq i id=false:=by
       cases hb:Nat.beq i id with
       |false=>rfl
       |true=>exact absurd (gr hb) hi
     rw[this] at e;simp at e
 exact F n v g a w e h l .refl
end
end
section
def Xz(nt i:Nat):bO->Option Rt|.val _=>some (.slot i)|.pb _ _ _=>some (.box (nt+i))|.bd=>some (.box (nt+i))|.pr _=>some (.slot (nt+i))|.mu _=>some (.slot (nt+i))|.rp _=>none|.fn _ _=>none
def qC(ps:List bO)(nt:Nat)(γ:Nat->G):Nat->G:=λb=>
 match γ b with
 |.im=>.im
 |.at (.aw i) p=>match(ps[i]?).bind (Xz nt i) with|some q=>.at q p|none=>.fr
 |_=>.fr
def asV:Value->Nat|.pointer (some a)=>a.block|_=>0
def kK(ps:List bO)(nt:Nat)(γ:Nat->G)(vals:List Value)(hds:Nat->Value):Gs:=
 ⟨qC ps nt γ,λk=>asV (vals.getD (k-nt) undef),λk=>if k<nt then vals.getD k undef else hds (k-nt)⟩
def vr(C:Cx)(nt:Nat):Nat->List bO->Bool|_,[]=>true|i,.pr _::ps=>C.vs (nt+i)&&vr C nt (i+1) ps|i,.mu _::ps=>C.vs (nt+i)&&vr C nt (i+1) ps|i,_::ps=>vr C nt (i+1) ps
section
variable{C:Cx}{g:Gs}{w:World}{γ:Nat->G}{ps:List bO}{nt:Nat}{vals:List Value}{hds:Nat->Value}
theorem Lf{b:Nat}(h:γ b=.im):qC ps nt γ b=.im:=by simp only[qC,h]
theorem WT{b:Nat}(h:γ b=.fr):qC ps nt γ b=.fr:=by simp only[qC,h]
theorem apR{b i:Nat}{π:aZ}{p:bO}{q:Rt}(h:γ b=.at (.aw i) π)(a:ps[i]?=some p)(e:Xz nt i p=some q):qC ps nt γ b=.at q π:=by simp only[qC,h,a,sx,e]
theorem V8{b:Nat}{q:Rt}{a:aZ}(h:γ b=.at q a)(e:∀n,q≠.aw n):qC ps nt γ b=.fr:=by
 cases q with
 |aw n=>exact absurd rfl (e n)
 |_=>simp only[qC,h]
def Ef(c:Rc)(tm:Nat->Value)(s:TS):Prop:=(∀k,Rd c (some (.slot k,[])) (s.slot k) (tm k))/\∀k,xI c k (s.box k)
theorem Ef.raw{c:Rc}{tm:Nat->Value}{s:TS}{k:Nat}{tv:TV}(h:Ef c tm s)(u:Rd c (some (.slot k,[])) tv (tm k)):Ef c tm (s.raw k tv):=by
 refine⟨λj=>?_,h.2⟩
 by_cases a:j=k
 ·subst a;rcases AD s j tv with e|e<;>rw[e]
  ·exact u
  ·exact .un _ _
 ·rw[uT s tv a];exact h.1 j
theorem Ef.bx{c:Rc}{tm:Nat->Value}{s:TS}{k:Nat}{u:BC}(h:Ef c tm s)(x:xI c k u):Ef c tm (s.bx k u):=by
 refine⟨h.1,λj=>?_⟩
 by_cases a:j=k
 ·subst a;rcases yJ s j u with e|e<;>rw[e]
  ·exact x
  ·trivial
 ·rw[yI s u a];exact h.2 j
theorem Rd.asW{c a:Rc}{q e:Rt}{p j:aZ}{u:TV}{v:Value}(h:Rd c (some (q,p)) u v)(x:ik u=true)(H:kx c a)(A:Tn c a (λ_=>True) q p e j):Rd a (some (e,j)) u v:=
 h.mono _ H (λJ M D=>by
  simp only[aQ,cZ] at D
  obtain⟨rfl,rfl⟩:=D
  exact⟨e,j,rfl,λb E F=>⟨A.dq b E F trivial,A.heap b E F⟩⟩) (λk I=>absurd I (Hq x k)) (λr y=>absurd y (u9 x r)) (λr y=>absurd y.mv (u9 x r))
theorem DU:kx (bW γ w) (Gs.rc C (kK ps nt γ vals hds) w):=λb a=>⟨Lf a,rfl⟩
theorem LC{i:Nat}{p:bO}{q:Rt}(a:ps[i]?=some p)(e:Xz nt i p=some q):Tn (bW γ w) (Gs.rc C (kK ps nt γ vals hds) w) (λ_=>True) (.aw i) [] q []:=⟨λb j u _=>apR u a e,λb j _ x=>absurd trivial x,λ_ _ _=>rfl⟩
theorem arh{i:Nat}{v:Value}(hi:i<nt)(a:vals[i]?=some v):(kK ps nt γ vals hds).tm i=v:=by
 simp only[kK];rw[aD hi,iR,a];rfl
theorem Lg{i:Nat}:(kK ps nt γ vals hds).tm (nt+i)=hds i:=by
 simp only[kK];rw[aE (by omega),ayF]
theorem XA{i b:Nat}(a:vals[i]?=some (qw b)):(kK ps nt γ vals hds).bx (nt+i)=b:=by
 simp only[kK];rw[ayF,iR,a];rfl
theorem aeH(H:vals.length<=nt):∀(a:List bO)(i:Nat){x:qJ a}{M:List Value},tc (bW γ w) hds i a x M->(∀j,a[j]?=ps[i+j]?)->(∀j,M[j]?=vals[i+j]?)->vr C nt i a=true->
  Ef (Gs.rc C (kK ps nt γ vals hds) w) (kK ps nt γ vals hds).tm (pins nt i a x)
 |[],i,x,M,_,_,_,_=>⟨λk=>by
    have:(pins nt i [] x).slot k=.un:=US k
    rw[this];exact .un _ _,λk=>by
    have:(pins nt i [] x).box k=.none:=U5 k
    rw[this];trivial⟩
 |p::a,i,x,[],h,_,_,_=>h.elim
 |p::a,i,x,v::M,h,Y,Z,N=>by
  have I:ps[i]?=some p:=by simpa using(Y 0).symm
  have P:vals[i]?=some v:=by simpa using(Z 0).symm
  have hi:i<nt:=by
   have:=(da.1 P).1
   omega
  have zy:vr C nt (i+1) a=true:=by cases p<;>simp_all [vr]
  have A:=aeH H a (i+1) h.2 (λj=>by have:=Y (j+1);simpa[ra,Ap 1 j] using this) (λj=>by have:=Z (j+1);simpa[ra,Ap 1 j] using this) zy;have D:=arh (ps:=ps) (γ:=γ) (hds:=hds) hi P;have E:=h.1;have e:pins nt i (p::a) x=pin nt i p x.1 (pins nt (i+1) a x.2):=rfl;rw[e];cases p with
  |val q=>
   refine A.raw ?_;rw[D];exact Rd.asW E (Hz q x.1).1 DU (LC I rfl)
  |pb t m m'=>
   obtain⟨b,y,F⟩:=E;have J:=XA (ps:=ps) (nt:=nt) (γ:=γ) (hds:=hds) (by rw[P,y]);refine(A.bx (k:=nt+i) (u:=.cells (jC m (enc false t x.1))) ?_).raw ?_
   ·have:=Hb (c':=Gs.rc C (kK ps nt γ vals hds) w) DU (LC I rfl) Dr F;show xw _ (.box (nt+i)) _ _;rw[show(Gs.rc C (kK ps nt γ vals hds) w).bx (nt+i)=b from J];exact this
   ·rw[D,y];have:=Rd.ptr (c:=Gs.rc C (kK ps nt γ vals hds) w) (some (.slot i,[])) (nt+i) 0;rwa[show(Gs.rc C (kK ps nt γ vals hds) w).bx (nt+i)=b from J] at this
  |bd=>
   obtain⟨b,y,F⟩:=E;have J:=XA (ps:=ps) (nt:=nt) (γ:=γ) (hds:=hds) (by rw[P,y]);refine(A.bx (k:=nt+i) (u:=.iG x.1) ?_).raw ?_
   ·have:=Hc (c':=Gs.rc C (kK ps nt γ vals hds) w) DU (LC I rfl) F;show BA _ (.box (nt+i)) _ _;rw[show(Gs.rc C (kK ps nt γ vals hds) w).bx (nt+i)=b from J];exact this
   ·rw[D,y];have:=Rd.ptr (c:=Gs.rc C (kK ps nt γ vals hds) w) (some (.slot i,[])) (nt+i) 0;rwa[show(Gs.rc C (kK ps nt γ vals hds) w).bx (nt+i)=b from J] at this
  |pr t=>
   obtain⟨Q,b,o,len,cap,R,h2,h3,S⟩:=E;have U:C.vs (nt+i)=true:=by simp only[vr,bo] at N;exact N.1
   refine(A.raw (k:=nt+i) (tv:=.own true t x.1.1) ?_).raw ?_
   ·rw[Lg];exact Q.all rfl DU (LC I rfl)
   ·rw[D,S];refine Rd.ep _ (.slot (nt+i)) t x.1.2 0 b o len cap trivial ?_ h2 h3;show va C.vs (kK ps nt γ vals hds).tm (kK ps nt γ vals hds).bx w (.slot (nt+i))=_;simp only[va];rw[aD U,Lg,R]
  |mu t=>
   obtain⟨Q,S⟩:=E;have U:C.vs (nt+i)=true:=by simp only[vr,bo] at N;exact N.1
   refine(A.raw (k:=nt+i) (tv:=.own true t x.1) ?_).raw ?_
   ·rw[Lg];exact Q.all rfl DU (LC I rfl)
   ·rw[D,S];refine Rd.vw _ (.slot (nt+i)) t _ trivial ?_;show va C.vs (kK ps nt γ vals hds).tm (kK ps nt γ vals hds).bx w (.slot (nt+i))=_;simp only[va];rw[aD U,Lg]
  |rp t=>
   refine A.raw ?_;rw[D];exact(KO (.inr ⟨t,x.1,rfl⟩) DU E).lift _
  |fn gg ts=>
   refine A.raw ?_;rw[D];exact(KO (.inl ⟨gg,ts,x.1,rfl⟩) DU E).lift _
theorem amI(e:vals.length<=nt){x:qJ ps}(h:tc (bW γ w) hds 0 ps x vals)(D:∀b,w.heap.size<=b->γ b=.fr)(u:Ey C.gl C.gb γ w)(j:∀i,(∀p,¬ MV p (C.gl i))/\∀k,¬ MB k (C.gl i))(E:vr C nt 0 ps=true):
  Rel C ⟨w.heap.size,qC ps nt γ,w⟩ (pins nt 0 ps x) (kK ps nt γ vals hds) w:=by
 have A:=aeH (C:=C) (ps:=ps) e ps 0 h (by simp) (by simp) E;refine⟨A.1,A.2,⟨rfl,rfl,rfl,iI _,λb _ a=>⟨a,rfl⟩,λb _ a=>⟨a,rfl⟩,λb a=>WT (D b a)⟩,λi=>?_,j,λi o hi=>⟨Lf (u.2 i o hi).1,(u.2 i o hi).2⟩⟩;exact(u.1 i).same (λb a=>⟨Lf a,rfl⟩) (λ_ _ h=>by simp at h) (λk F=>absurd F ((j i).2 k)) (λp y=>absurd y ((j i).1 p)) (λp y=>absurd y.mv ((j i).1 p))
theorem amJ(a:vals.length<=nt):cD nt (kK ps nt γ vals hds) {tmps:=vals.toArray++Array.replicate (nt-vals.toArray.size) undef,defers:=[]} where
 df:=rfl
 sz:=by simp;omega
 tm k hk:=by
  simp only[kK];rw[aD hk,yw,iR]
  by_cases e:k<vals.length
  ·rw[aaw (by simpa using e)];simp
  ·rw[Array.getElem?_append_right (by simpa using e),pz (by omega)];simp only[Uv,aaB];rw[aD (by omega)];rfl
theorem adp{c:Rc}:∀{ps:List bO}{i:Nat}{x:qJ ps}{vs:List Value},tc c hds i ps x vs->vs.length=ps.length
 |[],_,_,_,h=>by simp[tc] at h;simp[h]
 |_::_,_,_,[],h=>h.elim
 |p::ps,i,x,v::vs,h=>by simp[adp h.2]
end
end
section
structure Claim where
 q:Rt
 pre:aZ
 n:Nat
 pre2:aZ
 K:aZ->Prop
open Classical in
noncomputable def Bk:List Claim->Rt->aZ->G
 |[],_,_=>.fr
 |c::cs,q,p=>if q=c.q then(if c.pre<+:p then(if c.K (p.drop c.pre.length) then .at (.aw c.n) (c.pre2++p.drop c.pre.length) else .im) else .fr) else Bk cs q p
theorem U7{c:Claim}{π:aZ}:∀{cs:List Claim},cs.Pairwise (λa b=>a.q≠b.q)->c∈cs->(c.K π->Bk cs c.q (c.pre++π)=.at (.aw c.n) (c.pre2++π))/\(¬ c.K π->Bk cs c.q (c.pre++π)=.im)
 |[],_,h=>by simp at h
 |c0::cs,u,h=>by
  rcases cO.1 h with rfl|h
  ·have x:List.drop c.pre.length (c.pre++π)=π:=akI;simp only[Bk,fM,wN];rw[x];exact⟨λj=>by rw[aD j],λj=>by rw[aE j]⟩
  ·have y:=(Fp.1 u).1 c h;simp only[Bk];rw[aE (λe=>y e.symm)];exact U7 (Fp.1 u).2 h
def wm:ea->aZ->Prop|.val q=>qR q|.nb t m=>wi (.st t m)
def nU(s:TS)(r:ea)(v:ResultVar)(n:Nat)(pre2:aZ):List Claim:=
 match v with
 |.tmp k=>
  match s.slot k with
  |.vw (.slot j) _=>
   match s.slot j with
   |.own ..=>[⟨.slot j,[],n,pre2,wm r⟩]
   |_=>[]
  |.own ..=>[⟨.slot k,[],n,pre2,wm r⟩]
  |.agg _=>[⟨.slot k,[],n,pre2,wm r⟩]
  |.ptr j _=>[⟨.box j,[],n,pre2,wm r⟩]
  |_=>[]
 |.cell a _=>
  match s.slot a with
  |.ptr j _=>[⟨.box j,(match s.box j with|.cells [_]=>[(0,0)]|_=>[]),n,pre2,wm r⟩]
  |_=>[]
def code:Rt->Nat|.slot k=>2*k|.box k=>2*k+1|.aw _=>0
theorem acd(s:TS)(r:ea)(v:ResultVar)(n:Nat)(pre2:aZ):(nU s r v n pre2).map (λc=>code c.q)=X2 s v/\∀c∈nU s r v n pre2,c.n=n:=by
 unfold nU X2;cases v with
 |tmp k=>
  simp only[];cases e:s.slot k with
  |vw p t=>
   cases p with
   |slot j=>
    simp only[];cases s.slot j<;>first|exact⟨rfl,by simp⟩|exact⟨rfl,by simp⟩
   |_=>exact⟨rfl,by simp⟩
  |_=>first|exact⟨rfl,by simp⟩|exact⟨rfl,by simp⟩
 |cell a t=>
  simp only[];cases s.slot a<;>exact⟨rfl,by simp⟩
def zB(nt i:Nat):bO->List Claim|.pb t _ a=>[⟨.box (nt+i),[],i,[],wi (.st t a)⟩]|.bd=>[⟨.box (nt+i),[],i,[],λ_=>True⟩]|.pr _=>[⟨.slot (nt+i),[],i,[],λ_=>True⟩]|.mu _=>[⟨.slot (nt+i),[],i,[],λ_=>True⟩]|_=>[]
def Eg(s:TS)(n:Nat)(one:Bool):Nat->List ea->List ResultVar->List Claim
 |j,r::rs,v::vs=>nU s r v n (if one then[] else[(0,j)])++Eg s n one (j+1) rs vs
 |_,_,_=>[]
def xy(nt:Nat):Nat->List bO->List Claim|_,[]=>[]|i,p::ps=>zB nt i p++xy nt (i+1) ps
theorem abC(s:TS)(n:Nat)(one:Bool):∀(j:Nat)(rs:List ea)(vs:List ResultVar),rs.length=vs.length->(Eg s n one j rs vs).map (λc=>code c.q)=Lp s vs
 |j,[],[],_=>rfl
 |j,[],_::_,h=>by simp at h
 |j,_::_,[],h=>by simp at h
 |j,r::rs,v::vs,h=>by
  simp only[Eg,Lp,oO];rw[(acd _ _ _ _ _).1,abC s n one (j+1) rs vs (by simpa using h)]
theorem Vt{nt:Nat}{c:Claim}:∀{ps:List bO}{i:Nat},c∈xy nt i ps->∃j,i<=j/\(c.q=.slot (nt+j)\/c.q=.box (nt+j))
 |[],_,h=>by simp[xy] at h
 |p::ps,i,h=>by
  simp only[xy,cU] at h;rcases h with h|h
  ·cases p<;>simp[zB] at h<;>subst h<;>exact⟨i,iI _,by simp⟩
  ·obtain⟨j,e,a⟩:=Vt h;exact⟨j,by omega,a⟩
theorem adq{nt:Nat}:∀(ps:List bO)(i:Nat),(xy nt i ps).Pairwise (λa b=>a.q≠b.q)
 |[],_=>List.Pairwise.nil
 |p::ps,i=>by
  simp only[xy];refine Fq.2 ⟨by cases p<;>simp[zB],adq ps (i+1),λa u b x=>?_⟩;obtain⟨j,y,e⟩:=Vt x;cases p<;>simp[zB] at u<;>subst u<;>rcases e with e|e<;>rw[e]<;>simp<;>omega
theorem abd:∀{l:List Nat}{m:Nat},Lq m l=true->l.Pairwise (·≠·)/\∀k∈l,k<m
 |[],_,_=>⟨List.Pairwise.nil,by simp⟩
 |k::r,m,h=>by
  simp only[Lq] at h;cases a:eV k r with
  |true=>rw[a] at h;simp at h
  |false=>
   rw[a,aH] at h;cases j:Nat.blt k m with
   |false=>rw[j] at h;simp at h
   |true=>
    rw[j,aF] at h;obtain⟨u,y⟩:=abd h;have A:k<m:=by simpa[wO] using j
    refine⟨Fp.2 ⟨λx hx e=>?_,u⟩,λx hx=>?_⟩
    ·subst e;rw[kE.2 hx] at a;cases a
    ·rcases cO.1 hx with rfl|hx
     ·exact A
     ·exact y x hx
def RI(s:TS)(nt n:Nat)(rs:List ea)(a:List ResultVar)(ps:List bO):List Claim:=Eg s n (rs.length==1) 0 rs a++xy nt 0 ps
theorem amK{s:TS}{nt n:Nat}{rs:List ea}{u:List ResultVar}{ps:List bO}(D:rs.length=u.length)(h:Lq (2*nt) (Lp s u)=true):(RI s nt n rs u ps).Pairwise (λa b=>a.q≠b.q):=by
 obtain⟨y,A⟩:=abd h;rw[<-abC s n (rs.length==1) 0 rs u D] at y A;refine Fq.2 ⟨?_,adq ps 0,λa E b F e=>?_⟩
 ·rw[List.pairwise_map] at y;exact y.imp λH e=>H (by rw[e])
 ·have:=A (code a.q) (gQ.2 ⟨a,E,rfl⟩);obtain⟨j,_,x⟩:=Vt F;rw[e] at this;rcases x with x|x<;>rw[x] at this<;>simp only[code] at this<;>omega
open Classical in
noncomputable def qD(γ:Nat->G)(n0:Nat)(a:Nat->G)(cs:List Claim):Nat->G:=λb=>
 let t:=match a b with|.at q p=>Bk cs q p|x=>x
 match γ b with
 |.im=>.im
 |.at (.aw _) _=>t
 |.at q p=>.at q p
 |.fr=>if b<n0 then .fr else t
section
variable{C:Cx}{g':Gs}{w w':World}{γ:Nat->G}{ps:List bO}{nt:Nat}{cs:List Claim}
theorem aeI(j:B5 ⟨w.heap.size,qC ps nt γ,w⟩ g'.γ w')(A:∀b,w.heap.size<=b->γ b=.fr)(b:Nat)(y:g'.γ b≠.fr):
  (γ b=.im/\g'.γ b=.im)\/qD γ w.heap.size g'.γ cs b=(match g'.γ b with|.at q p=>Bk cs q p|x=>x):=by
 have e:∀x,γ b=x->x≠.fr->b<w.heap.size:=λx hx D=>Jf λu=>D (by rw[<-hx];exact A b u);cases a:γ b with
 |im=>exact .inl ⟨rfl,(j.im b (e _ a (by simp)) (Lf a)).1⟩
 |fr=>
  right
  simp only[qD,a]
  by_cases h:b<w.heap.size
  ·exact absurd (j.fr b h (WT a)).1 y
  ·rw[aE h]
 |_=>
  rename_i q p
  cases q with
  |aw n=>right;simp only[qD,a]
  |_=>exact absurd (j.fr b (e _ a (by simp)) (V8 a (by simp))).1 y
theorem apS(j:B5 ⟨w.heap.size,qC ps nt γ,w⟩ g'.γ w')(u:∀b,w.heap.size<=b->γ b=.fr):kx (Gs.rc C g' w') (bW (qD γ w.heap.size g'.γ cs) w'):=λb x=>by
 refine⟨?_,rfl⟩;have e:g'.γ b=.im:=x;rcases aeI (cs:=cs) j u b (by rw[e];simp) with⟨a,_⟩|a
 ·show qD γ w.heap.size g'.γ cs b=.im;simp only[qD,a]
 ·show qD γ w.heap.size g'.γ cs b=.im;rw[a,e]
theorem apT(E:B5 ⟨w.heap.size,qC ps nt γ,w⟩ g'.γ w')(F:∀b,w.heap.size<=b->γ b=.fr)(A:cs.Pairwise (λa b=>a.q≠b.q)){c:Claim}(D:c∈cs):
  Tn (Gs.rc C g' w') (bW (qD γ w.heap.size g'.γ cs) w') c.K c.q c.pre (.aw c.n) c.pre2:=by
 have u:∀b e,g'.γ b=.at c.q (c.pre++e)->qD γ w.heap.size g'.γ cs b=Bk cs c.q (c.pre++e):=λb e j=>by
  rcases aeI (cs:=cs) E F b (by rw[j];simp) with⟨_,x⟩|x
  ·rw[j] at x;cases x
  ·rw[x,j]
 exact⟨λb e j y=>(u b e j).trans ((U7 A D).1 y),λb e j y=>(u b e j).trans ((U7 A D).2 y),λ_ _ _=>rfl⟩
theorem an8(e:B5 ⟨w.heap.size,qC ps nt γ,w⟩ g'.γ w')(y:∀b,w.heap.size<=b->γ b=.fr):bw (λq _=>∃n,q=.aw n) γ w (qD γ w.heap.size g'.γ cs) w':=by
 have j:∀b x,γ b=x->x≠.fr->b<w.heap.size:=λb x hx D=>Jf λu=>D (by rw[<-hx];exact y b u);refine⟨λb a=>⟨by simp only[qD,a],(e.im b (j b _ a (by simp)) (Lf a)).2⟩,λb q p a hx=>?_,λb A a=>⟨by simp only[qD,a];rw[aD A],(e.fr b A (WT a)).2⟩,e.size,λb a=>?_,e.tape,e.os,e.output⟩
 ·cases q with
  |aw n=>exact absurd ⟨n,rfl⟩ hx
  |slot k=>exact⟨by simp only[qD,a],(e.fr b (j b _ a (by simp)) (V8 a (by simp))).2⟩
  |box k=>exact⟨by simp only[qD,a],(e.fr b (j b _ a (by simp)) (V8 a (by simp))).2⟩
 ·have E:=y b (Fh e.size a);have F:=e.new b a;have I:=e.size;have H:¬ b<w.heap.size:=by
   have:w.heap.size<=w'.heap.size:=e.size
   omega
  simp only[qD,E,F];rw[aE H]
end
end
section
theorem HM{q:VS}{j:TV}{x:q.T}(e:q.dec j=some x):(∃u,j=.agg u)\/ik j=true:=by
 cases q with
 |el t m=>
  rcases G8 e with⟨u,rfl,_⟩|⟨y,e,_⟩
  ·exact .inl ⟨u,rfl⟩
  ·right
   obtain⟨F,A⟩:=(w7 false e).get;cases t<;>simp[Ev.fP] at y
   all_goals
    have h0:=A 0 j _ rfl rfl;rcases h0 with rfl|⟨_,_,_,D⟩
    ·rfl
    ·simp[sc] at D
 |sl f t=>
  obtain⟨_,e⟩:=KM e
  right
  rcases uY e with rfl|rfl|⟨d,rfl⟩|⟨rfl,_⟩|⟨rfl,_⟩<;>rfl
 |eM t=>have:=Kl e;subst this;exact .inr rfl
 |vec t=>have:=GX e;subst this;exact .inr rfl
 |er=>rcases G9 e with rfl|⟨rfl,_⟩<;>exact .inr rfl
open Classical in
theorem RJ{c A:Rc}{m D:Option Gp}{q:VS}{j:TV}{v:Value}{x:q.T}(M:kx c A)(F:q.dec j=some x)(H:fJ j=true)(h:Rd c m j v)(N:D.isSome=true):Rd A D (q.enc x) v:=by
 have u:ik j=true:=by
  rcases HM F with⟨S,rfl⟩|h
  ·simp[fJ] at H
  ·exact h
 have Q:Rd {c with γ:=λb=>if c.γ b=.im then .im else .fr} none j v:=(h.anyM H none).stay u (λb e=>⟨by simp[e],rfl⟩) (λ_ _ h=>by simp at h);obtain⟨⟨U,Y⟩,rfl⟩:=ayy.1 N;have y:∀b r p,({c with γ:=λb=>if c.γ b=.im then .im else .fr}:Rc).γ b≠.at r p:=λb r p=>by
  simp only[];split<;>simp
 refine ve (c:={c with γ:=λb=>if c.γ b=.im then .im else .fr}) (r:=.aw 0) (p:=[]) (λb e=>?_) ⟨λb I e=>absurd e (y b _ _),λb I e=>absurd e (y b _ _),λb I e=>absurd e (y b _ _)⟩ F (Q.lift _);have J:(if c.γ b=.im then G.im else .fr)=.im:=e;split at J
 ·rename_i R;exact M b R
 ·cases J
def Ii(v:ResultVar)(e:Array Value):Sem Value:=
 match v with
 |.tmp t=>pure (e.getD t undef)
 |.cell a t=>do loadVar t (<-asAddr (e.getD a undef))
def Ij(nt:Nat):ResultVar->Bool|.tmp k=>Nat.blt k nt|.cell a _=>Nat.blt a nt
def XB(ty:List (Nat×TI))(s:TS):ResultVar->Prop|.tmp _=>True|.cell a t=>∃k j,s.slot a=.ptr k j/\(mV ty t).var=true/\((∃e,s.box k=.cells e/\(mV ty t).sz=e.length/\((mV ty t).ag=true/\e.length≠1\/(mV ty t).ag=false/\e.length=1))\/∃u,∃x:List (El u),s.box k=.vec u x/\(mV ty t).ag=true/\x.length=(mV ty t).sz)
theorem PF{R:Type}{r:R}{ty:List (Nat×TI)}{s:TS}:∀{rv:List ResultVar}{K:Option R},H8 ty s rv K=some r->K=some r/\∀v∈rv,XB ty s v
 |[],K,h=>⟨h,by simp⟩
 |.tmp k::rv,K,h=>by
  obtain⟨A,H⟩:=PF (rv:=rv) (K:=K) h;refine⟨A,λv y=>?_⟩;rcases cO.1 y with rfl|y
  ·trivial
  ·exact H v y
 |.cell a t::rv,K,h=>by
  simp only[H8] at h;split at h
  ·rename_i k j N;split at h
   ·rename_i Q I;obtain⟨x,A⟩:=bQ.1 h;obtain⟨H,J⟩:=PF A;refine⟨H,λv y=>?_⟩;rcases cO.1 y with rfl|y
    ·rw[Be] at x;cases D:(mV ty t).var with
     |false=>rw[D] at x;simp at x
     |true=>
      rw[D,aF] at x;cases F:Nat.beq (mV ty t).sz Q.length with
      |false=>rw[F] at x;simp at x
      |true=>
       rw[F,aF] at x;refine⟨k,j,N,D,.inl ⟨Q,I,gr F,?_⟩⟩;cases S:(mV ty t).ag with
       |true=>
        rw[S,aF] at x;refine .inl ⟨rfl,λe=>?_⟩;rw[e] at x;simp at x
       |false=>
        rw[S,aH] at x;exact .inr ⟨rfl,gr x⟩
    ·exact J v y
   ·rename_i Y U I;obtain⟨x,A⟩:=bQ.1 h;obtain⟨u,M,A⟩:=dw.1 A;have M:=nG.1 M;obtain⟨H,J⟩:=PF A;refine⟨H,λv y=>?_⟩;rcases cO.1 y with rfl|y
    ·cases D:(mV ty t).var with
     |false=>rw[D] at x;simp at x
     |true=>
      rw[D,aF] at x;refine⟨k,j,N,D,.inr ⟨Y,U,I,x,?_⟩⟩;have Z:((U.length:Nat):Int)=((mV ty t).sz:Nat):=ef M;omega
    ·exact J v y
   ·simp at h
  ·simp at h
section
variable{P:Program}{C:Cx}{E:Env}{s:TS}{g:Gs}{w:World}{nt:Nat}{a:Act}
def ZP(c:Rc)(n:Nat)(pre2:aZ):(r:ea)->r.T->Value->Prop|.val q,x,u=>Rd c (some (.aw n,pre2)) (q.enc x) u|.nb t m,x,u=>pre2=[]->∃b,u=qw b/\xw c (.aw n) b (jC m (enc false t x))
theorem ace{b:Nat}{vs:Array Value}{e:TypeId}{fr:Nat×Nat}(y:w.heap[b]?=some (.cells vs e fr))(A:zp vs.size fr):∀(j:Nat)v,vs.toList[j]?=some v->cellAt w b (0+j)=some v:=λj v u=>by
 rw[ni] at u;show w.cell? ⟨b,0+j,none⟩=some v;have x:=(akH.1 u).1;simp only[World.cell?,y,iu];have:=A j x;simp[this,u]
theorem alT(e:Addr):(asAddr (.pointer (some e))).run P w=.ok e w:=by simp[asAddr,go_sem]
theorem apU(hC:eW P C)(h:Rel C E s g w)(l:cD nt g a){c':Rc}{n:Nat}{pre2:aZ}{r:ea}{v:ResultVar}{x:r.T}(N:kx (g.rc C w) c')(Z:∀cl∈nU s r v n pre2,Tn (g.rc C w) c' cl.K cl.q cl.pre (.aw n) pre2)(hv:Ij nt v=true)(Mt:XB C.ty s v)(y:H7 r (sY s v) s=some x):
  ∃u,(Ii v a.tmps).run P w=.ok u w/\ZP c' n pre2 r x u:=by
 cases v with
 |tmp k=>
  have hk:k<nt:=by simpa[Ij,wO] using hv
  refine⟨g.tm k,by simp only[Ii];rw[l.tm k hk];rfl,?_⟩;have h0:=h.eK k;cases r with
  |val q=>
   have y:q.dec (Ev.look s (s.slot k))=some x:=y;show Rd c' (some (.aw n,pre2)) (q.enc x) (g.tm k);cases D:s.slot k with
   |vw p t=>
    rw[D] at y h0;cases p with
    |slot j=>
     simp only[Ev.look] at y;have bL:(g.rc C w).va (.slot j)=some (g.tm k):=by
      generalize g.tm k=u at h0
      cases h0 with
      |vw _ _ _ _ _ bL=>exact bL
     obtain⟨_,en⟩:=WQ bL;have H:=h.eK j;rw[en] at H;cases II:s.slot j with
     |own d t' xs=>
      rw[II] at y H;have A:(⟨.slot j,[],n,pre2,qR q⟩:Claim)∈nU s (.val q) (.tmp k) n pre2:=by simp only[nU,D,II,wm,fe]
      exact ve N (Z _ A) y H
     |bJ t' xs=>
      rw[II] at y H;exact RJ N y rfl H rfl
     |_=>rw[II] at y;simp only[] at y;rcases HM y with⟨cs,F⟩|F<;>first|(cases F;done)|exact RJ N y rfl (.un (some (.aw 0,[])) _) rfl
    |_=>
     rcases HM y with⟨cs,F⟩|F
     ·simp[Ev.look] at F
     ·simp[Ev.look,ik,eE,bC] at F
   |own d t xs=>
    rw[D] at y h0;have A:(⟨.slot k,[],n,pre2,qR q⟩:Claim)∈nU s (.val q) (.tmp k) n pre2:=by simp only[nU,D,wm,fe]
    exact ve N (Z _ A) y h0
   |agg cs=>
    rw[D] at y h0;have A:(⟨.slot k,[],n,pre2,qR q⟩:Claim)∈nU s (.val q) (.tmp k) n pre2:=by simp only[nU,D,wm,fe]
    exact ve N (Z _ A) y h0
   |gJ t xs r0 c0=>
    rw[D] at y;rcases HM y with⟨cs,F⟩|F<;>simp[Ev.look,ik,eE,bC] at F
   |dM cs=>
    rw[D] at y;rcases HM y with⟨cs,F⟩|F<;>simp[Ev.look,ik,eE,bC] at F
   |_=>rw[D] at y h0;exact RJ N y rfl h0 rfl
  |nb t m=>
   intro hp;subst hp;have y:H7 (.nb t m) (Ev.look s (s.slot k)) s=some x:=y;cases D:s.slot k with
   |ptr j i=>
    rw[D] at y h0;cases i with
    |succ i=>have:(none:Option (El t))=some x:=y;simp at this
    |zero=>
     have Cg:sX (.st t m) (s.box j)=some x:=by
      have:(match s.box j with|.cells cs=>bif okF m cs then Ev.dec t cs else none|_=>none:Option (El t))=some x:=y
      cases I:s.box j with
      |cells cs=>rw[I] at this;exact this
      |_=>rw[I] at this;simp at this
     have A:(⟨.box j,[],n,[],wi (.st t m)⟩:Claim)∈nU s (.nb t m) (.tmp k) n []:=by simp only[nU,D,wm,fe]
     refine⟨g.bx j,?_,QZ N (Z _ A) Cg (yU.1 (h.boxes j))⟩;generalize g.tm k=u at h0;cases h0;rfl
   |vw p t'=>
    rw[D] at y;cases p with
    |slot j=>
     simp only[Ev.look] at y;cases II:s.slot j<;>rw[II] at y<;>(have:(none:Option (El t))=some x:=y;simp at this)
    |_=>have:(none:Option (El t))=some x:=y;simp at this
   |_=>rw[D] at y;have:(none:Option (El t))=some x:=y;simp at this
 |cell J ty=>
  have hk:J<nt:=by simpa[Ij,wO] using hv
  obtain⟨k,j,D,oD,eF⟩:=Mt;have h0:=h.eK J;rw[D] at h0;have en:g.tm J=.pointer (some ⟨g.bx k,j,none⟩):=by
   generalize g.tm J=u at h0
   cases h0;rfl
  have H:j=0:=by
   cases j with
   |zero=>rfl
   |succ j=>
    exfalso
    have hr:sY s (.cell J ty)=.un:=by simp only[sY,D]
    rw[hr] at y
    cases r with
    |val q=>rcases HM (show q.dec .un=some x from y) with⟨cs,F⟩|F<;>first|(cases F;done)|skip
            cases q with
            |el t m=>
             rcases G8 (show(VS.el t m).dec .un=some x from y) with⟨cs,M,_⟩|⟨S,y,_⟩
             ·cases M
             ·cases t<;>simp[Ev.fP,Ev.dec] at S y
            |sl f t=>obtain⟨_,M⟩:=KM (show(VS.sl f t).dec .un=some x from y);simp[dN] at M
            |eM t=>have:=Kl (show(VS.eM t).dec .un=some x from y);cases this
            |vec t=>have:=GX (show(VS.vec t).dec .un=some x from y);cases this
            |er=>rcases G9 (show VS.er.dec .un=some x from y) with M|⟨M,_⟩<;>cases M
    |nb t m=>have:(none:Option (El t))=some x:=y;simp at this
  subst H;have aa:∀{vs:List Value},vs.length=(C.aR ty).sz->(∀(j:Nat)v,vs[j]?=some v->cellAt w (g.bx k) (0+j)=some v)->(Ii (.cell J ty) a.tmps).run P w=.ok (if(C.aR ty).ag=true then .agg vs.toArray else vs[0]?.getD undef) w:=λhl hc=>by
   simp only[Ii]
   rw[l.tm J hk,en]
   have h1:=run_load hC oD hl hc
   simp only[go_sem,alT]
   exact h1
  have kI:=yU.1 (h.boxes k);rcases eF with⟨cs,I,U,ab⟩|⟨t',xs,I,S,U⟩
  ·rw[I] at kI;obtain⟨vs,e,fr,h1,h2,h3,Q,h5,h6⟩:=kI;refine⟨_,aa (vs:=vs.toList) (by simp only[Jb];rw[Q];exact U.symm) (ace h1 h2),?_⟩;rcases ab with⟨S,R⟩|⟨S,R⟩
   ·have Ig:(C.aR ty).ag=true:=S;rw[aD Ig];have EW:sY s (.cell J ty)=.agg cs:=by
     simp only[sY,D,I]
     match cs,R with
     |[c],R=>simp at R
     |[],_=>rfl
     |_::_::_,_=>rfl
    rw[EW] at y;cases r with
    |nb t m=>have:(none:Option (El t))=some x:=y;simp at this
    |val q=>
     have y:q.dec (.agg cs)=some x:=y;have dx:∀Y∈cs,lh Y=true:=λY a8=>by
      cases q with
      |el t m=>
       rcases G8 y with⟨gy,he,_,_,y⟩|⟨_,_,hn⟩
       ·cases he;obtain⟨j,H⟩:=Oq.1 a8;obtain⟨hl,hc⟩:=(w7 false y).get;have ap:=(da.1 H).1;have am:(enc false t x)[j]?=some ((enc false t x)[j]'(by omega)):=cT _;exact GW (VZ (hc j Y _ H am) (fg am))
       ·exact absurd rfl (hn cs)
      |sl f t=>obtain⟨_,M⟩:=KM y;simp[dN] at M
      |eM t=>have:=Kl y;cases this
      |vec t=>have:=GX y;cases this
      |er=>rcases G9 y with M|⟨M,_⟩<;>cases M
     have gk:Rd (g.rc C w) (some (.box k,[])) (.agg cs) (.agg vs.toList.toArray):=by
      rw[Array.toArray_toList]
      exact .agg _ _ _ dx Q (λj Y v H hv=>(h6 j Y v H hv).1) (λj Y v H hv=>by simpa[lZ] using(h6 j Y v H hv).2)
     have A:(⟨.box k,[],n,pre2,qR q⟩:Claim)∈nU s (.val q) (.cell J ty) n pre2:=by
      simp only[nU,D,I,wm,fe]
      congr 1
      match cs,R with
      |[c],R=>simp at R
      |[],_=>rfl
      |_::_::_,_=>rfl
     exact ve N (Z _ A) y gk
   ·have Ig:¬ (C.aR ty).ag=true:=by
      have:(C.aR ty).ag=false:=S
      simp[this]
    rw[aE Ig]
    match cs,R,I,Q,h5,h6 with
    |[c],_,I,Q,h5,h6=>
     have EU:vs[0]?=some (vs[0]'(by rw[Q];simp)):=jX _;have hu:vs.toList[0]?.getD undef=vs[0]'(by rw[Q];simp):=by rw[ni,EU];rfl
     rw[hu];have EW:sY s (.cell J ty)=c:=by simp only[sY,D,I]
     rw[EW] at y;cases r with
     |nb t m=>
      have xV:=h5 c (by simp);cases c<;>first|(have:(none:Option (El t))=some x:=y;simp at this;done)|simp[j1,eE,bC] at xV
     |val q=>
      have A:(⟨.box k,[(0,0)],n,pre2,qR q⟩:Claim)∈nU s (.val q) (.cell J ty) n pre2:=by simp only[nU,D,I,wm,fe]
      exact ve N (Z _ A) y (h6 0 c _ rfl EU).2
  ·rw[I] at kI;obtain⟨vs,e,fr,h1,h2,h3,ao,Q⟩:=kI;refine⟨_,aa (vs:=vs.toList) (by rw[Q,qf];exact U) (ace h1 h2),?_⟩;have Ig:(C.aR ty).ag=true:=S;rw[aD Ig,Q];have EW:sY s (.cell J ty)=.vec t' xs:=by simp only[sY,D,I]
   rw[EW] at y;cases r with
   |nb t m=>have:(none:Option (El t))=some x:=y;simp at this
   |val q=>exact RJ N (show q.dec (.vec t' xs)=some x from y) rfl (.vec (some (.aw 0,[])) _ _ ao) rfl
end
end
section
def EX(c:Rc)(n:Nat)(one:Bool):Nat->(rs:List ea)->kt rs->List Value->Prop
 |_,[],_,e=>e=[]
 |_,_::_,_,[]=>False
 |j,r::rs,x,u::e=>ZP c n (if one then[] else[(0,j)]) r x.1 u/\EX c n one (j+1) rs x.2 e
section
variable{P:Program}{C:Cx}{E:Env}{s:TS}{g:Gs}{w:World}{nt:Nat}{a:Act}
theorem adr(hC:eW P C)(h:Rel C E s g w)(l:cD nt g a){c':Rc}{n:Nat}{one:Bool}(S:kx (g.rc C w) c'):∀(rs:List ea)(D:List ResultVar)(j:Nat){x:kt rs},
  (∀y∈Eg s n one j rs D,Tn (g.rc C w) c' y.K y.q y.pre (.aw y.n) y.pre2)->(∀v∈D,Ij nt v=true)->(∀v∈D,XB C.ty s v)->rD rs D s=some x->
  ∃J,(D.mapM λv=>Ii v a.tmps).run P w=.ok J w/\EX c' n one j rs x J
 |[],[],j,x,_,_,_,A=>⟨[],by simp[go_sem],rfl⟩
 |[],_::_,_,x,_,_,_,A=>by simp[rD] at A
 |_::_,[],_,x,_,_,_,A=>by simp[rD] at A
 |r::rs,v::D,j,x,U,Y,Z,A=>by
  have N:∃H F,H7 r (sY s v) s=some H/\rD rs D s=some F/\x=(H,F):=by
   simp only[rD] at A
   cases I:H7 r (sY s v) s with
   |none=>rw[I] at A;simp at A
   |some H=>
    cases M:rD rs D s with
    |none=>rw[I,M] at A;simp at A
    |some F=>rw[I,M] at A;exact⟨H,F,rfl,rfl,(gB A).symm⟩
  obtain⟨H,F,I,M,rfl⟩:=N;have Q:=(acd s r v n (if one then[] else[(0,j)])).2;have EY:∀y∈nU s r v n (if one then[] else[(0,j)]),y.pre2=(if one then[] else[(0,j)]):=by
   intro y e
   unfold nU at e
   cases v with
   |tmp k=>
    simp only[] at e
    split at e
    ·split at e
     ·simp only[fe] at e;subst e;rfl
     ·simp at e
    ·simp only[fe] at e;subst e;rfl
    ·simp only[fe] at e;subst e;rfl
    ·simp only[fe] at e;subst e;rfl
    ·simp at e
   |cell a t=>
    simp only[] at e;split at e
    ·simp only[fe] at e;subst e;rfl
    ·simp at e
  obtain⟨u,hu,hr⟩:=apU hC h l (c':=c') (n:=n) (pre2:=if one then[] else[(0,j)]) S (λy e=>by
   have:=U y (by simp only[Eg];exact cU.2 (.inl e))
   rwa[Q y e,EY y e] at this) (Y v (by simp)) (Z v (by simp)) I;obtain⟨J,ZQ,NA⟩:=adr hC h l S rs D (j+1) (x:=F) (λy e=>U y (by simp only[Eg];exact cU.2 (.inr e))) (λv R=>Y v (by simp[R])) (λv R=>Z v (by simp[R])) M;refine⟨u::J,?_,hr,NA⟩;rw[List.mapM_cons];simp[go_sem,hu,ZQ]
theorem aeJ{c:Rc}{n:Nat}{one:Bool}:∀{rs:List ea}{j:Nat}{x:kt rs}{e:List Value},EX c n one j rs x e->e.length=rs.length
 |[],_,_,_,h=>by simp[EX] at h;simp[h]
 |_::_,_,_,[],h=>h.elim
 |r::rs,j,x,u::e,h=>by simp[aeJ h.2]
theorem ads:∀{rs:List ea}{x:kt rs}{c:Rc}{n j:Nat}{y:List Value},EX c n false j rs x y->∀(i:Nat)e u,(fQ rs x)[i]?=some e->y[i]?=some u->Rd c (some (.aw n,[(0,j+i)])) e u
 |[],_,_,_,_,_,_,i,e,u,h,_=>by simp[fQ] at h
 |_::_,_,_,_,_,[],h,_,_,_,_,_=>h.elim
 |r::rs,x,c,n,j,F::y,h,i,e,u,hi,A=>by
  cases i with
  |zero=>
   simp only[tU,aQ] at A;subst A;have D:=h.1;cases r with
   |val q=>
    simp only[fQ,tU,aQ] at hi;subst hi;simpa[ZP] using D
   |nb t m=>
    simp only[fQ,tU,aQ] at hi;subst hi;exact .un _ _
  |succ i=>
   have H:=ads (rs:=rs) h.2 i e u (by cases r<;>simpa[fQ] using hi) (by simpa using A);rwa[show j+(i+1)=j+1+i by omega]
theorem V9:∀{rs:List ea}{x:kt rs},(fQ rs x).length=rs.length
 |[],_=>rfl
 |.val q::rs,x=>by simp[fQ,V9 (rs:=rs)]
 |.nb t m::rs,x=>by simp[fQ,V9 (rs:=rs)]
theorem apW:∀(rs:List ea)(x:kt rs)j,j∈fQ rs x->ik j=true:=by
 intro rs;induction rs with
 |nil=>intro x j e;simp[fQ] at e
 |cons r rs u=>
  intro x j e;cases r with
  |val q=>
   simp only[fQ,cO] at e;rcases e with rfl|e
   ·exact(Hz q x.1).1
   ·exact u _ _ e
  |nb t m=>
   simp only[fQ,cO] at e;rcases e with rfl|e
   ·rfl
   ·exact u _ _ e
theorem apX{c:Rc}{n:Nat}{rs:List ea}{x:kt rs}{us:List Value}(h:EX c n (rs.length==1) 0 rs x us):uG c n rs x (if h:us.toArray.size=1 then us.toArray[0] else .tuple us.toArray):=by
 have e:=aeJ h
 match rs,x,us,h,e with
 |[],x,[],h,_=>exact .dM _ _ _ (by simp[fQ]) rfl (by simp[fQ])
 |[.val q],x,[u],h,_=>exact h.1
 |[.nb t m],x,[u],h,_=>exact h.1 rfl
 |r1::y::rs,x,us,h,e=>
  have F:¬ us.toArray.size=1:=by simp at e⊢;omega
  rw[dif_neg F];have H:EX c n false 0 (r1::y::rs) x us:=h;have A:Rd c (some (.aw n,[])) (.dM (fQ (r1::y::rs) x)) (.tuple us.toArray):=by
   refine .dM _ _ _ (λD I=>apW _ _ D I) (by simp[V9] at e⊢;exact e) (λj D v J M=>?_)
   have:=ads H j D v J (by simpa using M)
   simpa[lZ] using this
  cases r1<;>(cases y<;>exact A)
theorem adt(h:Rel C E s g w){Y:Rc}(M:kx (g.rc C w) Y){F:Nat->Value}{vals:List Value}(en:∀i,g.tm (nt+i)=F i)(eF:∀i b,vals[i]?=some (qw b)->g.bx (nt+i)=b){Td:Nat->G}{w0:World}:
  ∀(ps:List bO)(i:Nat){o:pV ps}{x:qJ ps}{N:List Value},(∀cl∈xy nt i ps,Tn (g.rc C w) Y cl.K cl.q cl.pre (.aw cl.n) cl.pre2)->tc (bW Td w0) F i ps x N->(∀j,N[j]?=vals[i+j]?)->Ea nt i ps s=some o->Ew Y F i ps o N
 |[],i,o,x,N,_,_,_,_=>trivial
 |p::ps,i,o,x,[],_,Z,_,_=>Z.elim
 |p::ps,i,o,x,v::N,hT,Z,qO,H=>by
  have aa:∃o1 Q,YE nt i p s=some o1/\Ea nt (i+1) ps s=some Q/\o=(o1,Q):=by
   simp only[Ea] at H
   cases D:YE nt i p s with
   |none=>rw[D] at H;simp at H
   |some o1=>
    cases h2:Ea nt (Nat.succ i) ps s with
    |none=>rw[D,h2] at H;simp at H
    |some Q=>rw[D,h2] at H;exact⟨o1,Q,rfl,rfl,(gB H).symm⟩
  obtain⟨o1,Q,D,h2,rfl⟩:=aa;have hv:vals[i]?=some v:=by simpa using(qO 0).symm
  refine⟨?_,adt h M en eF ps (i+1) (λcl I=>hT cl (by simp only[xy];exact cU.2 (.inr I))) Z.2 (λj=>by have:=qO (j+1);simpa[ra,Ap 1 j] using this) h2⟩;have vS:∀cl∈zB nt i p,Tn (g.rc C w) Y cl.K cl.q cl.pre (.aw cl.n) cl.pre2:=λcl I=>hT cl (by simp only[xy];exact cU.2 (.inl I));have tJ:=Z.1;cases p with
  |val q=>trivial
  |rp t=>trivial
  |fn gg ts=>trivial
  |pb t m m'=>
   obtain⟨b,u,_⟩:=tJ;have YU:=eF i b (by rw[hv,u]);have Cg:sX (.st t m') (s.box (nt+i))=some o1:=by
    have:(match s.box (nt+i) with|.cells cs=>bif okF m' cs then Ev.dec t cs else none|_=>none:Option (El t))=some o1:=D
    cases A:s.box (nt+i) with
    |cells cs=>rw[A] at this;exact this
    |_=>rw[A] at this;simp at this
   have R:=QZ M (vS ⟨.box (nt+i),[],i,[],wi (.st t m')⟩ (by simp[zB])) Cg (yU.1 (h.boxes (nt+i)));refine⟨b,u,?_⟩;have e:(g.rc C w).bx (nt+i)=b:=YU;rw[e] at R;exact R
  |bd=>
   obtain⟨b,u,_⟩:=tJ;have YU:=eF i b (by rw[hv,u]);have kI:=yU.1 (h.boxes (nt+i));have S:s.box (nt+i)=.iG o1:=by
    have:(match s.box (nt+i) with|.iG x=>some x|_=>none:Option aj)=some o1:=D
    cases A:s.box (nt+i) with
    |iG y=>rw[A] at this;exact congrArg BC.iG (gB this)
    |_=>rw[A] at this;simp at this
   rw[S] at kI;have R:=Hc M (vS ⟨.box (nt+i),[],i,[],λ_=>True⟩ (by simp[zB])) kI;refine⟨b,u,?_⟩;have e:(g.rc C w).bx (nt+i)=b:=YU;rw[e] at R;exact R
  |pr t=>
   have S:s.slot (nt+i)=.own true t o1:=by
    have:(match s.slot (nt+i) with|.own true J U=>if h:J=t then some (ki h U) else none|_=>none:Option (List (El t)))=some o1:=D
    cases A:s.slot (nt+i) with
    |own d J U=>
     rw[A] at this
     cases d with
     |false=>simp at this
     |true=>
      simp only[] at this
      split at this
      ·rename_i ht;subst ht;exact congrArg (TV.own true J) (gB this)
      ·simp at this
    |_=>rw[A] at this;simp at this
   have h0:=h.eK (nt+i);rw[S,en] at h0;exact h0.all rfl M (vS ⟨.slot (nt+i),[],i,[],λ_=>True⟩ (by simp[zB]))
  |mu t=>
   have S:s.slot (nt+i)=.own true t o1:=by
    have:(match s.slot (nt+i) with|.own true J U=>if h:J=t then some (ki h U) else none|_=>none:Option (List (El t)))=some o1:=D
    cases A:s.slot (nt+i) with
    |own d J U=>
     rw[A] at this
     cases d with
     |false=>simp at this
     |true=>
      simp only[] at this
      split at this
      ·rename_i ht;subst ht;exact congrArg (TV.own true J) (gB this)
      ·simp at this
    |_=>rw[A] at this;simp at this
   have h0:=h.eK (nt+i);rw[S,en] at h0;exact h0.all rfl M (vS ⟨.slot (nt+i),[],i,[],λ_=>True⟩ (by simp[zB]))
theorem acf:∀{rs:List ea}{e:List ResultVar}{x:kt rs},rD rs e s=some x->rs.length=e.length
 |[],[],_,_=>rfl
 |[],_::_,_,h=>by simp[rD] at h
 |_::_,[],_,h=>by simp[rD] at h
 |r::rs,v::e,x,h=>by
  simp only[rD] at h;cases j:H7 r (sY s v) s with
  |none=>rw[j] at h;simp at h
  |some y=>
   cases u:rD rs e s with
   |none=>rw[j,u] at h;simp at h
   |some A=>simp[acf u]
theorem asX(hm:P.follows .mixedOrders=true){f:Nat}{fn:Func}{code:Code}(hf:P.funcs[f]?=some fn)(hb:fn.body=some code)(rX:fn.ntmps=nt)(L0:fn.name≠ "runtime.NumGoroutine"){c:fR}(D:Ctx c.X)(hC:eW P D.c)(hF:uj P D.c)(mc:LA P D.c nt)
  (Ih:∀i,(∀p,¬ MV p (D.c.gl i))/\∀k,¬ MB k (D.c.gl i)){g0:kt c.rs×pV c.ps->c.X}(Y:D.H3=Xs D.c.ty nt fn.results.toList c.ps c.rs g0)(ZR:∀y,c.back (g0 y)=y)(cL:mS P D.c nt code=true)(Z:xe P D nt code)(aa:vr D.c nt 0 c.ps=true)
  (N:c.ps.length<=nt)(EW:∀v∈fn.results.toList,Ij nt v=true)(ab:∀a y,c.f a=some y->M2 D nt code c.ps a=some y):Enters P f/\Ly P D.c.gl D.c.gb f c:=by
 refine⟨⟨fn,hf,L0,by rw[hb];rfl⟩,λγ w vals hds x y U EV Ns hy=>?_⟩;have jU:vals.length<=nt:=by rw[adp Ns];exact N
 have Q:=amI jU Ns U EV Ih aa;have ad:=amJ (ps:=c.ps) (γ:=γ) (hds:=hds) jU;have pg:=ab x y hy;unfold M2 at pg;refine calls_of_wp hf hb ?_;rw[rX];have done:∀A J H F,D.H3 A=some y->Rel D.c ⟨w.heap.size,qC c.ps nt γ,w⟩ A J F->cD nt J H->jf nt (kK c.ps nt γ vals hds) J->
   H.defers=[]/\∃v,(results fn H.tmps).run P F=.ok v F/\∃M u,Ending.returned v=.returned M/\bw (λq _=>∃n,q=.aw n) γ w u F/\uG (bW u F) c.ps.length c.rs (c.back y).1 M/\Ew (bW u F) hds 0 c.ps (c.back y).2 vals:=by
  intro A J H F j h l kp
  refine⟨l.df,?_⟩
  rw[Y] at j
  unfold Xs at j
  obtain⟨am,j⟩:=bQ.1 j
  obtain⟨j,Mt⟩:=PF j
  cases hx:rD c.rs fn.results.toList A with
  |none=>rw[hx] at j;simp at j
  |some xr=>
   cases ho:Ea nt 0 c.ps A with
   |none=>rw[hx,ho] at j;simp at j
   |some ou=>
    rw[hx,ho] at j
    have ao:g0 (xr,ou)=y:=gB j
    have ap:c.back y=(xr,ou):=by rw[<-ao];exact ZR _
    rw[ap]
    have Nz:=amK (nt:=nt) (n:=c.ps.length) (ps:=c.ps) (acf hx) am
    have R:=apS (C:=D.c) (cs:=RI A nt c.ps.length c.rs fn.results.toList c.ps) h.aC U
    have S:=λ{cl:Claim}(I:cl∈RI A nt c.ps.length c.rs fn.results.toList c.ps)=>apT (C:=D.c) h.aC U Nz I
    obtain⟨us,ZQ,NA⟩:=adr hC h l (n:=c.ps.length) (one:=c.rs.length==1) R c.rs fn.results.toList 0 (λcl I=>S (cU.2 (.inl I))) EW Mt hx
    refine⟨_,?_,_,_,rfl,an8 (cs:=RI A nt c.ps.length c.rs fn.results.toList c.ps) h.aC U,apX NA,?_⟩
    ·have e:results fn H.tmps=(do let vs<-fn.results.mapM (λv=>Ii v H.tmps);pure (if h:vs.size=1 then vs[0] else .tuple vs)):=by
       unfold results
       congr 2
     rw[e,Array.mapM_eq_mapM_toList];simp[go_sem,ZQ]
    ·exact adt h R (vals:=vals) (λi=>by rw[(kp (nt+i) (by omega)).1];exact Lg) (λi b hv=>by rw[(kp (nt+i) (by omega)).2];exact XA hv) c.ps 0 (λcl I=>S (cU.2 (.inr I))) Ns (by simp) ho
 refine Ee hm hC hF mc code pg cL Z Q ad ⟨λA J H F j h l kp=>?_,λi A J H F j h l kp=>by simp at j,λA J H F j h l kp=>?_⟩
 ·obtain⟨h1,v,h2,M,u,he,h3⟩:=done A J H F j h l kp;exact⟨h1,v,h2,M,u,he,h3⟩
 ·obtain⟨h1,v,h2,M,u,he,h3⟩:=done A J H F j h l kp;exact⟨h1,v,h2,M,u,he,h3⟩
end
end
section
section
variable{P:Program}{C:Cx}{E:Env}{nt n:Nat}{o:Oper}{s s1:TS}{g g1:Gs}{a:Act}{w w1:World}{R:Type}{r:R}{K:TS->Option R}
theorem amL{k:Nat}{v:TV}(h:whole v=true):fJ (o9 C k v)=true:=by
 cases v<;>simp_all [whole,o9,fJ]<;>cases C.vs k<;>rfl
theorem alr(hC:eW P C)(h:Rel C E s g w)(l:cD nt g a)(I:gN nt o.dst){x:Operand}(F:o.op=.assign x)(hx:dW nt x=true)
  (D:o.dst=none\/(∃d,o.dst=some d/\C.al d=true)\/((∀p t,aU C s x≠.vw p t)/\∀p t lo hi,aU C s x≠.sl p t lo hi))(y:Ev.step C o s K=some r):gv P C E nt o g a w K r (λ_=>False):=by
 have j:(∀d,o.dst=some d->C.al d=true)->gv P C E nt o g a w K r (λ_=>False):=λJ=>
  (ab5 h l I F hx hC.gl y).mono λq⟨_,d,e,A⟩=>by rw[J d e] at A;cases A
 cases u:o.dst with
 |none=>exact j λd e=>by rw[u] at e;cases e
 |some d=>
  cases H:C.al d with
  |true=>exact j λM e=>by rw[u] at e;cases e;exact H
  |false=>
   have D:(∀p t,aU C s x≠.vw p t)/\∀p t lo hi,aU C s x≠.sl p t lo hi:=by
    rcases D with e|⟨M,e,A⟩|N
    ·rw[u] at e;cases e
    ·rw[u] at e;cases e;rw[H] at A;cases A
    ·exact N
   have Q:(execOp a.eval o).run P w=.ok (.value (a.eval x)) w:=by simp[execOp,F]
   have S:=iS h l hx;have U:=Pz (s:=s) hC.gl (x:=x);simp only[Ev.step,F] at y;generalize aU C s x=v at*;clear j;cases v<;>simp only[u,H,aH,cv] at y<;>first
    |exact absurd rfl (D.1 _ _)
    |exact absurd rfl (D.2 _ _ _ _)
    |exact kS h l I S rfl Q (by rw[u];exact y)
    |(exfalso;rcases U with⟨_,e⟩|⟨_,e⟩|e<;>first|(simp at e;done)|(simp[fJ] at e;done))
    |(simp at y;done)
    |skip
theorem apY(hC:eW P C)(h:Rel C E s g w)(l:cD nt g a)(cL:qn P C nt o=true)(F:qu C s o=true)(lK:pO s o=[])(D:Ev.step C o s K=some r):gv P C E nt o g a w K r (λ_=>False):=by
 obtain⟨H,hx⟩:=yH cL;have zy:=cL;simp only[qn,bo] at zy;have A:=zy.2;simp only[qu] at F;cases u:o.op with
 |move x=>
  have M:=hx x (by simp[u,Op.operands]);rw[u] at F;have U:iD s x=s->fJ (aU C s x)=true->gv P C E nt o g a w K r (λ_=>False):=λY N=>by
   simp only[Ev.step,u,Y] at D
   exact kS h l H (iS h l M) N (by simp[execOp,u]) D
  cases x with
  |tmp k=>exact U (abB F) (amL F)
  |const v=>
   refine(QU hC h l H u M D).mono λq⟨k,e,_⟩=>by cases e
  |global i=>exact(QU hC h l H u M D).mono λq⟨k,e,_⟩=>by cases e
  |func i=>exact(QU hC h l H u M D).mono λq⟨k,e,_⟩=>by cases e
 |assign x=>
  have M:=hx x (by simp[u,Op.operands]);refine alr hC h l H u M ?_ D;rw[u] at F;cases x with
  |tmp k=>
   simp only[] at F;cases l8:o.dst with
   |none=>exact .inl rfl
   |some d=>
    refine .inr ?_;cases wg:C.al d with
    |true=>exact .inl ⟨d,rfl,wg⟩
    |false=>
     refine .inr ?_;simp only[l8,wg] at F;simp only[aU];generalize s.slot k=v at F;cases v<;>first
      |(simp at F;done)
      |(exact⟨λp t=>by simp[o9],λp t lo hi=>by simp[o9]⟩)
  |const v=>
   refine .inr (.inr ⟨λp t e=>?_,λp t lo hi e=>?_⟩)
   ·obtain⟨k,N,_⟩:=y5 (C:=C) (s:=s) (λi=>(h.l9 i).1) (p:=p) (x:=.const v) (by rw[e];exact .vw _);cases N
   ·obtain⟨k,N,_⟩:=y5 (C:=C) (s:=s) (λi=>(h.l9 i).1) (p:=p) (x:=.const v) (by rw[e];exact .sl _ _ _);cases N
  |global i=>
   refine .inr (.inr ⟨λp t e=>?_,λp t lo hi e=>?_⟩)
   ·exact(h.l9 i).1 p (by simp only[aU] at e;rw[e];exact .vw _)
   ·exact(h.l9 i).1 p (by simp only[aU] at e;rw[e];exact .sl _ _ _)
  |func i=>exact .inr (.inr ⟨λp t e=>by simp[aU] at e,λp t lo hi e=>by simp[aU] at e⟩)
 |load t x=>exact aen hC h l H u (hx x (by simp[u,Op.operands])) D
 |nilCheck x=>exact aa6 h l H u (hx x (by simp[u,Op.operands])) D
 |binOp op t x y t'=>
  rw[u] at A;exact ac3 hC h l H u (hx x (by simp[u,Op.operands])) (hx y (by simp[u,Op.operands])) A D
 |unOp op t x=>exact ael h l H u (hx x (by simp[u,Op.operands])) D
 |makeInterface t x=>
  rw[u] at A;exact aaW hC h l H u D (λQ=>by simp[Q] at A)
 |makeFunc f first cap=>
  cases f with
  |func fi=>
   rw[u] at A;have hf:first=#[]:=by simpa using A
   exact aa7 h l H u hf (λz hz=>hx z (by simp only[u,Op.operands,On];exact cU.2 (.inr hz))) D
  |_=>simp[Ev.step,u] at D
 |slice t x lo hi mx=>
  have Q:∀z:Option Operand,(∀y,z=some y->y∈o.op.operands.toList)->Ib nt z=true:=λz hz=>by
   cases z with
   |none=>rfl
   |some y=>exact hx y (hz y rfl)
  exact ac6 hC h l H u (hx x (by simp[u,Op.operands])) (Q lo λy S=>by simp[u,Op.operands,S]) (Q hi λy S=>by simp[u,Op.operands,S]) (Q mx λy S=>by simp[u,Op.operands,S]) D
 |fieldAddr t x j=>exact aaZ hC h l H u (hx x (by simp[u,Op.operands])) D
 |indexAddr t x i=>exact aa0 hC h l H u (hx x (by simp[u,Op.operands])) (hx i (by simp[u,Op.operands])) D
 |index t x i=>exact ac4 hC h l H u (hx x (by simp[u,Op.operands])) (hx i (by simp[u,Op.operands])) D
 |extract x i=>
  rw[u] at F;cases x with
  |tmp k=>
   refine(abv h l H u (hx _ (by simp[u,Op.operands])) D).mono λq⟨_,vs,Y,N⟩=>?_;simp only[Y,N] at F;simp at F
  |_=>simp[Ev.step,u] at D
 |call c=>
  obtain⟨J,args,Z⟩:=c;rw[u] at F;cases J with
  |value f=>simp at F
  |invoke f m=>simp at F
  |builtin b=>
   rw[u] at A;have I:∀x∈args.toList,dW nt x=true:=λx M=>hx x (by simp[u,Op.operands,Call.operands];simpa using M);obtain⟨args⟩:=args;obtain⟨Z⟩:=Z;cases b with
   |len=>
    match args,Z,u,A,I with
    |[x],t::ts,u,A,I=>exact afA hC h l H u (I x (by simp)) D
    |[],_,u,A,_=>simp at A
    |_::_::_,_,u,A,_=>simp at A
    |[_],[],u,A,_=>simp[Ev.step,u] at D
   |append=>simp only[lK,agm] at F;cases F
   |min=>
    match args,u,A,I with
    |[x,y],u,A,I=>exact afy h l H u (I x (by simp)) (I y (by simp)) D
    |[],u,A,_=>simp at A
    |[_],u,A,_=>simp at A
    |_::_::_::_,u,A,_=>simp at A
   |max=>
    match args,u,A,I with
    |[x,y],u,A,I=>exact afz h l H u (I x (by simp)) (I y (by simp)) D
    |[],u,A,_=>simp at A
    |[_],u,A,_=>simp at A
    |_::_::_::_,u,A,_=>simp at A
   |_=>simp at F
 |_=>rw[u] at F;simp at F
end
end
section
section
variable{α:Type}
def dK:Tr α->Nat->Bool
 |.lf,_=>false
 |.nd l _ r,n=>if n=0 then true else if n % 2=1 then dK l (n/2) else dK r (n/2-1)
theorem DV(v:α):∀(t:Tr α)(i:Nat),dK (t.set i v)=dK t
 |.lf,_=>rfl
 |.nd l x r,i=>by
  rw[Kf];funext n;split
  ·rfl
  ·split
   ·simp only[dK,DV v l]
   ·simp only[dK,DV v r]
theorem Bf(f:α->α):∀(t:Tr α),dK (t.map f)=dK t
 |.lf=>rfl
 |.nd l x r=>by
  funext n;simp only[Tr.map,dK,Bf f l,Bf f r]
theorem Wa(z:α):∀(n i:Nat),i+1<2^n->dK (Tr.full z n) i=true
 |0,i,h=>by simp at h
 |n+1,i,h=>by
  simp only[Tr.full,dK];split
  ·rfl
  ·rw[yy] at h;split
   ·exact Wa z n _ (by omega)
   ·exact Wa z n _ (by omega)
theorem xf(z:α):∀(t:Tr α)(i:Nat),dK t i=false->t.get z i=z
 |.lf,_,_=>rfl
 |.nd l x r,i,h=>by
  rw[om];simp only[dK] at h;split at h
  ·simp at h
  ·rename_i h0;rw[aE h0];split at h
   ·rename_i a;rw[aD a];exact xf z l _ h
   ·rename_i a;rw[aE a];exact xf z r _ h
theorem JR(z v:α):∀(t:Tr α)(i:Nat),dK t i=true->(t.set i v).get z i=v
 |.lf,_,h=>by simp[dK] at h
 |.nd l x r,i,h=>by
  simp only[dK] at h;rw[Kf];split at h
  ·rename_i h0;rw[aD h0,om,aD h0]
  ·rename_i h0;rw[aE h0];split at h
   ·rename_i a;rw[aD a,om,aE h0,aD a];exact JR z v l _ h
   ·rename_i a;rw[aE a,om,aE h0,aE a];exact JR z v r _ h
theorem Kn(f:Nat->α)(t:Tr α):∀(l:List Nat),dK (l.foldr (λk t=>t.set k (f k)) t)=dK t
 |[]=>rfl
 |k::l=>by simp only[Ot];rw[DV,Kn f t l]
theorem Dy(z:α)(f:Nat->α)(t:Tr α)(j:Nat):∀(l:List Nat),(l.foldr (λk t=>t.set k (f k)) t).get z j=if eV j l=true/\dK t j=true then f j else t.get z j
 |[]=>by simp[eV]
 |k::l=>by
  simp only[Ot]
  by_cases e:k=j
  ·subst e
   by_cases a:dK t k=true
   ·rw[JR _ _ _ _ (by rw[Kn];exact a),aD ⟨by simp[eV],a⟩]
   ·rw[xf _ _ _ (by rw[DV,Kn];simpa using a),aE (λh=>a h.2),xf _ _ _ (by simpa using a)]
  ·rw[At _ _ _ _ _ e,Dy z f t j l];have:eV j (k::l)=eV j l:=by
    simp only[eV]
    cases u:Nat.beq j k with
    |true=>exact absurd (gr u).symm e
    |false=>rfl
   rw[this]
end
def kA(I O:TV->Bool):TV->TV
 |.agg a=>.agg (a.map λc=>if I c=true then .un else c)
 |v=>if O v=true then .un else v
theorem xA{I O:TV->Bool}{v:TV}(h:∀a,v≠.agg a):kA I O v=if O v=true then .un else v:=by
 cases v<;>first|rfl|exact absurd rfl (h _)
theorem BB(I O j u:TV->Bool)(v:TV):kA I O (kA j u v)=kA (λv=>I v||j v) (λv=>O v||u v) v:=by
 by_cases a:∃cs,v=.agg cs
 ·obtain⟨cs,rfl⟩:=a;simp only[kA,Jg,TV.agg.injEq];refine CM λc _=>?_;simp only[aaC]
  by_cases x:j c=true<;>simp[x]
 ·have a:∀cs,v≠.agg cs:=λcs e=>a ⟨cs,e⟩;rw[xA a,xA a];cases x:u v with
  |true=>simp only[fM,Bool.or_true];simp[kA]
  |false=>simp only[iJ,iy,Ou];exact xA a
theorem He{I O a e:TV->Bool}(j:∀v,I v=a v)(u:∀v,O v=e v)(v:TV):kA I O v=kA a e v:=by
 rw[funext j,funext u]
theorem apZ(I O a e:TV->Bool)(v:TV):kA I O (kA a e v)=kA a e (kA I O v):=by
 rw[BB,BB];exact He (λv=>Bool.or_comm _ _) (λv=>Bool.or_comm _ _) v
theorem Sg(I O:TV->Bool):kA I O .un=.un:=by simp[kA]
theorem LD{I O:TV->Bool}{v:TV}(h:∀cs,v=.agg cs->∀c∈cs,I c=false)(j:(∀cs,v≠.agg cs)->O v=false):kA I O v=v:=by
 by_cases a:∃cs,v=.agg cs
 ·obtain⟨cs,rfl⟩:=a;simp only[kA,TV.agg.injEq]
  conv=>rhs;rw[<-aaD cs]
  refine CM λc u=>?_;rw[h cs rfl c u];simp
 ·have a:∀cs,v≠.agg cs:=λcs e=>a ⟨cs,e⟩;rw[xA a,j a];simp
def kn:TV->Bool|.agg a=>Iw a|v=>B3 v
theorem aeK:∀{u:List TV},Iw u=true->∀c∈u,c≠.un
 |[],_,c,a=>by simp at a
 |v::vs,h,c,a=>by
  simp only[Iw] at h;cases j:B3 v with
  |false=>rw[j] at h;simp at h
  |true=>
   rw[j,aF] at h;rcases cO.1 a with rfl|a
   ·intro e;subst e;simp[B3] at j
   ·exact aeK h c a
theorem aeL:∀{x:List TV},B4 x=true->∀c∈x,kn c=true
 |[],_,c,j=>by simp at j
 |v::vs,h,c,j=>by
  have u:kn v=true/\B4 vs=true:=by
   unfold B4 at h
   split at h
   ·rename_i a;simp at a
   ·rename_i x y a;simp only[nh] at a;obtain⟨rfl,rfl⟩:=a;cases j:Iw x with
    |false=>rw[j] at h;simp at h
    |true=>rw[j] at h;exact⟨j,h⟩
   ·rename_i C y A a;simp only[nh] at a;obtain⟨rfl,rfl⟩:=a;have e:kn v=B3 v:=by cases v<;>first|rfl|exact absurd rfl (A _)
    rw[e];cases j:B3 v with
    |false=>rw[j] at h;simp at h
    |true=>rw[j] at h;exact⟨rfl,h⟩
  rcases cO.1 j with rfl|j
  ·exact u.1
  ·exact aeL u.2 c j
theorem asZ{I O:TV->Bool}{v u:TV}(h:kA I O v=u)(j:kn u=true):v=u:=by
 by_cases a:∃cs,v=.agg cs
 ·obtain⟨cs,rfl⟩:=a;simp only[kA] at h;subst h;have:=aeK j
  congr 1
  conv=>lhs;rw[<-aaD cs]
  refine CM λc x=>?_
  by_cases hi:I c=true
  ·exact absurd rfl (this .un (gQ.2 ⟨c,x,by simp[hi]⟩))
  ·simp[hi]
 ·have a:∀cs,v≠.agg cs:=λcs e=>a ⟨cs,e⟩;rw[xA a] at h;split at h
  ·subst h;simp[kn,B3] at j
  ·exact h
def eP(a:Pl->Bool):TV->Bool|.vw p _=>a p|.pa p _ _=>a p|.sl p _ _ _=>a p|.ep p _ _ _=>a p|_=>false
def oI(d:Nat):TV->Bool|.ptr k _=>Nat.beq k d|.pe k _=>Nat.beq k d|.fn _ vs=>pJ d vs|_=>false
def mI(a:Pl->Bool):TV->Bool|.pa p _ _=>a p|_=>false
theorem WU{α:Type}(b:Bool)(x y:α):(bif b then x else y)=if b=true then x else y:=by cases b<;>rfl
theorem adu(a:Pl->Bool)(v:TV):kT a v=if eP a v=true then .un else v:=by
 cases v<;>simp only[kT,eP,WU]<;>first|rfl|simp
theorem Q1(j:Pl->Bool)(v:TV):Ev.kill j v=kA (eP j) (eP j) v:=by
 by_cases a:∃cs,v=.agg cs
 ·obtain⟨cs,rfl⟩:=a;simp only[Ev.kill,kA,TV.agg.injEq];exact CM λc _=>adu j c
 ·have a:∀cs,v≠.agg cs:=λcs e=>a ⟨cs,e⟩;rw[xA a,<-adu];cases v<;>first|rfl|exact absurd rfl (a _)
theorem an9(d:Nat)(v:TV):Ev.fq d v=kA (λ_=>false) (oI d) v:=by
 cases v<;>simp only[Ev.fq,kA,oI,WU]<;>first|rfl|simp
theorem adv(a:Pl->Bool)(v:TV):Ev.ue a v=kA (λ_=>false) (mI a) v:=by
 cases v<;>simp only[Ev.ue,kA,mI,WU]<;>first|rfl|simp
def kV(f w:Acc)(n:List Nat)(p:Pl):Bool:=rN f w p||p.iL ⟨[],n⟩
def n5(f w:Acc)(n:List Nat)(v:TV):Bool:=eP (kV f w n) v
def me(f w:Acc)(n:List Nat)(ps:List Pl)(v:TV):Bool:=eP (kV f w n) v||n.any (λd=>oI d v)||mI (vB ps) v
def kl(f w:Acc)(n:List Nat)(ps:List Pl):TV->TV:=kA (n5 f w n) (me f w n ps)
theorem Wb:∀(p:Pl)(d:Nat)(n:List Nat),p.iL ⟨[],d::n⟩=(p.gK d||p.iL ⟨[],n⟩)
 |.slot k,d,n=>by simp[Pl.iL,Pl.gK,eV]
 |.cell k c,d,n=>by
  simp only[Pl.iL,Pl.gK,eV];cases h:Nat.beq k d with
  |true=>have:=gr h;subst this;simp
  |false=>
   have:Nat.beq d k=false:=by
    cases a:Nat.beq d k with
    |false=>rfl
    |true=>have:=gr a;subst this;rw[h] at a;cases a
   rw[this];rfl
 |.sub p t r c,d,n=>by simp only[Pl.iL,Pl.gK];exact Wb p d n
theorem aeM:∀(p:Pl),p.iL ⟨[],[]⟩=false
 |.slot k=>rfl
 |.cell k c=>rfl
 |.sub p t r c=>by simp only[Pl.iL];exact aeM p
theorem afN(a b:Pl->Bool)(v:TV):(eP a v||eP b v)=eP (λp=>a p||b p) v:=by cases v<;>rfl
theorem acg(f w:Acc):kV f w []=rN f w:=by
 funext p;simp only[kV,aeM,Ou]
theorem abD(f w:Acc)(s:TS)(k:Nat):∀(n:List Nat),(ui f w n s).slot k=kA (n5 f w n) (me f w n []) (s.slot k)
 |[]=>by
  simp only[ui,List.foldr_nil];rw[tY,Q1];refine He (λv=>?_) (λv=>?_) _
  ·simp only[n5,acg]
  ·have:mI (vB []) v=false:=by cases v<;>rfl
   simp only[me,acg,Ou,List.any_nil,this]
 |d::n=>by
  have a:=abD f w s k n;simp only[ui,Ot] at a⊢;rw[GF,a,Q1,an9,BB,BB];refine He (λv=>?_) (λv=>?_) _
  ·simp only[n5,akK];rw[afN];cases v<;>simp only[eP]<;>first|rfl|(simp only[kV,Wb];cases Pl.gK d _<;>simp)
  ·have:mI (vB []) v=false:=by cases v<;>rfl
   simp only[me,List.any_cons,this,Ou];have e:eP (kV f w (d::n)) v=(eP (Pl.gK d) v||eP (kV f w n) v):=by
    rw[afN]
    cases v<;>simp only[eP]<;>first|rfl|(simp only[kV,Wb];cases Pl.gK d _<;>simp)
   rw[e];cases oI d v<;>cases eP (Pl.gK d) v<;>cases eP (kV f w n) v<;>cases n.any (λd=>oI d v)<;>rfl
theorem Ko(f w:Acc)(s:TS):∀(n:List Nat),(ui f w n s).h=s.h
 |[]=>rfl
 |d::n=>by have:=Ko f w s n;simp only[ui,Ot] at this⊢;exact this
theorem adw(q:Pl)(a:List Pl)(v:TV):mI (vB (q::a)) v=(mI q.jK v||mI (vB a) v):=by
 cases v<;>simp only[mI]<;>first|rfl|(simp only[vB];cases Pl.jK q _<;>rfl)
theorem OQ(s:TS)(k:Nat){f w:Acc}{n:List Nat}:∀(ps:List Pl),(xn ps (ui f w n s)).slot k=kl f w n ps (s.slot k)
 |[]=>abD f w s k n
 |p::ps=>by
  have a:=OQ s k (f:=f) (w:=w) (n:=n) ps;simp only[xn];rw[Dp,a,adv];simp only[kl];rw[BB];refine He (λv=>rfl) (λv=>?_) _;simp only[me,adw];cases mI p.jK v<;>cases eP (kV f w n) v<;>cases n.any (λd=>oI d v)<;>simp
theorem JS(s:TS):∀(ps:List Pl),(xn ps s).h=s.h
 |[]=>rfl
 |p::ps=>by simp only[xn];exact JS s ps
theorem ach{d:Nat}:∀{vs:List TV},pJ d vs=true↔d∈vs.flatMap o4
 |[]=>by simp[pJ]
 |v::vs=>by
  simp only[pJ,List.flatMap_cons,cU];have e:ptrTo d v=true↔d∈o4 v:=by
   cases v<;>simp[ptrTo,o4]<;>exact eq_comm
  cases h:ptrTo d v with
  |true=>simp[e.1 h]
  |false=>
   rw[h] at e;simp only[aH];rw[ach];constructor
   ·exact .inr
   ·rintro(h|h)
    ·exact absurd (e.2 h) (by simp)
    ·exact h
theorem abE{f w:Acc}{n:List Nat}{ps:List Pl}{v:TV}(h:sQ f w n ps v=true):n5 f w n v=false/\me f w n ps v=false:=by
 have x:∀p:Pl,(bif rN f w p then false else bif p.iL ⟨[],n⟩ then false else true)=true->kV f w n p=false:=λp h=>by
  simp only[kV]
  cases e:rN f w p<;>cases j:p.iL ⟨[],n⟩<;>simp[e,j] at h⊢
 have C:∀k,(bif eV k n then false else true)=true->n.any (λd=>Nat.beq k d)=false:=λk h=>by
  cases u:eV k n with
  |true=>rw[u] at h;simp at h
  |false=>
   rw[akL]
   intro d y A
   have:=gr A
   subst this
   rw[kE.2 y] at u
   cases u
 cases v with
 |vw p t=>simp only[sQ] at h;simp[n5,me,eP,oI,mI,x p h]
 |pa p t E=>
  simp only[sQ] at h;have e:kV f w n p=false:=x p (by
   cases e:rN f w p<;>cases j:p.iL ⟨[],n⟩<;>simp[e,j] at h⊢);have j:vB ps p=false:=by
   cases e:rN f w p<;>cases j:p.iL ⟨[],n⟩<;>cases D:vB ps p<;>simp[e,j,D] at h⊢
  simp[n5,me,eP,oI,mI,e,j]
 |sl p t a b=>simp only[sQ] at h;simp[n5,me,eP,oI,mI,x p h]
 |ep p t a b=>simp only[sQ] at h;simp[n5,me,eP,oI,mI,x p h]
 |ptr k c=>simp only[sQ] at h;have:=C k h;simp[n5,me,eP,oI,mI] at this⊢;exact this
 |pe k c=>simp only[sQ] at h;have:=C k h;simp[n5,me,eP,oI,mI] at this⊢;exact this
 |fn g vs=>
  simp only[sQ] at h;refine⟨rfl,?_⟩;simp only[me,eP,mI,akK,Ou];rw[akL];intro d y A;have u:meets n (vs.flatMap o4)=true:=by
   simp only[meets,List.any_eq_true]
   exact⟨d,y,d,ach.1 (by simpa[oI] using A),by simp⟩
  rw[u] at h;simp at h
 |_=>simp[n5,me,eP,oI,mI]
theorem aci{f w:Acc}{n:List Nat}{ps:List Pl}:∀{vs:List TV},LU f w n ps vs=true->∀v∈vs,sQ f w n ps v=true
 |[],_,v,a=>by simp at a
 |u::vs,h,v,a=>by
  simp only[LU] at h;cases e:sQ f w n ps u with
  |false=>rw[e] at h;simp at h
  |true=>
   rw[e,aF] at h;rcases cO.1 a with rfl|a
   ·exact e
   ·exact aci h v a
theorem Vu{f w:Acc}{n:List Nat}{ps:List Pl}:∀{vs:List TV},rB f w n ps vs=true->∀v∈vs,kl f w n ps v=v
 |[],_,v,x=>by simp at x
 |u::vs,h,v,x=>by
  have y:kl f w n ps u=u/\rB f w n ps vs=true:=by
   unfold rB at h
   split at h
   ·rename_i a;simp at a
   ·rename_i D E a;simp only[nh] at a;obtain⟨rfl,rfl⟩:=a;cases j:LU f w n ps D with
    |false=>rw[j] at h;simp at h
    |true=>
     rw[j] at h;refine⟨LD (λC e c F=>?_) (λA=>absurd rfl (A _)),h⟩;cases e;exact(abE (aci j c F)).1
   ·rename_i H E A a;simp only[nh] at a;obtain⟨rfl,rfl⟩:=a;cases j:sQ f w n ps u with
    |false=>rw[j] at h;simp at h
    |true=>
     rw[j] at h;exact⟨LD (λC e=>absurd e (A C)) (λ_=>(abE j).2),h⟩
  rcases cO.1 x with rfl|x
  ·exact y.1
  ·exact Vu y.2 v x
abbrev FS:=(Nat->TV)×(Nat->BC)
def fs(s:TS):FS:=(s.slot,s.box)
structure Rec where
 W:Nat->Bool
 B:Nat->Bool
 kl:TV->TV
 o:Nat->TV
 ob:Nat->BC
def Rec.app(ρ:Rec)(S:FS):FS:=(λk=>if ρ.W k=true then ρ.o k else ρ.kl (S.1 k),λk=>if ρ.B k=true then ρ.ob k else S.2 k)
structure Comm(ρ σ:Rec):Prop where
 W:∀k,ρ.W k=true->σ.W k=true->False
 B:∀k,ρ.B k=true->σ.B k=true->False
 o:∀k,ρ.W k=true->σ.kl (ρ.o k)=ρ.o k
 o':∀k,σ.W k=true->ρ.kl (σ.o k)=σ.o k
 kl:∀v,ρ.kl (σ.kl v)=σ.kl (ρ.kl v)
theorem Comm.app{ρ j:Rec}(h:Comm ρ j)(S:FS):ρ.app (j.app S)=j.app (ρ.app S):=by
 refine Jd (funext λk=>?_) (funext λk=>?_)
 ·simp only[Rec.app]
  by_cases a:ρ.W k=true<;>by_cases e:j.W k=true
  ·exact(h.W k a e).elim
  ·simp only[a,e,fM,iy,iJ];exact(h.o k a).symm
  ·simp only[a,e,fM,iy,iJ];exact h.o' k e
  ·simp only[a,e,iy,iJ];exact h.kl _
 ·simp only[Rec.app]
  by_cases a:ρ.B k=true<;>by_cases e:j.B k=true
  ·exact(h.B k a e).elim
  ·simp only[a,e,fM,iy,iJ]
  ·simp only[a,e,fM,iy,iJ]
  ·simp only[a,e,iy,iJ]
def run(ρ:Nat->Rec):Nat->(Nat->Bool)->FS->FS
 |0,_,S=>S
 |n+1,A,S=>if A n=true then(ρ n).app (run ρ n A S) else run ρ n A S
theorem AT{ρ:Nat->Rec}{A A':Nat->Bool}{S:FS}:∀{n:Nat},(∀k,k<n->A k=A' k)->run ρ n A S=run ρ n A' S
 |0,_=>rfl
 |n+1,h=>by
  simp only[run];rw[h n (by omega),AT (n:=n) λk a=>h k (by omega)]
theorem Wc{ρ:Nat->Rec}{A:Nat->Bool}{S:FS}{m:Nat}:∀{n:Nat},m<=n->(∀k,m<=k->k<n->A k=false)->run ρ n A S=run ρ m A S
 |0,h,_=>by rw[Nat.le_zero.1 h]
 |n+1,h,a=>by
  by_cases e:m=n+1
  ·rw[e]
  ·simp only[run];rw[a n (by omega) (by omega)];simp only[iJ,iy];exact Wc (by omega) λk j u=>a k j (by omega)
def BT(A:Nat->Bool)(i:Nat):Nat->Bool:=λk=>if k=i then true else A k
theorem WV{ρ:Nat->Rec}{A:Nat->Bool}{S:FS}{i:Nat}(hi:A i=false):∀{n:Nat},i<n->(∀j,i<j->j<n->A j=true->Comm (ρ i) (ρ j))->(ρ i).app (run ρ n A S)=run ρ n (BT A i) S
 |0,h,_=>by omega
 |n+1,h,u=>by
  by_cases x:n=i
  ·subst x;simp only[run];rw[hi];simp only[iJ,iy,BT,fM]
   congr 1
   exact AT λk E=>by simp only[BT];rw[aE (by omega)]
  ·have y:=WV (ρ:=ρ) (S:=S) hi (n:=n) (by omega) λj C F D=>u j C (by omega) D;simp only[run];have e:BT A i n=A n:=by simp only[BT];rw[aE x]
   rw[e]
   by_cases a:A n=true
   ·rw[aD a,aD a,(u n (by omega) (by omega) a).app,y]
   ·rw[aE a,aE a,y]
structure tK(R:Acc)(S T:FS):Prop where
 sl:∀k∈R.sl,S.1 k=T.1 k
 bx:∀k∈R.bx,S.2 k=T.2 k
structure yd(ρ:Rec)(R:Acc)(T:FS):Prop where
 sl:∀k∈R.sl,ρ.W k=true->False
 bx:∀k∈R.bx,ρ.B k=true->False
 kl:∀k∈R.sl,ρ.kl (T.1 k)=T.1 k
 kn:∀k∈R.sl,∀v,ρ.kl v=T.1 k->v=T.1 k
theorem yd.iff{ρ:Rec}{R:Acc}{T S:FS}(h:yd ρ R T):tK R (ρ.app S) T↔tK R S T:=by
 constructor
 ·intro k;refine⟨λj a=>?_,λj a=>?_⟩
  ·have:=k.sl j a;simp only[Rec.app] at this;rw[aE (λe=>h.sl j a e)] at this;exact h.kn j a _ this
  ·have:=k.bx j a;simp only[Rec.app] at this;rwa[aE (λe=>h.bx j a e)] at this
 ·intro k;refine⟨λj a=>?_,λj a=>?_⟩
  ·simp only[Rec.app];rw[aE (λe=>h.sl j a e),k.sl j a,h.kl j a]
  ·simp only[Rec.app];rw[aE (λe=>h.bx j a e),k.bx j a]
theorem adx{ρ:Nat->Rec}{A Q:Nat->Bool}{S T:FS}{R:Acc}{n:Nat}(E:∀k,Q k=true->A k=true)
  (F:∀k,k<n->A k=true->Q k=false->yd (ρ k) R T/\∀j,k<j->j<n->Q j=true->Comm (ρ k) (ρ j)):tK R (run ρ n A S) T↔tK R (run ρ n Q S) T:=by
 have y:∀m,m<=n->(tK R (run ρ n (λk=>Q k||(decide (k<m)&&A k)) S) T↔tK R (run ρ n Q S) T):=by
  intro m
  induction m with
  |zero=>
   intro _
   rw[AT (A':=Q) λk _=>by simp]
  |succ m H=>
   intro P
   rw[<-H (by omega)]
   by_cases u:A m=true/\Q m=false
   ·obtain⟨I,J⟩:=F m (by omega) u.1 u.2;have e:run ρ n (λk=>Q k||(decide (k<m+1)&&A k)) S=(ρ m).app (run ρ n (λk=>Q k||(decide (k<m)&&A k)) S):=by
     rw[WV (by simp[u.2]) (by omega) (λj M C x=>J j M C (by
      simp only[CN,bo,bH] at x
      rcases x with x|x
      ·exact x
      ·omega))]
     refine AT λk _=>?_
     simp only[BT]
     by_cases a:k=m
     ·subst a;rw[aD rfl];simp[u.1]
     ·rw[aE a];have:decide (k<m+1)=decide (k<m):=by
       apply Ov.2
       simp only[bH]
       omega
      rw[this]
    rw[e];exact I.iff
   ·rw[AT (A':=λk=>Q k||(decide (k<m)&&A k))];intro k _
    by_cases a:k=m
    ·subst a;cases D:Q k with
     |true=>rfl
     |false=>
      cases N:A k with
      |true=>exact absurd ⟨N,D⟩ u
      |false=>simp
    ·have:decide (k<m+1)=decide (k<m):=by
       apply Ov.2
       simp only[bH]
       omega
     rw[this]
 have:=y n (iI n);rw[<-this,AT (A':=λk=>Q k||(decide (k<n)&&A k))];intro k a;have:decide (k<n)=true:=by simpa using a
 rw[this];cases D:Q k with
 |true=>simp[E k D]
 |false=>simp
end
section
def rG(e j:Nat->Bool)(w f:Acc)(n:List Nat)(ps:List Pl)(out:TS):Rec:=⟨λk=>eV k w.sl&&e k,λk=>eV k w.bx&&j k,kl f w n ps,out.slot,out.box⟩
theorem Vv(f w:Acc)(s:TS):∀(n:List Nat),dK (ui f w n s).t=dK s.t
 |[]=>Bf _ _
 |d::n=>by
  have:=Vv f w s n;simp only[ui,Ot] at this⊢;rw[<-this];exact Bf _ _
theorem U8(s:TS):∀(ps:List Pl),dK (xn ps s).t=dK s.t
 |[]=>rfl
 |p::ps=>by
  rw[<-U8 s ps];exact Bf _ _
section
variable(w f:Acc)(n:List Nat)(ps:List Pl)(out s:TS)
theorem afO:dK (kq w f n ps out s).t=dK s.t:=by
 simp only[kq,merge];rw[Kn,U8,Vv]
theorem afP:dK (kq w f n ps out s).h=dK s.h:=by
 simp only[kq,merge];rw[Kn,JS,Ko]
theorem Lh:fs (kq w f n ps out s)=(rG (dK s.t) (dK s.h) w f n ps out).app (fs s):=by
 refine Jd (funext λk=>?_) (funext λk=>?_)
 ·simp only[fs,Rec.app,rG,TS.slot,kq,merge];rw[Dy,U8,Vv];have:=OQ (f:=f) (w:=w) (n:=n) s k ps;simp only[TS.slot] at this;rw[this];simp only[bo]
 ·simp only[fs,Rec.app,rG,TS.box,kq,merge];rw[Dy,JS,Ko];simp only[bo]
end
theorem arj{on:Pl->Bool}{v:TV}{p:Pl}(h:MV p v)(e:∀j,v≠.agg j):eP on v=on p:=by
 cases h<;>first|rfl|exact absurd rfl (e _)
section
variable{f w:Acc}{n:List Nat}{ps:List Pl}{v:TV}{p:Pl}{k:Nat}
theorem agH(h:MV p (kl f w n ps v)):MV p v/\kV f w n p=false:=by
 by_cases j:∃cs,v=.agg cs
 ·obtain⟨cs,rfl⟩:=j;simp only[kl,kA] at h;cases h with
  |agg _ t y=>
   obtain⟨c,A,x⟩:=gQ.1 y;split at x
   ·cases x
   ·rename_i u;subst x;exact⟨.agg _ _ A,by simpa[n5,eP] using u⟩
 ·have j:∀cs,v≠.agg cs:=λcs e=>j ⟨cs,e⟩;simp only[kl] at h;rw[xA j] at h;split at h
  ·cases h
  ·rename_i u;refine⟨h,?_⟩;have:=arj (on:=kV f w n) h j;rw[<-this];simp only[me,CN,Je,sC] at u;exact u.1.1
theorem as0(h:MB k (kl f w n ps v)):MB k v/\k∉n:=by
 by_cases u:∃cs,v=.agg cs
 ·obtain⟨cs,rfl⟩:=u;simp only[kl,kA] at h;cases h
 ·have u:∀cs,v≠.agg cs:=λcs e=>u ⟨cs,e⟩;simp only[kl] at h;rw[xA u] at h;split at h
  ·cases h
  ·rename_i x;refine⟨h,λy=>?_⟩;simp only[me,CN,Je,sC] at x;have:=akL.1 x.1.2 k y;cases h with
   |ptr j=>simp[oI] at this
   |pe j=>simp[oI] at this
   |fn g cs j A=>
    simp only[oI,sC] at this;exact Vj this j A
theorem as1(h:MP p (kl f w n ps v)):MP p v:=by
 by_cases j:∃cs,v=.agg cs
 ·obtain⟨cs,rfl⟩:=j;simp only[kl,kA] at h;cases h
 ·have j:∀cs,v≠.agg cs:=λcs e=>j ⟨cs,e⟩;simp only[kl] at h;rw[xA j] at h;split at h
  ·cases h
  ·exact h
end
theorem Rd.kA{c:Rc}{m:Option Gp}{x:TV}{v:Value}(h:Rd c m x v)(I O:TV->Bool):Rd c m (Sd.kA I O x) v:=by
 by_cases u:∃cs,x=.agg cs
 ·obtain⟨cs,rfl⟩:=u;cases h with
  |agg _ _ vs F H J M=>
   refine .agg _ _ _ (λx D=>?_) (by simpa using H) (λj x v A u=>?_) (λj x v A u=>?_)
   ·simp only[gQ] at D;obtain⟨a,y,rfl⟩:=D;split
    ·rfl
    ·exact F a y
   all_goals
    rw[ir] at A;cases y:cs[j]? with
    |none=>simp[y] at A
    |some a=>
     simp only[y,jA,aQ] at A;subst A
     first
      |exact J j a v y u
      |(split
        ·exact .un _ _
        ·exact M j a v y u)
 ·have u:∀cs,x≠.agg cs:=λcs e=>u ⟨cs,e⟩;rw[xA u];split
  ·exact .un _ _
  ·exact h
theorem DW{a:Acc}:∀{p:Pl},p.iL a=true↔(∃k,(gp p).1=.slot k/\k∈a.sl)\/∃k,(gp p).1=.box k/\k∈a.bx
 |.slot k=>by simp[Pl.iL,gp,kE]
 |.cell k c=>by simp[Pl.iL,gp,kE]
 |.sub p t r c=>by simp only[Pl.iL,gp];exact DW
theorem Qq:∀(p:Pl),(∀k,(gp p).1=.slot k->k∈p.root.sl)/\∀k,(gp p).1=.box k->k∈p.root.bx
 |.slot k=>by simp[Pl.root,gp]
 |.cell k c=>by simp[Pl.root,gp]
 |.sub p t r c=>by simp only[Pl.root,gp];exact Qq p
theorem amM{v:TV}{p:Pl}(h:MV p v)(e:∀j,v≠.agg j):R4 v=p.root:=by
 cases h<;>first|rfl|exact absurd rfl (e _)
theorem PG{p:Pl}{t:Ty}:∀{j:List TV},TV.vw p t∈j->(∀k∈p.root.sl,k∈(LS j).sl)/\∀k∈p.root.bx,k∈(LS j).bx
 |[],h=>by simp at h
 |c::j,h=>by
  simp only[LS,Acc.add];rcases cO.1 h with rfl|h
  ·exact⟨λk e=>cU.2 (.inl e),λk e=>cU.2 (.inl e)⟩
  ·exact⟨λk e=>cU.2 (.inr ((PG h).1 k e)),λk e=>cU.2 (.inr ((PG h).2 k e))⟩
theorem PH{v:TV}{p:Pl}(h:MV p v):(∀k,(gp p).1=.slot k->k∈(vp v).sl)/\∀k,(gp p).1=.box k->k∈(vp v).bx:=by
 by_cases j:∃cs,v=.agg cs
 ·obtain⟨cs,rfl⟩:=j;cases h with
  |agg _ t x=>
   simp only[vp];exact⟨λk u=>(PG x).1 k ((Qq p).1 k u),λk u=>(PG x).2 k ((Qq p).2 k u)⟩
 ·have j:∀cs,v≠.agg cs:=λcs e=>j ⟨cs,e⟩;have:vp v=R4 v:=by cases v<;>first|rfl|exact absurd rfl (j _)
  rw[this,amM h j];exact Qq p
theorem PI{v:TV}:∀{vs:List TV},v∈vs->(∀k∈(vp v).sl,k∈(looks vs).sl)/\∀k∈(vp v).bx,k∈(looks vs).bx
 |[],h=>by simp at h
 |c::j,h=>by
  simp only[looks,Acc.add];rcases cO.1 h with rfl|h
  ·exact⟨λk e=>cU.2 (.inl e),λk e=>cU.2 (.inl e)⟩
  ·exact⟨λk e=>cU.2 (.inr ((PI h).1 k e)),λk e=>cU.2 (.inr ((PI h).2 k e))⟩
theorem Hf{nr:Bool}{s:TS}{k:Nat}:∀{u:List Operand},.tmp k∈u->k∈(xH nr s u).sl/\
  (nr=false->(∀j∈Sn (s.slot k),j∈(xH nr s u).bx)/\(∀j∈(vp (s.slot k)).sl,j∈(xH nr s u).sl)/\∀j∈(vp (s.slot k)).bx,j∈(xH nr s u).bx)
 |[],h=>by simp at h
 |x::u,h=>by
  rcases cO.1 h with rfl|h
  ·simp only[xH,Acc.add];refine⟨by simp,λD=>?_⟩;subst D;simp only[aH,cU];exact⟨λj e=>.inl e,λj e=>.inr (.inl e),λj e=>.inr (.inl e)⟩
  ·obtain⟨y,A⟩:=Hf (nr:=nr) (s:=s) h;cases x with
   |tmp J=>
    simp only[xH,Acc.add,cU];refine⟨.inr (.inr y),λD=>?_⟩;obtain⟨F,H,I⟩:=A D;exact⟨λj e=>.inr (.inr (F j e)),λj e=>.inr (.inr (H j e)),λj e=>.inr (.inr (I j e))⟩
   |const v=>exact⟨y,A⟩
   |global v=>exact⟨y,A⟩
   |func v=>exact⟨y,A⟩
theorem ap0(v:Value)(k:Nat):¬ MB k (B1 v):=by
 have x:∀v,¬ MB k (tq v):=λv h=>by unfold tq at h;split at h<;>cases h
 by_cases u:∃j,v=.agg j
 ·obtain⟨j,rfl⟩:=u;intro h;simp only[B1] at h;cases h
 ·rw[Lr v λj e=>u ⟨j,e⟩];exact x v
structure zD(X:Rt->aZ->Prop)(W F:Acc):Prop where
 sl:∀k p,X (.slot k) p->k∈W.sl
 bx:∀k p,X (.box k) p->k∈W.bx
 top:∀k,X (.box k) []->k∈F.bx
theorem zD.mono{X Y:Rt->aZ->Prop}{W F:Acc}(h:zD X W F)(e:∀q p,Y q p->X q p):zD Y W F:=⟨λk p hx=>h.sl k p (e _ _ hx),λk p hx=>h.bx k p (e _ _ hx),λk hx=>h.top k (e _ _ hx)⟩
theorem aoa(W F:Acc):zD (XZ λ_=>False) W F:=⟨λk p hx=>by rcases hx.1 with h|⟨n,h⟩<;>simp at h,λk p hx=>by rcases hx.1 with h|⟨n,h⟩<;>simp at h,λk hx=>(hx.2 ⟨⟨k,rfl⟩,rfl⟩).elim⟩
section
variable{C:Cx}{s t:TS}{o:Oper}
theorem as2{j:List Nat}{d:Option Nat}{a:Acc}:(∀k∈a.sl,k∈((Acc.mk (br d) []).add ((Acc.mk [] j).add a)).sl)/\∀k∈a.bx,k∈((Acc.mk (br d) []).add ((Acc.mk [] j).add a)).bx:=by
 simp only[Acc.add,cU];exact⟨λk e=>.inr (.inr e),λk e=>.inr (.inr e)⟩
theorem aob(Y:∀i,(∀p,¬ MV p (C.gl i))/\∀k,¬ MB k (C.gl i))(S:zf C s o=none)(A:qu C s o=false):zD (λq p=>XZ (oZ s o) q p\/ET C s o q p) (gG C s o) (nR C s o):=by
 have hW:gG C s o=(Acc.mk (br o.dst) []).add (Ep C s o):=by simp only[gG,S,A,aH]
 have sub:∀a:Acc,a=xH (zd C s o) s o.op.operands.toList->(∀k∈a.sl,k∈(gG C s o).sl)/\∀k∈a.bx,k∈(gG C s o).bx:=λa Z=>by
  rw[hW,Ep,Z]
  exact as2
 obtain⟨I,s2⟩:=sub _ rfl;have J:∀x∈o.op.operands.toList,zd C s o=false->∀q,bZ s x q->(∀k,q=.slot k->k∈(gG C s o).sl)/\∀k,q=.box k->k∈(gG C s o).bx:=λx hx D q y=>by
  obtain⟨k,rfl,y⟩:=y
  obtain⟨u,M⟩:=Hf (nr:=zd C s o) (s:=s) hx
  obtain⟨h3,h4,h5⟩:=M D
  rcases y with rfl|⟨p,A,rfl⟩
  ·exact⟨λj e=>by cases e;exact I _ u,λj e=>by cases e⟩
  ·exact⟨λj e=>I _ (h4 j ((PH A).1 j e)),λj e=>s2 _ (h5 j ((PH A).2 j e))⟩
 have hz:∀q,oZ s o q->(∀k,q=.slot k->k∈(gG C s o).sl)/\∀k,q=.box k->k∈(gG C s o).bx:=λq y=>by
  unfold oZ at y
  split at y
  ·rename_i x F;obtain⟨k,rfl,rfl⟩:=y;exact⟨λj e=>by cases e;exact I _ (Hf (by simp[F,Op.operands])).1,λj e=>by cases e⟩
  ·rename_i bS;have D:zd C s o=false:=by
    unfold zd
    split
    ·exact A
    ·rename_i vT;cases N:So o with
     |false=>rfl
     |true=>
      exfalso;unfold So at N;unfold qu at A;split at N
      ·rename_i x e;exact bS x e
      ·rename_i x e;exact vT x e
      all_goals first
       |(rename_i e;rw[e] at A;simp at A;done)
       |(simp at N;done)
   obtain⟨x,hx,y⟩:=y;exact J x hx D q y
 have Q:∀q p,ET C s o q p->∃k,q=.box k/\k∈(gG C s o).bx/\k∈(nR C s o).bx:=λq p y=>by
  obtain⟨ty,U,x,F,k,H,rfl,rfl⟩:=y
  have D:zd C s o=false:=by simp[zd,So,F]
  have R:k∈o4 (aU C s U):=by
   rcases H with⟨j,e⟩|⟨j,e⟩<;>rw[e]<;>simp[o4]
  refine⟨k,rfl,?_,?_⟩
  ·cases U with
   |tmp j=>
    have e:o4 (aU C s (.tmp j))=o4 (s.slot j):=by
     simp only[aU]
     cases s.slot j<;>first|rfl|(simp only[o9];cases C.vs j<;>rfl)
    rw[e] at R;refine s2 _ (((Hf (nr:=zd C s o) (s:=s) (k:=j) (by simp[F,Op.operands])).2 D).1 k ?_);revert R;cases s.slot j<;>simp[o4,Sn]
   |const v=>
    exfalso;rcases H with⟨j,e⟩|⟨j,e⟩<;>exact absurd (show MB k (B1 v) by simp only[aU] at e;rw[e];constructor) (ap0 v k)
   |global i=>
    exfalso;rcases H with⟨j,e⟩|⟨j,e⟩<;>exact absurd (show MB k (C.gl i) by simp only[aU] at e;rw[e];constructor) ((Y i).2 k)
   |func i=>exfalso;rcases H with⟨j,e⟩|⟨j,e⟩<;>simp[aU] at e
  ·simp only[nR,S,F];exact R
 refine⟨λk p hx=>?_,λk p hx=>?_,λk hx=>?_⟩
 ·rcases hx with⟨u|⟨n,u⟩,_⟩|hx
  ·exact(hz _ u).1 k rfl
  ·cases u
  ·obtain⟨j,e,_⟩:=Q _ _ hx;cases e
 ·rcases hx with⟨u|⟨n,u⟩,_⟩|hx
  ·exact(hz _ u).2 k rfl
  ·cases u
  ·obtain⟨j,e,u,_⟩:=Q _ _ hx;cases e;exact u
 ·rcases hx with⟨_,M⟩|hx
  ·exact(M ⟨⟨k,rfl⟩,rfl⟩).elim
  ·obtain⟨j,e,_,u⟩:=Q _ _ hx;cases e;exact u
theorem amN{c:Call}{x:Operand}{f:Nat}{cap:List TV}{q:fR}(S:o.op=.call c)(U:c.callee=.value x)(n4:aU C s x=.fn f cap)(hs:C.fn f (Bc (c.args.toList.map (aU C s)++cap))=some q):
  zD (zi C s o) (gG C s o) (nR C s o):=by
 have hW:zf C s o=some ((bif q.km then⟨[],[]⟩ else looks ((c.args.toList.map (aU C s))++cap)).add ⟨[],nQ q.ps ((c.args.toList.map (aU C s))++cap)⟩,nQ q.ps ((c.args.toList.map (aU C s))++cap)):=by
  simp only[zf,S,U,n4,hs]
 have sl:∀k∈(bif q.km then(⟨[],[]⟩:Acc) else looks ((c.args.toList.map (aU C s))++cap)).sl,k∈(gG C s o).sl:=λk u=>by
  simp only[gG,hW,Acc.add,cU]
  exact .inr (.inl u)
 have Y:∀k,.tmp k∈c.args.toList->k∈(gG C s o).sl:=λk u=>by
  simp only[gG,hW,Acc.add,cU]
  refine .inl (.inr (V6.2 ?_))
  simp only[S,Op.operands,Call.operands,U,On]
  exact cU.2 (.inr u)
 have bx:∀k∈(bif q.km then(⟨[],[]⟩:Acc) else looks ((c.args.toList.map (aU C s))++cap)).bx,k∈(gG C s o).bx:=λk u=>by
  simp only[gG,hW,Acc.add,cU]
  exact .inr (.inl u)
 have M:∀k∈nQ q.ps ((c.args.toList.map (aU C s))++cap),k∈(gG C s o).bx/\k∈(nR C s o).bx:=λk u=>by
  simp only[gG,nR,hW,Acc.add,cU]
  exact⟨.inr (.inr u),u⟩
 have H:∀D R,zi C s o D R->(∃k,.tmp k∈c.args.toList/\D=.slot k/\¬ lU D R)\/((((q.km=false/\∃F∈(c.args.toList.map (aU C s)++cap),∃A,MV A F/\(gp A).1=D)\/∃n,D=.aw n)/\¬ lU D R)\/∃k,D=.box k/\k∈nQ q.ps (c.args.toList.map (aU C s)++cap)):=λD R hx=>by
  obtain⟨c',x',f',aa,e1,e2,e3,hx⟩:=hx
  rw[S] at e1
  cases e1
  rw[U] at e2
  cases e2
  rw[n4] at e3
  cases e3
  rcases hx with⟨⟨y,hy,k,rfl,rfl⟩,Z⟩|⟨q',vU,hx⟩
  ·exact .inl ⟨k,hy,rfl,Z⟩
  ·rw[hs] at vU;cases vU;exact .inr hx
 have N:q.km=false->∀F∈(c.args.toList.map (aU C s)++cap),∀A,MV A F->(∀k,(gp A).1=.slot k->k∈(gG C s o).sl)/\∀k,(gp A).1=.box k->k∈(gG C s o).bx:=λQ F I A J=>by
  rw[Q] at sl bx
  exact⟨λk u=>sl k ((PI I).1 k ((PH J).1 k u)),λk u=>bx k ((PI I).2 k ((PH J).2 k u))⟩
 refine⟨λk p hx=>?_,λk p hx=>?_,λk hx=>?_⟩
 ·rcases H _ _ hx with⟨j,hj,e,_⟩|⟨⟨Q,F,I,A,J,e⟩|⟨n,e⟩,_⟩|⟨j,e,_⟩
  ·cases e;exact Y _ hj
  ·exact(N Q F I A J).1 k e
  ·cases e
  ·cases e
 ·rcases H _ _ hx with⟨j,hj,e,_⟩|⟨⟨Q,F,I,A,J,e⟩|⟨n,e⟩,_⟩|⟨j,e,h1⟩
  ·cases e
  ·exact(N Q F I A J).2 k e
  ·cases e
  ·cases e;exact(M _ h1).1
 ·rcases H _ _ hx with⟨j,hj,e,_⟩|⟨_,Z⟩|⟨j,e,h1⟩
  ·cases e
  ·exact(Z ⟨⟨k,rfl⟩,rfl⟩).elim
  ·cases e;exact(M _ h1).2
end
section
variable{P:Program}{C:Cx}{E:Env}{nt:Nat}{o:Oper}{s s':TS}{g g':Gs}{a a':Act}{w w':World}
theorem amO(h:Rel C E s g w){X:Rt->aZ->Prop}{nb:Nat->Prop}(x:Out C E nt X o.dst nb g w s' a' w' g'){W F:Acc}{n:List Nat}{ps:List Pl}{D:Pl->Bool}(M:zD X W F)(hd:∀d,o.dst=some d->d∈W.sl/\d∈F.sl)(hn:∀k,nb k->k∈n/\k∈W.bx):
  Rel C E (kq W F n ps (s'.kill D) s) g' w':=by
 have hT:=Lh W F n ps (s'.kill D) s;have sl:∀k,(kq W F n ps (s'.kill D) s).slot k=if(eV k W.sl&&dK s.t k)=true then Ev.kill D (s'.slot k) else kl F W n ps (s.slot k):=λk=>by
  have:=congrFun (congrArg Prod.fst hT) k
  simp only[fs,Rec.app,rG] at this
  rw[this,tY]
  rfl
 have bx:∀k,(kq W F n ps (s'.kill D) s).box k=if(eV k W.bx&&dK s.h k)=true then s'.box k else s.box k:=λk=>by
  have:=congrFun (congrArg Prod.snd hT) k
  simp only[fs,Rec.app,rG] at this
  rw[this,acU]
  rfl
 generalize kq W F n ps (s'.kill D) s=T at sl bx;have H:Rel C E (xn ps (ui F W n s)) g w:=h.xK (λk=>by rw[OQ];exact(h.eK k).kA _ _) (λk=>.inl (by simp only[TS.box];rw[JS,Ko]));have s1:∀k,(xn ps (ui F W n s)).slot k=kl F W n ps (s.slot k):=λk=>OQ s k ps;have b1:∀k,(xn ps (ui F W n s)).box k=s.box k:=λk=>by simp only[TS.box];rw[JS,Ko]
 refine H.pf x.fK (λk=>?_) (λk=>?_)
 ·rw[sl]
  by_cases y:k∈W.sl
  ·left
   rw[kE.2 y,pA]
   by_cases I:dK s.t k=true
   ·rw[aD I];exact(x.rel.eK k).kill D
   ·rw[aE I];have:s.slot k=.un:=xf _ _ _ (by simpa using I);rw[this];simp only[kl,Sg];exact .un _ _
  ·have Ca:eV k W.sl=false:=by
     cases h:eV k W.sl with
     |false=>rfl
     |true=>exact absurd (kE.1 h) y
   rw[Ca];simp only[CO,iJ,iy]
   right
   refine⟨(s1 k).symm,x.tm k (λe=>y (hd k e).1),λp hx=>y (M.sl k p hx),?_⟩;rw[s1];have N:∀p,kV F W n p=false->p.iL F=false/\(p.jP=true->p.iL W=false)/\p.iL ⟨[],n⟩=false:=λp A=>by
    simp only[kV,Bool.or_eq_false_iff,rN] at A
    obtain⟨H,h2⟩:=A
    cases U:p.iL F with
    |true=>rw[U] at H;simp at H
    |false=>
     rw[U,aH] at H
     refine⟨rfl,λhs=>?_,h2⟩
     rw[hs,aF] at H
     exact H
   have Q:∀p,kV F W n p=false->p.jP=true->∀π,¬ X (gp p).1 π:=λp A hs π hx=>by
    have:=(N p A).2.1 hs
    have U:p.iL W=true:=DW.2 (by
     cases R:(gp p).1 with
     |slot k=>rw[R] at hx;exact .inl ⟨k,rfl,M.sl k π hx⟩
     |box k=>rw[R] at hx;exact .inr ⟨k,rfl,M.bx k π hx⟩
     |aw m=>exact(jo p m R).elim)
    rw[U] at this
    cases this
   refine⟨λj J=>x.bx j (λS=>(as0 J).2 (hn j S).1),λp A=>?_,λp A π=>?_⟩
   ·obtain⟨Y,Z⟩:=agH A;obtain⟨o1,o2,o3⟩:=N p Z;have cI:=(h.eK k).xv Y;have:=oU x.fK p cI (qj x.fK λq R t hx=>by
     obtain⟨e1,e2⟩:=sF R
     rw[e1] at hx
     exact Q p Z e2 _ hx) (λj J _=>x.tm j (λe=>by
      have:p.iL F=true:=DW.2 (.inl ⟨j,A3.1 J,(hd j e).2⟩)
      rw[o1] at this;cases this)) (λj J=>⟨x.bx j (λS=>by
      have:p.iL ⟨[],n⟩=true:=DW.2 (.inr ⟨j,DE.1 J,(hn j S).1⟩)
      rw[o3] at this;cases this),λhx=>by
      have:p.iL F=true:=DW.2 (.inr ⟨j,DE.1 J,M.top j hx⟩)
      rw[o1] at this;cases this⟩);exact⟨this.1,λ_=>this.2⟩
   ·have Y:=as1 A;have Z:=(agH A.mv).2;refine Q p Z ?_ _;have hr:=h.eK k;generalize s.slot k=z at Y hr;generalize g.tm k=u at hr;cases Y;cases hr;assumption
 ·rw[bx]
  by_cases y:k∈W.bx
  ·left
   rw[kE.2 y,pA]
   by_cases I:dK s.h k=true
   ·rw[aD I];exact x.rel.boxes k
   ·rw[aE I];have:s.box k=.none:=xf _ _ _ (by simpa using I);rw[this];trivial
  ·right
   have Ca:eV k W.bx=false:=by
    cases h:eV k W.bx with
    |false=>rfl
    |true=>exact absurd (kE.1 h) y
   rw[Ca];simp only[CO,iJ,iy];exact⟨(b1 k).symm,x.bx k (λS=>y (hn k S).2),λp hx=>y (M.bx k p hx)⟩
end
end
section
theorem U9{e:Type}{f f':Nat->e}{t:Tr e}:∀{l:List Nat},(∀k∈l,f k=f' k)->l.foldr (λk t=>t.set k (f k)) t=l.foldr (λk t=>t.set k (f' k)) t
 |[],_=>rfl
 |k::l,h=>by
  simp only[Ot];rw[U9 (l:=l) λj u=>h j (by simp[u]),h k (by simp)]
section
variable{R:Acc}{s S:TS}
theorem abe(h:tK R (fs S) (fs s)):oz R S=oz R s:=by
 simp only[oz];rw[U9 (f:=λk=>S.slot k) (f':=λk=>s.slot k) h.sl,U9 (f:=λk=>S.box k) (f':=λk=>s.box k) h.bx]
theorem abF(k:Nat):(oz R s).slot k=if eV k R.sl=true/\dK sM k=true then s.slot k else .un:=by
 simp only[TS.slot,oz];rw[Dy];simp only[sM,AB];rfl
theorem amP(k:Nat):(oz R s).box k=if eV k R.bx=true/\dK vh k=true then s.box k else .none:=by
 simp only[TS.box,oz];rw[Dy];simp only[vh,AB];rfl
theorem alU:(∀k,(oz R s).slot k=s.slot k\/(oz R s).slot k=.un)/\∀k,(oz R s).box k=s.box k\/(oz R s).box k=.none:=by
 refine⟨λk=>?_,λk=>?_⟩
 ·rw[abF];split
  ·exact .inl rfl
  ·exact .inr rfl
 ·rw[amP];split
  ·exact .inl rfl
  ·exact .inr rfl
theorem aoc{k:Nat}(h:k∈R.sl)(e:k<2047):(oz R s).slot k=s.slot k:=by
 rw[abF,aD ⟨kE.2 h,Wa _ _ _ (by omega)⟩]
end
section
variable{C:Cx}{s t S:TS}{o:Oper}
theorem Kq(j:∀k,t.slot k=S.slot k\/t.slot k=.un)(u:∀k,t.box k=S.box k\/t.box k=.none):∀(p:Pl){v:TV},fo C t p=some v->v≠.un->fo C S p=some v
 |.slot k,v,h,x=>by
  simp only[fo] at h⊢;split at h
  ·rename_i A;rw[aD A];simp only[aQ] at h;rcases j k with e|e
   ·rw[<-e,h]
   ·rw[e] at h;exact absurd h.symm x
  ·simp at h
 |.cell k c,v,h,x=>by
  simp only[fo] at h⊢;rcases u k with e|e
  ·rw[<-e];exact h
  ·rw[e] at h;simp at h
 |.sub p ty i c,v,h,x=>by
  simp only[fo] at h⊢;split at h
  ·rename_i d D F y;rw[Kq j u p y (by simp)];exact h
  ·rename_i D F y;rw[Kq j u p y (by simp)];exact h
  ·simp at h
theorem amQ{R:Type}{e:Ty}{y:TV}(j:flat e=true)(K:Bool->List (El e)->TS->Option R):nP C e y s K=(nP C e y s λd u _=>some (d,u)).bind λx=>K x.1 x.2 s:=by
 cases y with
 |vw p t=>
  simp only[nP,j,aF,pH]
  congr 1;funext v
  cases v<;>first|rfl|simp only[pE,Lx]
 |sl p t0 lo hi=>
  simp only[nP,j,aF,pH]
  congr 1;funext v
  cases v<;>first|rfl|simp only[dQ,dY,fh,pE,Lx]
 |s x=>simp only[nP];unfold castLT;split<;>rfl
 |_=>first|rfl|simp only[nP,pE,Lx]
theorem amR{e:Ty}{y:TV}(A:∀k,t.slot k=S.slot k\/t.slot k=.un)(D:∀k,t.box k=S.box k\/t.box k=.none)(F:flat e=true){x:Bool×List (El e)}(h:(nP C e y t λd u _=>some (d,u))=some x):(nP C e y S λd u _=>some (d,u))=some x:=by
 cases y with
 |vw p ty=>
  simp only[nP,F,aF,yS] at h⊢;cases j:fo C t p with
  |none=>rw[j] at h;simp at h
  |some v=>
   rw[j,sx] at h;rw[Kq A D p j (λe=>by subst e;simp at h),sx];exact h
 |sl p t0 lo hi=>
  simp only[nP,F,aF,yS] at h⊢;cases j:fo C t p with
  |none=>rw[j] at h;simp at h
  |some v=>
   rw[j,sx] at h;rw[Kq A D p j (λe=>by subst e;simp at h),sx];exact h
 |_=>exact h
theorem ap1{e:Ty}{D:Nat}{p:Pl}{F:Ty}{y:TV}{d:Option Nat}{s':TS}(J:∀k,t.slot k=S.slot k\/t.slot k=.un)(M:∀k,t.box k=S.box k\/t.box k=.none)(H:p.jP=true)
  (h:(B2 C e D (.vw p F) y t λv u=>some (cz C u d v))=some s'):
  ∃zs,s'=cz C (t.fE p.jK) d (.pa p e zs)/\(B2 C e D (.vw p F) y S λv u=>some (cz C u d v))=some (cz C (S.fE p.jK) d (.pa p e zs)):=by
 unfold B2 at h⊢;cases A:flat e with
 |false=>
  exfalso;have N:=afI (C:=C) (s:=t) e y (λd Q s=>some (d,Q,s)) λx:Bool×List (El e)×TS=>(match(TV.vw p F) with
   |.vw p _=>ko C x.2.2 p λv=>
    match v with
    |.own U Y I=>castLT Y e I λI=>ae (aN D I x.2.1) λzs=>
     bif p.jP then(bif flat e then(λv u=>some (cz C u d v)) (.pa p e zs) (x.2.2.fE p.jK) else none) else oB x.2.2 p λs'=>(λv u=>some (cz C u d v)) (.own (bif flat e then true else bif x.1 then U else false) e zs) s'
    |_=>none
   |_=>none:Option TS);simp only[Lx,H,A,aF,aH] at N;simp only[H,A,aF,aH] at h;have h:=N.trans h;obtain⟨x,_,hx⟩:=Fi.1 h;rw[yS] at hx;obtain⟨v,_,j⟩:=Fi.1 hx;split at j
  ·unfold castLT at j;split at j
   ·unfold ae at j;obtain⟨z,_,hz⟩:=Fi.1 j;simp at hz
   ·simp at j
  ·simp at j
 |true=>
  rw[amQ A] at h⊢;obtain⟨⟨d0,Q⟩,hx,h⟩:=Fi.1 h;rw[amR J M A hx,sx];simp only[H,A,aF,yS] at h⊢;obtain⟨v,j,h⟩:=Fi.1 h;rw[Kq J M p j (λe=>by subst e;simp at h),sx];split at h
  ·unfold castLT at h⊢;split at h
   ·rename_i Z;rw[Ut Z];unfold ae at h⊢;obtain⟨zs,hz,h⟩:=Fi.1 h;dsimp only;rw[hz,sx];simp only[aQ] at h;exact⟨zs,h.symm,rfl⟩
   ·simp at h
  ·simp at h
theorem aod(h:∀k,.tmp k∈o.op.operands.toList->t.slot k=s.slot k):oZ t o=oZ s o/\ET C t o=ET C s o/\zi C t o=zi C s o/\qu C t o=qu C s o/\pO t o=pO s o:=by
 have H:∀x∈o.op.operands.toList,aU C t x=aU C s x:=λx hx=>Hd λk U=>h k (U ▸hx);have N:∀x∈o.op.operands.toList,bZ t x=bZ s x:=λx hx=>by
  funext q
  refine propext ⟨λ⟨k,e,j⟩=>⟨k,e,?_⟩,λ⟨k,e,j⟩=>⟨k,e,?_⟩⟩
  ·rw[<-h k (e ▸hx)];exact j
  ·rw[h k (e ▸hx)];exact j
 have Y:BS t o=BS s o:=by
  funext q
  refine propext ⟨λ⟨x,hx,j⟩=>⟨x,hx,by rw[<-N x hx];exact j⟩,λ⟨x,hx,j⟩=>⟨x,hx,by rw[N x hx];exact j⟩⟩
 have Q:pO t o=pO s o:=by
  unfold pO
  cases D:o.op with
  |call c=>
   simp only[]
   cases J:c.callee with
   |builtin b=>
    cases b with
    |append=>
     simp only[]
     cases Z:c.args.toList with
     |nil=>rfl
     |cons x xs=>
      cases x with
      |tmp k=>simp only[];rw[h k (by simp[D,Op.operands,Call.operands,J,Z])]
      |_=>rfl
    |_=>rfl
   |_=>rfl
  |_=>rfl
 refine⟨?_,?_,?_,?_,Q⟩
 ·unfold oZ;split
  ·rfl
  ·exact Y
 ·funext q p;refine propext ⟨λ⟨ty,F,x,e,j⟩=>⟨ty,F,x,e,?_⟩,λ⟨ty,F,x,e,j⟩=>⟨ty,F,x,e,?_⟩⟩
  ·rw[<-H F (by simp[e,Op.operands])];exact j
  ·rw[H F (by simp[e,Op.operands])];exact j
 ·funext q p;have I:∀c x,o.op=.call c->c.callee=.value x->aU C t x=aU C s x/\c.args.toList.map (aU C t)=c.args.toList.map (aU C s):=λc x u A=>by
   refine⟨H x (by simp[u,Op.operands,Call.operands,A]),CM λy hy=>H y ?_⟩
   simp only[u,Op.operands,Call.operands,A,On]
   exact cU.2 (.inr hy)
  refine propext ⟨λ⟨c,x,f,cap,u,A,M,j⟩=>⟨c,x,f,cap,u,A,?_,?_⟩,λ⟨c,x,f,cap,u,A,M,j⟩=>⟨c,x,f,cap,u,A,?_,?_⟩⟩
  ·rw[<-(I c x u A).1];exact M
  ·rw[<-(I c x u A).2];exact j
  ·rw[(I c x u A).1];exact M
  ·rw[(I c x u A).2];exact j
 ·unfold qu;rw[Q];cases D:o.op with
  |move x=>
   cases x with
   |tmp k=>simp only[];rw[h k (by simp[D,Op.operands])]
   |_=>rfl
  |assign x=>
   cases x with
   |tmp k=>simp only[];rw[h k (by simp[D,Op.operands])]
   |_=>rfl
  |extract x i=>
   cases x with
   |tmp k=>simp only[];rw[h k (by simp[D,Op.operands])]
   |_=>rfl
  |_=>rfl
end
section
variable{P:Program}{C:Cx}{E:Env}{nt:Nat}{o:Oper}{S st s':TS}{g:Gs}{a:Act}{w:World}
theorem Va(h:ug o=true):zf C S o=none:=by
 unfold ug at h;unfold zf;cases e:o.op with
 |call c=>
  rw[e] at h;simp only[] at h⊢;cases j:c.callee with
  |value x=>rw[j] at h;cases h
  |_=>rfl
 |_=>rfl
theorem as3{d:Nat}(h:o.dst=some d):d∈(gG C S o).sl/\d∈(nR C S o).sl:=by
 constructor
 ·unfold gG;split
  ·simp[Acc.add,h,br]
  ·cases qu C S o<;>simp[Acc.add,h,br]
 ·unfold nR;split
  ·simp[h,br]
  ·split<;>simp[h,br]
theorem afQ{k:Nat}(u:qu C S o=false)(h:k∈nS o):k∈(gG C S o).bx:=by
 unfold gG;split
 ·simp[Acc.add,br,KQ h]
 ·rw[u,aH];simp only[Acc.add,Ep,cU];refine .inr (.inl ?_);have j:=KQ h;unfold nS at h;split at h
  ·rename_i e;first|(rw[j];simp[br];done)|(rw[e,j];simp[br];done)
  ·rename_i e;first|(rw[j];simp[br];done)|(rw[e,j];simp[br];done)
  ·rename_i c e
   first|(rw[j];simp[br];done)|(rw[e,j];simp[br];done)
  ·simp at h
theorem alV{c:Call}{x:Operand}{f:Nat}{cap:List TV}(A:o.op=.call c)(D:c.callee=.value x)(F:aU C S x=.fn f cap):zD (zi C S o) (gG C S o) (nR C S o):=by
 cases H:C.fn f (Bc (c.args.toList.map (aU C S)++cap)) with
 |some q=>exact amN A D F H
 |none=>
  have I:zf C S o=none:=by simp only[zf,A,D,F,H]
  have ZT:qu C S o=false:=by simp only[qu,A,D]
  have u:∀J N,zi C S o J N->∃k,.tmp k∈c.args.toList/\J=.slot k:=λJ N hx=>by
   obtain⟨c',x',f',Q,U,Y,Z,hx⟩:=hx
   rw[A] at U
   cases U
   rw[D] at Y
   cases Y
   rw[F] at Z
   cases Z
   rcases hx with⟨⟨y,hy,k,rfl,rfl⟩,hb⟩|⟨q',vU,hx⟩
   ·exact⟨k,hy,rfl⟩
   ·rw[H] at vU;cases vU
  refine⟨λk p hx=>?_,λk p hx=>?_,λk hx=>?_⟩
  ·obtain⟨j,M,e⟩:=u _ _ hx;cases e;simp only[gG,I,ZT,aH,Acc.add,Ep,cU];refine .inr (.inr (Hf ?_).1);simp only[A,Op.operands,Call.operands,D,On];exact cU.2 (.inr M)
  ·obtain⟨j,M,e⟩:=u _ _ hx;cases e
  ·obtain⟨j,M,e⟩:=u _ _ hx;cases e
theorem XC{ops:List Oper}{k:Nat}(h: .tmp k∈o.op.operands.toList):k∈(jR C ops st o).sl:=by
 simp only[jR,Ep,Acc.add,cU];exact .inr (.inr (Hf h).1)
theorem Out.X9{X:Rt->aZ->Prop}{nb:Nat->Prop}{u:Act}{x:World}{g':Gs}(h:Out C E nt X o.dst nb g w s' u x g')(j:gN nt o.dst)(y:∀k,nb k->o.dst=some k):jf nt g g':=λk D=>by
 have:o.dst≠some k:=λe=>by rw[e] at j;exact absurd (show k<nt from j) (by omega)
 exact⟨h.tm k this,h.bx k λA=>this (y k A)⟩
def mw(C:Cx)(d:Option Nat):Pl->Bool:=match d with
 |some d=>if C.vs d=true then Pl.nc d elseλ_=>false
 |none=>λ_=>false
theorem abG{d:Option Nat}{q:Pl}(h:mw C d q=true):∃k,d=some k/\q.nc k=true:=by
 cases d with
 |none=>simp[mw] at h
 |some k=>
  simp only[mw] at h;split at h
  ·exact⟨k,rfl,h⟩
  ·simp at h
theorem Ya{I O:TV->Bool}(e:∀v,I v=false)(j:∀v,O v=false)(v:TV):kA I O v=v:=LD (λ_ _ c _=>e c) λ_=>j v
theorem GY(v:TV):eP (λ_=>false) v=false:=by cases v<;>rfl
theorem Wd(S:TS)(d:Option Nat)(v:TV):(∀k,d≠some k->(cz C S d v).slot k=kA (eP (mw C d)) (eP (mw C d)) (S.slot k))/\
  ∀k,d=some k->(cz C S d v).slot k=(if dK S.t k=true then kA (eP (mw C d)) (eP (mw C d)) v else .un):=by
 cases d with
 |none=>exact⟨λk _=>(Ya GY GY _).symm,λk h=>by cases h⟩
 |some d=>
  simp only[cz,TS.put,mw];cases x:C.vs d with
  |true=>
   simp only[aF,fM];refine⟨λk j=>?_,λk j=>?_⟩
   ·rw[uT _ _ (λe=>j (by rw[e])),tY,Q1]
   ·cases j;split
    ·rename_i u;rw[<-Q1];exact JR _ _ _ _ (by simp only[TS.kill];rw[Bf];exact u)
    ·rename_i u;exact xf _ _ _ (by simp only[TS.raw,TS.kill];rw[DV,Bf];simpa using u)
  |false=>
   simp only[aH,iJ,iy];refine⟨λk j=>?_,λk j=>?_⟩
   ·rw[uT _ _ (λe=>j (by rw[e])),Ya GY GY]
   ·cases j;rw[Ya GY GY];split
    ·rename_i u;exact JR _ _ _ _ u
    ·rename_i u;exact xf _ _ _ (by simp only[TS.raw];rw[DV];simpa using u)
theorem aeN(S:TS)(d:Option Nat)(v:TV)(k:Nat):(cz C S d v).box k=S.box k:=by
 cases d with
 |none=>rfl
 |some d=>simp only[cz,TS.put];cases C.vs d<;>rfl
theorem ark{t:TS}{p:Pl}{e:Ty}{zs:List (El e)}{I:Gs}{w':World}{ops:List Oper}(h:Rel C E (cz C (S.fE p.jK) o.dst (.pa p e zs)) I w'):
  Rel C E (kq ⟨br o.dst,[]⟩ ⟨br o.dst,[]⟩ [] [p] (rC C ops o st (cz C (t.fE p.jK) o.dst (.pa p e zs))) S) I w':=by
 have D:=Lh ⟨br o.dst,[]⟩ ⟨br o.dst,[]⟩ [] [p] (rC C ops o st (cz C (t.fE p.jK) o.dst (.pa p e zs))) S;refine h.xK (λk=>?_) (λk=>?_)
 ·have this:(kq ⟨br o.dst,[]⟩ ⟨br o.dst,[]⟩ [] [p] (rC C ops o st (cz C (t.fE p.jK) o.dst (.pa p e zs))) S).slot k=if(eV k (br o.dst)&&dK S.t k)=true then(rC C ops o st (cz C (t.fE p.jK) o.dst (.pa p e zs))).slot k else kl ⟨br o.dst,[]⟩ ⟨br o.dst,[]⟩ [] [p] (S.slot k):=congrFun (congrArg Prod.fst D) k
  rw[this];clear this D;have x:=h.eK k;obtain⟨N,Q⟩:=Wd (C:=C) (S.fE p.jK) o.dst (.pa p e zs)
  by_cases y:o.dst=some k
  ·rw[Q k y] at x;have U:dK (S.fE p.jK).t k=dK S.t k:=congrFun (Bf _ _) k;rw[U] at x
   by_cases F:dK S.t k=true
   ·rw[aD F] at x;have H:eV k (br o.dst)=true:=kE.2 (by simp[y,br]);rw[H,F,pA,aD rfl];simp only[rC];rw[tY,(Wd (C:=C) (t.fE p.jK) o.dst (.pa p e zs)).2 k y];split
    ·exact x.kill _
    ·exact .un _ _
   ·have J:dK S.t k=false:=by simpa using F
    rw[J,akM,aE (by simp)];have:S.slot k=.un:=xf _ _ _ J;rw[this];simp only[kl,Sg];exact .un _ _
  ·rw[N k y,Dp,adv] at x;have H:eV k (br o.dst)=false:=by
    cases Y:eV k (br o.dst) with
    |false=>rfl
    |true=>
     have:=kE.1 Y
     cases A:o.dst with
     |none=>rw[A] at this;simp[br] at this
     |some d=>rw[A] at this;simp[br] at this;exact absurd (by rw[A,this]) y
   rw[H,CO,aE (by simp)];have j:=x.kA (n5 ⟨br o.dst,[]⟩ ⟨br o.dst,[]⟩ []) (me ⟨br o.dst,[]⟩ ⟨br o.dst,[]⟩ [] [p]);rw[BB,BB] at j;have M:∀v,eP (mw C o.dst) v=true->eP (kV ⟨br o.dst,[]⟩ ⟨br o.dst,[]⟩ []) v=true:=λv u=>by
    have one:∀q,mw C o.dst q=true->kV ⟨br o.dst,[]⟩ ⟨br o.dst,[]⟩ [] q=true:=λq Z=>by
     obtain⟨d,A,ho⟩:=abG Z
     have:q.iL ⟨br o.dst,[]⟩=true:=DW.2 (.inl ⟨d,Bd.1 ho,by simp[A,br]⟩)
     simp only[kV,rN,this,aF,akN]
    cases v<;>simp only[eP] at u⊢<;>first|exact one _ u|(cases u;done)
   have eq:kA (λv=>n5 ⟨br o.dst,[]⟩ ⟨br o.dst,[]⟩ [] v||(eP (mw C o.dst) v||false)) (λv=>me ⟨br o.dst,[]⟩ ⟨br o.dst,[]⟩ [] [p] v||(eP (mw C o.dst) v||mI p.jK v)) (S.slot k)=kl ⟨br o.dst,[]⟩ ⟨br o.dst,[]⟩ [] [p] (S.slot k):=by
    refine He (λv=>?_) (λv=>?_) _
    ·simp only[n5,Ou];cases u:eP (mw C o.dst) v with
     |false=>simp
     |true=>rw[M v u];rfl
    ·simp only[me,adw];have:mI (vB []) v=false:=by cases v<;>rfl
     rw[this];cases u:eP (mw C o.dst) v with
     |false=>cases mI p.jK v<;>cases eP (kV ⟨br o.dst,[]⟩ ⟨br o.dst,[]⟩ []) v<;>rfl
     |true=>rw[M v u];rfl
   first
    |(rw[eq] at j;exact j)
    |(rw[<-eq];exact j)
    |(rw[<-eq];simpa only[Bool.or_assoc] using j)
 ·left
  have:=congrFun (congrArg Prod.snd D) k;simp only[fs,Rec.app,rG] at this;rw[this,aeN];simp only[eV,CO,iJ,iy];rfl
theorem ap2(hC:eW P C)(hF:uj P C)(rX:nt<2047)(h:Rel C E S g w)(l:cD nt g a)(U:qn P C nt o=true){ops:List Oper}(hA:tK (jR C ops st o) (fs S) (fs st))(u:Ev.step C o (oz (jR C ops st o) st) some=some s'):
  zt P o a w (λI J=>∃g',Rel C E (kq (gG C st o) (nR C st o) (nS o) (pO st o) (rC C ops o st s') S) g' J/\cD nt g' I/\jf nt g g'):=by
 obtain⟨hd,hx⟩:=yH U;rw[<-abe hA] at u;obtain⟨w1,w2⟩:=alU (R:=jR C ops st o) (s:=S);have hT:Rel C E (oz (jR C ops st o) S) g w:=h.xK (λk=>by
  rcases w1 k with e|e<;>rw[e]
  ·exact h.eK k
  ·exact .un _ _) w2;have Y:∀k,.tmp k∈o.op.operands.toList->(oz (jR C ops st o) S).slot k=st.slot k:=λk u=>by
  have h1:=hx _ u
  have h2:k<nt:=by simpa[dW,wO] using h1
  rw[aoc (XC u) (by omega)]
  exact hA.sl k (XC u)
 generalize oz (jR C ops st o) S=t at u w1 w2 hT Y;obtain⟨c1,c2,c3,c4,c5⟩:=aod (C:=C) Y;have M:∀{X:Rt->aZ->Prop}{nb:Nat->Prop}{I J},(∃g',Out C E nt X o.dst nb g w s' I J g')->zD X (gG C st o) (nR C st o)->(∀k,nb k->k∈nS o/\k∈(gG C st o).bx)->
   ∃g',Rel C E (kq (gG C st o) (nR C st o) (nS o) (pO st o) (rC C ops o st s') S) g' J/\cD nt g' I/\jf nt g g':=λ⟨g',A⟩hX hn=>
  ⟨g',amO h A hX (λd e=>as3 e) hn,A.Iy,A.X9 hd λk H=>KQ (hn k H).1⟩
 cases F:ug o with
 |false=>
  cases A:o.op with
  |call c=>
   cases j:c.callee with
   |value x=>
    obtain⟨s2,e,N⟩:=aeF hC hF hT l U A j u;cases e;refine N.mono λI J Z=>M Z ?_ λk H=>?_
    ·rw[c3];have eY:=u;simp only[Ev.step,A,j] at eY;split at eY
     ·rename_i f cap n4;rw[Hd (s:=st) λk e=>Y k (by simp[A,Op.operands,Call.operands,j,e])] at n4;exact alV A j n4
     ·simp at eY
    ·have EZ:k∈nS o:=by simp[nS,A,j,H,br]
     exact⟨EZ,afQ (by simp only[qu,A,j]) EZ⟩
   |invoke x m=>simp[Ev.step,A,j] at u
   |builtin b=>simp[ug,A,j] at F
  |_=>simp[ug,A] at F
 |true=>
  cases hp:qu C st o with
  |false=>
   obtain⟨s2,e,N⟩:=step_ok hC hT l U F u;cases e;refine N.mono λI J Z=>M Z ?_ λk H=>⟨H,afQ hp H⟩;rw[c1,c2];exact aob h.l9 (Va F) hp
  |true=>
   cases D:pO st o with
   |nil=>
    obtain⟨s2,e,N⟩:=apY hC hT l U (by rw[c4];exact hp) (by rw[c5];exact D) u;cases e;rw[<-D];exact N.mono λI J Z=>M Z (aoa _ _) λk H=>H.elim
   |cons p ps=>
    have ap:=D;unfold pO at D;split at D
    ·rename_i c A;split at D
     ·rename_i j;split at D
      ·rename_i k xs Q;split at D
       ·rename_i p' τ ab;cases j7:p'.jP with
        |false=>rw[j7] at D;simp at D
        |true=>
         rw[j7,aF] at D;simp only[nh] at D;obtain⟨rfl,rfl⟩:=D;cases xs with
         |nil=>simp[Ev.step,A,j,Q] at u
         |cons y ys=>
          cases ys with
          |cons _ _=>simp[Ev.step,A,j,Q] at u
          |nil=>
           cases bY:c.argTypes.toList with
           |nil=>simp[Ev.step,A,j,Q,bY] at u
           |cons ty zU=>
            cases qN:C.aR ty with
            |sl e sz cF=>
             simp only[Ev.step,A,j,Q,bY,qN] at u;have aa:∀k,.tmp k∈o.op.operands.toList->t.slot k=S.slot k:=λk u=>(Y k u).trans (hA.sl k (XC u)).symm;have hm:∀z∈[Operand.tmp k,y],z∈o.op.operands.toList:=λz hz=>by
              rw[<-Q] at hz
              simp only[A,Op.operands,Call.operands,j]
              simpa using hz
             have ex:aU C t (.tmp k)=.vw p' τ:=by simp only[aU,Y k (hm _ (by simp)),ab,o9]
             have ad:aU C S (.tmp k)=.vw p' τ:=by rw[<-ex];exact(Hd λk u=>aa k (u ▸hm _ (by simp))).symm
             have am:aU C t y=aU C S y:=Hd λk u=>aa k (u ▸hm _ (by simp));rw[ex,am] at u;obtain⟨zs,e1,e2⟩:=ap1 w1 w2 j7 u;have ao:Ev.step C o S some=some (cz C (S.fE p'.jK) o.dst (.pa p' e zs)):=by
              simp only[Ev.step,A,j,Q,bY,qN]
              rw[ad]
              exact e2
             obtain⟨s2,e3,N⟩:=step_ok hC h l U F ao;cases e3;refine N.mono λI J⟨g',eI⟩=>⟨g',?_,eI.Iy,eI.X9 hd λk H=>KQ H⟩;have hW:gG C st o=⟨br o.dst,[]⟩:=by simp only[gG,Va F,hp,aF]
             have NC:nR C st o=⟨br o.dst,[]⟩:=by simp only[nR,Va F,A]
             have hn:nS o=[]:=by simp only[nS,A,j]
             rw[hW,NC,hn];subst e1;exact ark eI.rel
            |_=>simp[Ev.step,A,j,Q,bY,qN] at u
       ·simp at D
      ·simp at D
     ·simp at D
    ·simp at D
end
end
section
def LF(ops:List Oper)(L:Nat->Bool):Prop:=∀j o,ops[j]?=some o->L j=true->∀e∈o.after.toList,Region.binds .any e=true->L e.on=true
def Yb(ops:List Oper)(j p:Nat):Prop:=∀L,LF ops L->(∀o,ops[j]?=some o->∀e∈o.after.toList,Region.binds .any e=true->L e.on=true)->∀i,Nat.testBit p i=true->L i=true
theorem UN{done:List Nat}{i:Nat}:∀{j:List Edge},Nat.testBit (DS done j) i=true->∃e∈j,Region.binds .any e=true/\(i=e.on\/Nat.testBit (done.getD e.on 0) i=true)
 |[],h=>by simp[DS] at h
 |e::j,h=>by
  simp only[DS] at h;cases u:Region.binds .any e with
  |false=>
   rw[u,aH] at h;obtain⟨x,y,a⟩:=UN h;exact⟨x,by simp[y],a⟩
  |true=>
   rw[u,aF] at h;have h:Nat.testBit ((Nat.shiftLeft 1 e.on|||done.getD e.on 0)|||DS done j) i=true:=h;rw[Nat.testBit_or,Nat.testBit_or,CN,CN] at h;rcases h with(h|h)|h
   ·refine⟨e,by simp,u,.inl ?_⟩;have h:Nat.testBit (1<<<e.on) i=true:=h;rw[Nat.testBit_shiftLeft] at h;simp only[bo,bH] at h;have a:=h.2;cases A:i-e.on with
    |zero=>omega
    |succ m=>rw[A,Nat.testBit_succ] at a;simp at a
   ·exact⟨e,by simp,u,.inr h⟩
   ·obtain⟨x,y,a⟩:=UN h;exact⟨x,by simp[y],a⟩
theorem abH{ops:List Oper}:∀(os pre:List Oper)(done:List Nat),ops=pre++os->done.length=pre.length->(∀j p,done[j]?=some p->Yb ops j p)->(rA os done).length=ops.length/\∀j p,(rA os done)[j]?=some p->Yb ops j p
 |[],pre,done,e,A,x=>by simp only[rA];exact⟨by rw[A,e];simp,x⟩
 |o::os,pre,done,e,A,x=>by
  simp only[rA];refine abH os (pre++[o]) _ (by rw[e];simp) (by simp[A]) λj p a=>?_
  by_cases D:j<done.length
  ·rw[rb D] at a;exact x j p a
  ·rw[sB (by omega)] at a;have M:j-done.length=0:=by
    cases hx:j-done.length with
    |zero=>rfl
    |succ m=>rw[hx] at a;simp at a
   rw[M] at a;simp only[tU,aQ] at a;subst a;have E:ops[j]?=some o:=by
    rw[e,sB (by omega)]
    have:j-pre.length=0:=by omega
    rw[this];rfl
   intro L J N i hi;obtain⟨y,P,Q,hi⟩:=UN hi;have u:=N o E y P Q;rcases hi with rfl|hi
   ·exact u
   ·cases F:done[y.on]? with
    |none=>
     have:done.getD y.on 0=0:=by simp[iR,F]
     rw[this] at hi;simp at hi
    |some q=>
     have:done.getD y.on 0=q:=by simp[iR,F]
     rw[this] at hi;exact x _ q F L J (λo' S U H I=>J _ o' S u U H I) i hi
theorem abI{e:Nat}{y:tr}:∀{u:List tr}{i:Nat},LV e y u i=true->∀k x,u[k]?=some x->Nat.testBit e (i+k)=true\/HH x y=true
 |[],i,_,k,x,a=>by simp at a
 |x::u,i,h,k,z,a=>by
  simp only[LV] at h;cases j:(bif Nat.testBit e i then true else HH x y) with
  |false=>rw[j] at h;simp at h
  |true=>
   rw[j,aF] at h;cases k with
   |zero=>
    simp only[tU,aQ] at a;subst a;rw[uQ];cases A:Nat.testBit e i with
    |true=>exact .inl rfl
    |false=>rw[A,aH] at j;exact .inr j
   |succ k=>
    have:=abI h k z (by simpa using a);rwa[show Nat.succ i+k=i+(k+1) by omega] at this
theorem abJ:∀{ps:List Nat}{u done:List tr},ze ps u done=true->∀j p y,ps[j]?=some p->u[j]?=some y->∀i x,(done++u)[i]?=some x->i<done.length+j->Nat.testBit p i=true\/HH x y=true
 |[],[],done,_,j,p,y,a,e,i,x,hx,hi=>by simp at a
 |p0::ps,[],done,_,j,p,y,a,e,i,x,hx,hi=>by simp at e
 |[],D::u,done,h,j,p,y,a,e,i,x,hx,hi=>by simp at a
 |p0::ps,D::u,done,h,j,p,y,a,e,i,x,hx,hi=>by
  simp only[ze] at h;cases A:LV p0 D done 0 with
  |false=>rw[A] at h;simp at h
  |true=>
   rw[A,aF] at h;cases j with
   |zero=>
    simp only[tU,aQ] at a e;subst a;subst e;rw[rb (by omega)] at hx;have:=abI A i x hx;rwa[iu] at this
   |succ j=>
    refine abJ h j p y (by simpa using a) (by simpa using e) i x ?_ (by simp;omega);simpa using hx
theorem OR:∀{os:List Oper}{i:Nat},yX i os=true->∀j o,os[j]?=some o->∀e∈o.after.toList,Region.binds .any e=true->e.on<i+j
 |[],i,_,j,o,h=>by simp at h
 |o0::os,i,h,j,o,a=>by
  simp only[yX] at h;cases u:(o0.after.toList.all λe=>bif Region.binds .any e then Nat.blt e.on i else true) with
  |false=>rw[u] at h;simp at h
  |true=>
   rw[u,aF] at h;cases j with
   |zero=>
    simp only[tU,aQ] at a;subst a;intro e x y;have:=jJ.1 u e x;rw[y,aF,wO] at this;omega
   |succ j=>
    intro e x y;have:=OR h j o (by simpa using a) e x y;omega
theorem ady{a b:List Nat}(h:meets a b=false):∀k,k∈a->k∈b->False:=λk e j=>by
 have:meets a b=true:=by
  simp only[meets,List.any_eq_true]
  exact⟨k,e,k,j,by simp⟩
 rw[this] at h;cases h
theorem abf{a b:Acc}(h:a.meets b=false):(∀k,k∈a.sl->k∈b.sl->False)/\∀k,k∈a.bx->k∈b.bx->False:=by
 simp only[Acc.meets] at h;cases e:Ev.meets a.sl b.sl with
 |true=>rw[e] at h;simp at h
 |false=>rw[e,aH] at h;exact⟨ady e,ady h⟩
structure Item where
 s:TS
 d:tr
 out:TS
def Item.ρ(a:Item)(e j:Nat->Bool):Rec:=rG e j a.d.w a.d.f a.d.n a.d.p a.out
section
variable(C:Cx)(ops:List Oper)
structure wq(o:Oper)(it:Item):Prop where
 r:it.d.r=jR C ops it.s o
 v:it.d.v=(jR C ops it.s o).sl.map it.s.slot
 kn:B4 it.d.v=true
 go:∀f w n ps,rB f w n ps it.d.o=true->∀k∈it.d.w.sl,kl f w n ps (it.out.slot k)=it.out.slot k
 how:((∀j w,o.guard=some (j,w)->∃gd,qq ops j=some gd/\gd∈(jR C ops it.s o).sl/\it.s.slot gd=.b w)/\∃s',Ev.step C o (oz (jR C ops it.s o) it.s) some=some s'/\it.d=HS C ops o it.s s'/\it.out=rC C ops o it.s s')\/
  ((∃j w gd,o.guard=some (j,w)/\qq ops j=some gd/\gd∈(jR C ops it.s o).sl/\((∃x,it.s.slot gd=.b x/\x≠w)\/it.s.slot gd=.dM []))/\it.d=HI C ops o it.s/\it.out=ov o)
end
def Bg(e j:Nat->Bool):FS->List Item->FS->Prop|F,[],a=>a=F|F,u::l,a=>fs u.s=F/\Bg e j ((u.ρ e j).app F) l a
section
variable{C:Cx}{ops:List Oper}{R:Type}{r:R}{K:TS->Option R}
theorem arl{o:Oper}(f w:Acc)(n:List Nat)(ps:List Pl)(k:Nat):kl f w n ps ((ov o).slot k)=(ov o).slot k:=by
 have:(ov o).slot k=.dM []\/(ov o).slot k=.un:=by
  simp only[TS.slot,ov]
  rw[Dy .un (λ_=>TV.dM []),sM,AB]
  split
  ·exact .inl rfl
  ·exact .inr rfl
 rcases this with e|e<;>rw[e]<;>first|(simp only[kl,Sg];done)|skip
 refine LD (λa e=>by cases e) λ_=>?_;simp[me,eP,oI,mI]
theorem arn{s:TS}{k:Nat}{v:TV}(h:s.slot k=v)(a:v≠.un):fs (s.raw k v)=fs s:=Jd (funext λj=>adn h a j) rfl
theorem aro{R:Acc}{s t:TS}(h:fs s=fs t):tK R (fs s) (fs t):=by rw[h];exact⟨λ_ _=>rfl,λ_ _=>rfl⟩
theorem aeO{ot oh:Nat->Bool}:∀(os:List Oper)(E:List tr)(s:TS),ru C ops os E s K=some r->dK s.t=ot->dK s.h=oh->
  ∃l:List Item,l.length=os.length/\ze (rA ops []) (E++l.map (·.d)) []=true/\yX 0 ops=true/\(∃A,K A=some r/\Bg ot oh (fs s) l (fs A))/\∀(j:Nat)o it,os[j]?=some o->l[j]?=some it->wq C ops o it
 |[],E,s,h,Z,J=>by
  simp only[ru] at h;cases Q:ze (rA ops []) E [] with
  |false=>rw[Q] at h;simp at h
  |true=>
   rw[Q,aF] at h;cases h2:yX 0 ops with
   |false=>rw[h2] at h;simp at h
   |true=>
    rw[h2,aF] at h;exact⟨[],rfl,by simpa using Q,rfl,⟨s,h,rfl⟩,λj o it S=>by simp at S⟩
 |o::os,E,s,h,Z,J=>by
  simp only[ru] at h;cases nY:B4 ((jR C ops s o).sl.map s.slot) with
  |false=>rw[nY] at h;simp at h
  |true=>
  rw[nY,aF] at h;have H:∀(it:Item)(a:TS)(T:TS),it.s=s->fs a=fs s->dK a.t=ot->dK a.h=oh->wq C ops o it->T=kq it.d.w it.d.f it.d.n it.d.p it.out a->ru C ops os (E++[it.d]) T K=some r->
    ∃l:List Item,l.length=(o::os).length/\ze (rA ops []) (E++l.map (·.d)) []=true/\yX 0 ops=true/\(∃A,K A=some r/\Bg ot oh (fs s) l (fs A))/\∀(j:Nat)o' it,(o::os)[j]?=some o'->l[j]?=some it->wq C ops o' it:=λit a T e1 M N e4 hI hT h=>by
   have aa:dK T.t=ot:=by rw[hT,afO,N]
   have ab:dK T.h=oh:=by rw[hT,afP,e4]
   obtain⟨l,Q,h2,h3,⟨A,h4,h5⟩,h6⟩:=aeO os _ T h aa ab
   refine⟨it::l,by simp[Q],by simpa using h2,h3,⟨A,h4,by rw[e1],?_⟩,λj o' ND S U=>?_⟩
   ·have:fs T=(it.ρ ot oh).app (fs s):=by
      rw[hT,Lh,N,e4,M];rfl
    rw[<-this];exact h5
   ·cases j with
    |zero=>
     simp only[tU,aQ] at S U;subst S;subst U;exact hI
    |succ j=>exact h6 j o' ND (by simpa using S) (by simpa using U)
  have YV:∀(a:TS),fs a=fs s->dK a.t=ot->dK a.h=oh->(∀j w,o.guard=some (j,w)->∃u,qq ops j=some u/\u∈(jR C ops s o).sl/\s.slot u=.b w)->
    (LW C (jR C ops s o) o a λP=>ru C ops os (E++[HS C ops o s P]) (kq (gG C s o) (nR C s o) (nS o) (pO s o) (rC C ops o s P) a) K)=some r->
    ∃l:List Item,l.length=(o::os).length/\ze (rA ops []) (E++l.map (·.d)) []=true/\yX 0 ops=true/\(∃A,K A=some r/\Bg ot oh (fs s) l (fs A))/\∀(j:Nat)o' it,(o::os)[j]?=some o'->l[j]?=some it->wq C ops o' it:=λa M N e4 D h=>by
   simp only[LW] at h
   rw[abe (aro M)] at h
   obtain⟨P,eB,h⟩:=anP h
   refine H ⟨s,HS C ops o s P,rC C ops o s P⟩ a _ rfl M N e4 ⟨rfl,rfl,nY,λf w n ps U k hk=>?_,.inl ⟨D,P,eB,rfl,rfl⟩⟩ rfl h
   exact Vu U _ (gQ.2 ⟨k,hk,rfl⟩)
  have Yc:∀(a:TS),fs a=fs s->dK a.t=ot->dK a.h=oh->(∃j w u,o.guard=some (j,w)/\qq ops j=some u/\u∈(jR C ops s o).sl/\((∃x,s.slot u=.b x/\x≠w)\/s.slot u=.dM []))->
    ru C ops os (E++[HI C ops o s]) (kq ⟨br o.dst,[]⟩ ⟨br o.dst,[]⟩ [] [] (ov o) a) K=some r->
    ∃l:List Item,l.length=(o::os).length/\ze (rA ops []) (E++l.map (·.d)) []=true/\yX 0 ops=true/\(∃A,K A=some r/\Bg ot oh (fs s) l (fs A))/\∀(j:Nat)o' it,(o::os)[j]?=some o'->l[j]?=some it->wq C ops o' it:=λa M N e4 D h=>
   H ⟨s,HI C ops o s,ov o⟩ a _ rfl M N e4 ⟨rfl,rfl,nY,λf w n ps _ k _=>arl f w n ps k,.inr ⟨D,rfl,rfl⟩⟩ rfl h
  cases D:o.guard with
  |none=>
   rw[D] at h;exact YV s rfl Z J (λj w e=>by rw[D] at e;cases e) h
  |some jw=>
   obtain⟨j,w⟩:=jw;rw[D] at h;simp only[] at h;cases I:qq ops j with
   |none=>rw[I] at h;simp at h
   |some u=>
    rw[I] at h;simp only[] at h;have Y:u∈(jR C ops s o).sl:=by simp[jR,Acc.add,afo,D,I,br]
    split at h
    ·rename_i x hx;have TC:∀y,x=y->fs (s.raw u (.b y))=fs s:=λy e=>by subst e;exact arn hx (by simp)
     have o1:∀v,dK (s.raw u v).t=ot:=λv=>by simp only[TS.raw];rw[DV,Z]
     cases w with
     |true=>
      simp only[] at h;rcases G5.1 h with⟨F,h⟩|⟨F,h⟩
      ·exact YV _ (TC _ F) (o1 _) J (λj' w' e=>by rw[D] at e;cases e;exact⟨u,I,Y,by rw[hx,F]⟩) h
      ·exact Yc _ (TC _ F) (o1 _) J ⟨j,_,u,D,I,Y,.inl ⟨x,hx,by rw[F];simp⟩⟩ h
     |false=>
      simp only[] at h;rcases G5.1 h with⟨F,h⟩|⟨F,h⟩
      ·exact Yc _ (TC _ F) (o1 _) J ⟨j,_,u,D,I,Y,.inl ⟨x,hx,by rw[F];simp⟩⟩ h
      ·exact YV _ (TC _ F) (o1 _) J (λj' w' e=>by rw[D] at e;cases e;exact⟨u,I,Y,by rw[hx,F]⟩) h
    ·rename_i hx;exact Yc s rfl Z J ⟨j,w,u,D,I,Y,.inr hx⟩ h
    ·simp at h
end
end
section
theorem adz{C:Cx}{ops:List Oper}{ox D:Oper}{x y:Item}{F H:Nat->Bool}(u:wq C ops D y)
  (I:x.d.w.meets (y.d.r.add y.d.w)=false)(J:rB x.d.f x.d.w x.d.n x.d.p y.d.v=true):yd (x.ρ F H) y.d.r (fs y.s):=by
 obtain⟨M,N⟩:=abf I;have A:∀k∈y.d.r.sl,y.s.slot k∈y.d.v:=λk e=>by
  rw[u.v]
  rw[u.r] at e
  exact gQ.2 ⟨k,e,rfl⟩
 refine⟨λk e j=>?_,λk e j=>?_,λk e=>?_,λk e v Q=>?_⟩
 ·simp only[Item.ρ,rG,bo] at j;exact M k (kE.1 j.1) (cU.2 (.inl e))
 ·simp only[Item.ρ,rG,bo] at j;exact N k (kE.1 j.1) (cU.2 (.inl e))
 ·exact Vu J _ (A k e)
 ·exact asZ Q (aeL u.kn _ (A k e))
theorem pair{C:Cx}{ops:List Oper}{ox M:Oper}{x y:Item}{u A:Nat->Bool}(hx:wq C ops ox x)(N:wq C ops M y)(h:HH x.d y.d=true):
  Comm (x.ρ u A) (y.ρ u A)/\yd (x.ρ u A) y.d.r (fs y.s)/\yd (y.ρ u A) x.d.r (fs x.s):=by
 unfold HH at h;cases D:x.d.w.meets (y.d.r.add y.d.w) with
 |true=>rw[D] at h;simp at h
 |false=>
 rw[D,aH] at h;cases F:y.d.w.meets (x.d.r.add x.d.w) with
 |true=>rw[F] at h;simp at h
 |false=>
 rw[F,aH] at h;cases H:rB x.d.f x.d.w x.d.n x.d.p y.d.v with
 |false=>rw[H] at h;simp at h
 |true=>
 rw[H,aF] at h;cases I:rB y.d.f y.d.w y.d.n y.d.p x.d.v with
 |false=>rw[I] at h;simp at h
 |true=>
 rw[I,aF] at h;cases J:rB x.d.f x.d.w x.d.n x.d.p y.d.o with
 |false=>rw[J] at h;simp at h
 |true=>
 rw[J,aF] at h;obtain⟨Q,R⟩:=abf D;refine⟨⟨λk e j=>?_,λk e j=>?_,λk e=>?_,λk e=>?_,λv=>apZ _ _ _ _ _⟩,adz (ox:=ox) N D H,adz (ox:=M) hx F I⟩
 ·simp only[Item.ρ,rG,bo] at e j;exact Q k (kE.1 e.1) (cU.2 (.inr (kE.1 j.1)))
 ·simp only[Item.ρ,rG,bo] at e j;exact R k (kE.1 e.1) (cU.2 (.inr (kE.1 j.1)))
 ·simp only[Item.ρ,rG,bo] at e;exact hx.go _ _ _ _ h k (kE.1 e.1)
 ·simp only[Item.ρ,rG,bo] at e;exact N.go _ _ _ _ J k (kE.1 e.1)
def Sy(e j:Nat->Bool)(l:List Item)(i:Nat):Rec:=match l[i]? with
 |some u=>u.ρ e j
 |none=>⟨λ_=>false,λ_=>false,id,λ_=>.un,λ_=>(⟨sM,vh⟩:TS).box 0⟩
theorem ap3{e oh:Nat->Bool}{l:List Item}{i:Nat}{j:Item}(h:l[i]?=some j):Sy e oh l i=j.ρ e oh:=by simp only[Sy,h]
theorem acj{y oh:Nat->Bool}{ρ:Nat->Rec}{F0:FS}:∀(l:List Item)(m:Nat)(F u:FS),(∀j it,l[j]?=some it->ρ (m+j)=it.ρ y oh)->F=run ρ m (λ_=>true) F0->Bg y oh F l u->
  u=run ρ (m+l.length) (λ_=>true) F0/\∀j it,l[j]?=some it->fs it.s=run ρ (m+j) (λ_=>true) F0
 |[],m,F,u,_,x,h=>⟨by simp only[Bg] at h;rw[h,x];rfl,λj it e=>by simp at e⟩
 |it::l,m,F,u,D,x,h=>by
  simp only[Bg] at h;have h0:ρ m=it.ρ y oh:=D 0 it rfl;obtain⟨H,I⟩:=acj (ρ:=ρ) (F0:=F0) l (m+1) _ u (λj A e=>by
   have:=D (j+1) A (by simpa using e)
   rwa[show m+1+j=m+(j+1) by omega]) (by simp only[run,fM];rw[h0,x]) h.2;refine⟨by rw[H,fD,show m+1+l.length=m+(l.length+1) by omega],λj A e=>?_⟩;cases j with
  |zero=>
   simp only[tU,aQ] at e;subst e;rw[h.1,x];rfl
  |succ j=>
   rw[I j A (by simpa using e),show m+1+j=m+(j+1) by omega]
theorem acm{p q:Nat->Bool}{i:Nat}(e:∀k,p k=true->q k=true)(u:p i=false)(x:q i=true):∀{l:List Nat},i∈l->l.countP p<l.countP q
 |[],h=>by simp at h
 |a::l,h=>by
  have mono:l.countP p<=l.countP q:=List.countP_mono_left λk _=>e k
  by_cases y:a=i
  ·subst y;rw[aaE,aaE,u,x];simp only[iJ,iy,fM];omega
  ·have A:i∈l:=by rcases cO.1 h with rfl|h;exact absurd rfl y;exact h
   have D:=acm e u x A;rw[aaE,aaE]
   by_cases j:p a=true
   ·rw[j,e a j];simp only[fM];omega
   ·have:p a=false:=by simpa using j
    rw[this];simp only[iJ,iy];omega
section
variable{P:Program}{C:Cx}{E:Env}{nt:Nat}{o:Oper}{g:Gs}{a:Act}{w:World}
theorem aoe{S:TS}{I:Gs}{w':World}(h:Rel C E (cz C S o.dst (.dM [])) I w'):Rel C E (kq ⟨br o.dst,[]⟩ ⟨br o.dst,[]⟩ [] [] (ov o) S) I w':=by
 have D:=Lh ⟨br o.dst,[]⟩ ⟨br o.dst,[]⟩ [] [] (ov o) S;refine h.xK (λk=>?_) (λk=>?_)
 ·have this:(kq ⟨br o.dst,[]⟩ ⟨br o.dst,[]⟩ [] [] (ov o) S).slot k=if(eV k (br o.dst)&&dK S.t k)=true then(ov o).slot k else kl ⟨br o.dst,[]⟩ ⟨br o.dst,[]⟩ [] [] (S.slot k):=congrFun (congrArg Prod.fst D) k
  rw[this];clear this D;have u:=h.eK k;obtain⟨N,Q⟩:=Wd (C:=C) S o.dst (.dM [])
  by_cases A:o.dst=some k
  ·rw[Q k A] at u
   by_cases F:dK S.t k=true
   ·rw[aD F] at u;have H:eV k (br o.dst)=true:=kE.2 (by simp[A,br]);rw[H,F,pA,aD rfl];have e4:kA (eP (mw C o.dst)) (eP (mw C o.dst)) (.dM [])=.dM []:=LD (λZ e=>by cases e) λ_=>rfl;rw[e4] at u;have:(ov o).slot k=.dM []\/(ov o).slot k=.un:=by
     simp only[TS.slot,ov]
     rw[Dy .un (λ_=>TV.dM []),sM,AB]
     split
     ·exact .inl rfl
     ·exact .inr rfl
    rcases this with e|e<;>rw[e]
    ·exact u
    ·exact .un _ _
   ·have J:dK S.t k=false:=by simpa using F
    rw[J,akM,aE (by simp)];have:S.slot k=.un:=xf _ _ _ J;rw[this];simp only[kl,Sg];exact .un _ _
  ·rw[N k A] at u;have H:eV k (br o.dst)=false:=by
    cases R:eV k (br o.dst) with
    |false=>rfl
    |true=>
     have:=kE.1 R
     cases x:o.dst with
     |none=>rw[x] at this;simp[br] at this
     |some d=>rw[x] at this;simp[br] at this;exact absurd (by rw[x,this]) A
   rw[H,CO,aE (by simp)];have y:=u.kA (n5 ⟨br o.dst,[]⟩ ⟨br o.dst,[]⟩ []) (me ⟨br o.dst,[]⟩ ⟨br o.dst,[]⟩ [] []);rw[BB] at y;have M:∀v,eP (mw C o.dst) v=true->eP (kV ⟨br o.dst,[]⟩ ⟨br o.dst,[]⟩ []) v=true:=λv j=>by
    have one:∀q,mw C o.dst q=true->kV ⟨br o.dst,[]⟩ ⟨br o.dst,[]⟩ [] q=true:=λq U=>by
     obtain⟨d,x,Y⟩:=abG U
     have:q.iL ⟨br o.dst,[]⟩=true:=DW.2 (.inl ⟨d,Bd.1 Y,by simp[x,br]⟩)
     simp only[kV,rN,this,aF,akN]
    cases v<;>simp only[eP] at j⊢<;>first|exact one _ j|(cases j;done)
   have eq:kA (λv=>n5 ⟨br o.dst,[]⟩ ⟨br o.dst,[]⟩ [] v||eP (mw C o.dst) v) (λv=>me ⟨br o.dst,[]⟩ ⟨br o.dst,[]⟩ [] [] v||eP (mw C o.dst) v) (S.slot k)=kl ⟨br o.dst,[]⟩ ⟨br o.dst,[]⟩ [] [] (S.slot k):=by
    refine He (λv=>?_) (λv=>?_) _
    ·simp only[n5];cases j:eP (mw C o.dst) v with
     |false=>simp
     |true=>rw[M v j];rfl
    ·simp only[me];cases j:eP (mw C o.dst) v with
     |false=>simp
     |true=>rw[M v j];rfl
   rw[<-eq];exact y
 ·left
  have:=congrFun (congrArg Prod.snd D) k;simp only[fs,Rec.app,rG] at this;rw[this,aeN];simp only[eV,CO,iJ,iy]
theorem UU{S:TS}(h:Rel C E S g w)(l:cD nt g a){ops:Array Oper}(N:∀o∈ops.toList,qn P C nt o=true){j e:Nat}(A:qq ops.toList j=some e):
  (∀x,S.slot e=.b x->yielded ops a.tmps j=some x)/\(S.slot e=.dM []->yielded ops a.tmps j=none):=by
 rw[V7,ni] at A;have H:e<nt:=by
  cases F:ops[j]? with
  |none=>rw[F] at A;simp at A
  |some Q=>
   rw[F] at A
   simp only[sx] at A
   have:=(yH (N Q (by rw[<-ni] at F;exact dH F))).1
   rw[A] at this
   exact this
 have I:a.tmps[e]?=some (g.tm e):=by
  have J:=l.tm e H
  have M:e<a.tmps.size:=by rw[l.sz];exact H
  rw[jX M]
  rw[yw,jX M] at J
  simpa using J
 have y:=h.eK e;refine⟨λx hx=>?_,λhx=>?_⟩
 ·rw[hx] at y;have D:g.tm e=.bool x:=y.rF;simp[yielded,A,I,D]
 ·rw[hx] at y;have D:∃vs,g.tm e=.tuple vs:=by
   generalize g.tm e=u at y
   cases y with
   |dM _ _ vs _ _ _=>exact⟨vs,rfl⟩
  obtain⟨vs,D⟩:=D;simp[yielded,A,I,D]
theorem We{l:Array Bool}{i k:Nat}(hi:i<l.size):(l.setIfInBounds i true).getD k false=if k=i then true else l.getD k false:=by
 simp only[yw,Array.getElem?_setIfInBounds]
 by_cases e:i=k
 ·subst e;simp[hi]
 ·rw[aE e,aE (q7 e)]
open Classical in
theorem ap4(hC:eW P C)(hF:uj P C)(rX:nt<2047):LA P C nt:=by
 intro E R r ops s K g a w Q oF D h l hQ;obtain⟨Ci,ab,td,Yd,⟨se,ap,dv⟩,hI⟩:=aeO (ot:=dK s.t) (oh:=dK s.h) ops.toList [] s D rfl rfl;rw[iw] at td;obtain⟨dx,Zw⟩:=abH (ops:=ops.toList) ops.toList [] [] rfl rfl (λj p M=>by simp at M);generalize a8:dK s.t=ot at dv;generalize a9:dK s.h=oh at dv;have IJ:∀j u,Ci[j]?=some u->Sy ot oh Ci j=u.ρ ot oh:=λj u M=>ap3 M;generalize Sy ot oh Ci=ρ at IJ;obtain⟨xM,E0⟩:=acj (ρ:=ρ) (F0:=fs s) Ci 0 (fs s) (fs se) (λj u M=>by rw[iu];exact IJ j u M) rfl dv;rw[iu,ab] at xM;have hn:ops.toList.length=ops.size:=by simp
 rw[hn] at xM ab;have H:∀j,j<ops.size->∃o u p,ops[j]?=some o/\ops.toList[j]?=some o/\Ci[j]?=some u/\(rA ops.toList [])[j]?=some p/\ρ j=u.ρ ot oh/\wq C ops.toList o u/\Yb ops.toList j p:=λj M=>by
  have J:j<ops.toList.length:=by omega
  have F:j<Ci.length:=by omega
  have Z:j<(rA ops.toList []).length:=by omega
  have e1:=cT J
  have e2:=cT F
  have e3:=cT Z
  exact⟨_,_,_,by rw[<-ni];exact e1,e1,e2,e3,IJ j _ e2,hI j _ _ e1 e2,Zw j _ e3⟩
 have two:∀i j p x y oi oj,i<j->Ci[i]?=some x->Ci[j]?=some y->(rA ops.toList [])[j]?=some p->Nat.testBit p i=false->wq C ops.toList oi x->wq C ops.toList oj y->Comm (x.ρ ot oh) (y.ρ ot oh)/\yd (x.ρ ot oh) y.d.r (fs y.s)/\yd (y.ρ ot oh) x.d.r (fs x.s):=λi j p x y oi oj Nv hx hy hp Y bb be=>by
  rcases abJ td j p y.d hp (by simp[hy]) i x.d (by simp[hx]) (by simpa using Nv) with e|e
  ·rw[Y] at e;cases e
  ·exact pair bb be e
 have aM:∀(I:Nat)(listed:Array Bool)(S:TS)(g1:Gs)(a1:Act)(w1:World),listed.size=ops.size->LF ops.toList (λk=>listed.getD k false)->(List.range ops.size).countP (λk=>!listed.getD k false)<=I->
   Rel C E S g1 w1->cD nt g1 a1->jf nt g g1->fs S=run ρ ops.size (λk=>listed.getD k false) (fs s)->dK S.t=ot->dK S.h=oh->wpAny P .any ops Q I listed a1 w1:=by
  intro I
  induction I with
  |zero=>
   intro listed S g1 a1 w1 a0 aa qN hR hL TD NF ZU ZV
   have all:∀k,k<ops.size->listed.getD k false=true:=λk D=>by
    have:=List.countP_eq_zero.1 (Nat.le_zero.1 qN) k (CH.2 D)
    simpa using this
   refine⟨?_,?_⟩
   ·rw[List.eq_nil_iff_forall_not_mem];intro i hi;simp only[Region.ready,aaF,CH,bo,mL] at hi;have J:=all i hi.1;have F:=hi.2.1;rw[yw] at J F;rw[jX (by omega)] at J F;simp at J F;rw[J] at F;cases F
   ·have e:fs se=fs S:=by
      rw[xM,NF]
      exact AT λk D=>(all k D).symm
    exact hQ se g1 a1 w1 ap (hR.xK (λk=>by rw[show se.slot k=S.slot k from congrFun (congrArg Prod.fst e) k];exact hR.eK k) (λk=>.inl (congrFun (congrArg Prod.snd e) k))) hL TD
  |succ I ih=>
   intro listed S g1 a1 w1 a0 aa qN hR hL TD NF ZU ZV;refine⟨λhr=>?_,λi hi=>?_⟩
   ·have all:∀m k,k<m->k<ops.size->listed.getD k false=true:=by
      intro m
      induction m with
      |zero=>intro k D;omega
      |succ m a2=>
       intro k D ZW
       by_cases bg:k<m
       ·exact a2 k bg ZW
       ·have Ca:k=m:=by omega
        subst Ca;cases Y:listed.getD k false with
        |true=>rfl
        |false=>
         exfalso;obtain⟨o,u,p,ho,gJ,_⟩:=H k ZW;have:k∈Region.ready .any ops listed:=by
          simp only[Region.ready,aaF,CH,bo,mL]
          refine⟨ZW,?_,?_⟩
          ·rw[yw,jX (by omega)] at Y⊢;simpa using Y
          ·rw[ho];simp only[jA,akG];rw[<-Array.all_toList,jJ];intro e N;cases U:Region.binds .any e with
           |false=>rfl
           |true=>
            have:=OR Yd k o gJ e N U;rw[iu] at this;have:=a2 e.on this (by omega);simpa using this
         rw[hr] at this;simp at this
    have e:fs se=fs S:=by
     rw[xM,NF]
     exact AT λk D=>(all (k+1) k (by omega) D).symm
    exact hQ se g1 a1 w1 ap (hR.xK (λk=>by rw[show se.slot k=S.slot k from congrFun (congrArg Prod.fst e) k];exact hR.eK k) (λk=>.inl (congrFun (congrArg Prod.snd e) k))) hL TD
   ·simp only[Region.ready,aaF,CH,bo,mL] at hi;obtain⟨am,a3,Sz⟩:=hi;obtain⟨o,u,p,ho,gJ,hit,hp,a4,TE,bi⟩:=H i am;have mH:listed.getD i false=false:=by
     rw[yw,jX (by omega)] at a3⊢
     simpa using a3
    have Nl:∀e∈o.after.toList,Region.binds .any e=true->listed.getD e.on false=true:=λe N U=>by
     rw[ho] at Sz
     simp only[jA,akG] at Sz
     rw[<-Array.all_toList,jJ] at Sz
     have:=Sz e N
     rw[U] at this
     simpa using this
    have Nw:o∈ops.toList:=dH gJ;have cL:=oF o Nw
    let Qn:Nat->Bool:=λk=>decide (∀X,LF ops.toList X->(∀e∈o.after.toList,Region.binds .any e=true->X e.on=true)->X k=true)
    have NG:∀k,Qn k=true↔∀X,LF ops.toList X->(∀e∈o.after.toList,Region.binds .any e=true->X e.on=true)->X k=true:=λk=>by simp only[Qn,bH]
    have bk:∀k,Qn k=true->listed.getD k false=true:=λk D=>(NG k).1 D _ aa Nl;have bs:∀k,Qn k=true->k<i:=λk D=>by
     have:=(NG k).1 D (λk=>decide (k<i)) (λj oj M hX e N U=>by
      have J:=OR Yd j oj M e N U
      simp only[bH] at hX⊢
      omega) (λe N U=>by
      have J:=OR Yd i o gJ e N U
      simp only[bH]
      omega)
     simpa using this
    have a5:LF ops.toList Qn:=λj oj M hX e N U=>(NG _).2 λX TF ZX=>TF j oj M ((NG j).1 hX X TF ZX) e N U;have bt:∀k,Nat.testBit p k=true->Qn k=true:=λk D=>(NG k).2 λX TF ZX=>bi X TF (λo' eI=>by rw[gJ] at eI;cases eI;exact ZX) k D;have ad:∀k j,k<j->j<ops.size->Qn k=false->Qn j=true->Comm (ρ k) (ρ j):=λk j NB M D hq=>by
     obtain⟨ok,NH,pk,_,_,My,_,Mz,NI,_⟩:=H k (by omega)
     obtain⟨oj,bu,pj,_,b7,bv,bF,bK,bL,bM⟩:=H j M
     rw[Mz,bK]
     refine(two k j pj NH bu ok oj NB My bv bF ?_ NI bL).1
     cases Y:Nat.testBit pj k with
     |false=>rfl
     |true=>
      have:=bM Qn a5 (λo' eI e N U=>a5 j o' eI hq e N U) k Y
      rw[this] at D;cases D
    have lo:∀k,k<i->Qn k=false->yd (ρ k) u.d.r (fs u.s):=λk IK D=>by
     obtain⟨ok,NH,pk,_,_,My,_,Mz,NI,_⟩:=H k (by omega)
     rw[Mz]
     refine(two k i p NH u ok o IK My hit hp ?_ NI TE).2.1
     cases Y:Nat.testBit p k with
     |false=>rfl
     |true=>have:=bt k Y;rw[this] at D;cases D
    have a6:∀k,i<k->k<ops.size->listed.getD k false=true->Comm (ρ i) (ρ k)/\yd (ρ k) u.d.r (fs u.s):=λk bP D NJ=>by
     obtain⟨ok,NH,pk,_,b8,My,wj,Mz,NI,bT⟩:=H k D
     rw[Mz,a4]
     have:=two i k pk u NH o ok bP hit My wj (by
      cases Y:Nat.testBit pk i with
      |false=>rfl
      |true=>
       have:=bT _ aa (λo' eI e N U=>aa k o' eI NJ e N U) i Y
       rw[this] at mH;cases mH) TE NI
     exact⟨this.1,this.2.2⟩
    have bY:fs u.s=run ρ i (λ_=>true) (fs s):=by have:=E0 i u hit;rwa[iu] at this
    have b0:tK u.d.r (run ρ i Qn (fs s)) (fs u.s):=by
     refine(adx (A:=λ_=>true) (λ_ _=>rfl) λk D _ hq=>⟨lo k D hq,λj J F Z=>ad k j J (by omega) hq Z⟩).1 ?_
     rw[<-bY]
     exact⟨λ_ _=>rfl,λ_ _=>rfl⟩
    have b4:tK u.d.r (run ρ ops.size Qn (fs s)) (fs u.s):=by
     rw[Wc (m:=i) (by omega) λk J F=>by
      cases Y:Qn k with
      |false=>rfl
      |true=>have:=bs k Y;omega]
     exact b0
    have b5:tK u.d.r (fs S) (fs u.s):=by
     rw[NF]
     refine(adx bk λk D NJ hq=>⟨?_,λj J F Z=>ad k j J F hq Z⟩).2 b4
     by_cases IK:k<i
     ·exact lo k IK hq
     ·have:k≠i:=λe=>by subst e;rw[mH] at NJ;cases NJ
      exact(a6 k (by omega) D NJ).2
    have YW:tK (jR C ops.toList u.s o) (fs S) (fs u.s):=by rw[<-TE.r];exact b5
    have next:∀g' a' w',Rel C E (kq u.d.w u.d.f u.d.n u.d.p u.out S) g' w'->cD nt g' a'->jf nt g1 g'->wpAny P .any ops Q I (listed.setIfInBounds i true) a' w':=λg' a' w' J F Z=>by
     have Tx:(λk=>(listed.setIfInBounds i true).getD k false)=BT (λk=>listed.getD k false) i:=by
      funext k
      rw[We (by omega)]
      rfl
     refine ih _ _ g' a' w' (by simpa using a0) ?_ ?_ J F (TD.trans Z) ?_ (by rw[afO,ZU]) (by rw[afP,ZV])
     ·rw[Tx];intro j oj M hX e N U;simp only[BT] at hX⊢
      by_cases TG:j=i
      ·rw[TG,gJ] at M;cases M;split
       ·rfl
       ·exact Nl e N U
      ·rw[aE TG] at hX;split
       ·rfl
       ·exact aa j oj M hX e N U
     ·refine Nat.le_of_lt_succ (Uq (acm (i:=i) (q:=λk=>!listed.getD k false) (λk D=>?_) ?_ ?_ (CH.2 am)) qN)
      ·rw[We (by omega)] at D
       by_cases IK:k=i
       ·rw[aD IK] at D;simp at D
       ·rw[aE IK] at D;exact D
      ·rw[We (by omega)];simp
      ·simp[mH]
     ·rw[Lh,ZU,ZV,NF,Tx];rw[<-WV mH am λj J F Z=>(a6 j J F Z).1,a4];rfl
    unfold wpOp;rcases TE.how with⟨zW,s',eB,wc,Mk⟩|⟨⟨j,wv,gd,hg,fU,ln,ao⟩,wc,Mk⟩
    ·have hw:Region.wanted o (yielded ops a1.tmps)=true:=by
       cases hg:o.guard with
       |none=>simp[Region.wanted,hg]
       |some jw=>
        obtain⟨j,wv⟩:=jw
        obtain⟨gd,fU,ln,ao⟩:=zW j wv hg
        have:=(UU hR hL oF fU).1 wv (by rw[show S.slot gd=u.s.slot gd from YW.sl gd ln];exact ao)
        simp only[Region.wanted,hg,this]
        cases wv<;>rfl
     simp only[ho,hw,fM];refine .inl (ap2 hC hF rX hR hL cL YW eB _ Q λa' w'⟨g',J,F,Z⟩=>next g' a' w' ?_ F Z);rw[wc,Mk];exact J
    ·have a7:S.slot gd=u.s.slot gd:=YW.sl gd ln;have hw:Region.wanted o (yielded ops a1.tmps)=false:=by
      rcases ao with⟨x,hx,bS⟩|hx
      ·have:=(UU hR hL oF fU).1 x (by rw[a7,hx]);simp only[Region.wanted,hg,this];cases wv<;>cases x<;>first|rfl|exact absurd rfl bS
      ·have:=(UU hR hL oF fU).2 (by rw[a7,hx]);simp[Region.wanted,hg,this]
     simp only[ho,hw,iJ,iy];have hd:=(yH cL).1;obtain⟨g',F⟩:=aeG (o:=o) (nb:=λ_=>False) hR hL hd;refine next g' _ _ ?_ F.Iy (F.X9 hd λk Y=>Y.elim)
     rw[wc,Mk];exact aoe F.rel
 refine aM ops.size (Array.replicate ops.size false) s g a w (by simp) (λj oj _ hX=>?_) ?_ h l jf.refl ?_ a8 a9
 ·exfalso;simp only[yw,aaB] at hX;split at hX<;>simp at hX
 ·exact Fh List.countP_le_length (by simp)
 ·rw[Wc (m:=0) (CF _) λk _ _=>?_]
  ·rfl
  ·simp only[yw,aaB];split<;>rfl
end
end
end Go.Sd
namespace Go.Ev
open Go
def rz(_:Nat)(x:Int):Option aj:=if-9223372036854775808<=x/\x<=9223372036854775807 then some (Lib.itoa x) else none
def LG(_:Nat)(s:aj):Option (Int×Bool):=if s.length<=281474976710656 then some (match Lib.atoiAll s with|.ok v=>(v,false)|.range=>(Lib.atoiSat s,true)|_=>(0,true)) else none
def Eh(_:Nat)(s a:aj):Option (aj×aj×Bool):=if s.length<4294967281 then some (Lib.cut s a) else none
def UW(_:Nat)(s p:aj):Option Bool:=some (Lib.hasPrefix s p)
def ud(_:Nat)(s a:aj):Option (List aj):=if s.length<4294967281/\1<=a.length then some (Lib.split s a) else none
def HN(_:Nat)(e:List aj)(a:aj):Option aj:=if e.length<=140737488355328/\(Lib.join e a).length<=140737488355328 then some (Lib.join e a) else none
def A7(_:Nat)(s:aj)(c:Int):Option aj:=if 0<=c/\c<=9223372036854775807/\s.length*c<=140737488355328 then some (Lib.repeatL s c.toNat) else none
def hexDs:Nat->Nat->aj
 |0,_=>[]
 |k+1,x=>if x<16 then[([48,49,50,51,52,53,54,55,56,57,97,98,99,100,101,102]:aj).getD x 0] else hexDs k (x/16)++[([48,49,50,51,52,53,54,55,56,57,97,98,99,100,101,102]:aj).getD (x % 16) 0]
def C4(_:Nat)(x base:Int):Option aj:=if base=16/\0<=x/\x<18446744073709551616 then some (hexDs 16 x.toNat) else none
def Hg(_:Nat)(a:List bc)(i:Int)(vs:List bc):Option (List bc):=if 0<=i/\i<=a.length/\vs.length=1/\a.length<4294967296 then some (a.take i.toNat++vs++a.drop i.toNat) else none
def DJ(_:Nat)(a:List bc)(i j:Int):Option (List bc):=if 0<=i/\j=i+1/\j<=a.length/\a.length<4294967296 then some (a.take i.toNat++a.drop j.toNat) else none
def KR(_:Nat)(a:List Int):Option (List Int):=if a.length<4294967296 then some a else none
def KS(_:Nat)(a:List bc):Option (List bc):=if a.length<4294967296 then some a else none
def Wf(_:Nat)(a:List dt):Option (List dt):=if a.length<4294967296 then some a else none
def Wg(_:Nat)(a:List aY):Option (List aY):=if a.length<4294967296 then some a else none
def KT(_:Nat)(b s:aj):Option (Int×Bool×aj):=if 1<=s.length/\b.length+s.length<=140737488355328 then some ((s.length:Int),false,b++s) else none
def Ye:aj:=List.replicate 140737488355329 0
theorem amS:Ye.length=140737488355329:=akz
def PJ(_:Nat)(b:aj):Option (aj×aj):=if 1<=b.length/\b.length<=140737488355328 then some (b,Ye) else none
end Go.Ev
namespace Go.Sd
open Go Go.RowKit
open Go.Ev hiding World Event Rd
open Go.Proofs
section
structure rQ (R:Type) where
 si:Live
 so:Live
 L:Nat->si.V->(so.V->Option R)->Option R
def Bl{R:Type}(n:Nat):List (Nat×rQ R)->Nat->Option (Zi R)|[],_=>none|(i,s)::l,id=>bif Nat.beq i id then some ⟨s.si,s.so,s.L n⟩ else Bl n l id
structure Fz where
 fz:List Nat:=[]
 fzc:List (Nat×Nat):=[]
 fzs:Bool:=true
 B0:Bool:=false
 al:List Nat:=[]
 vs:List Nat:=[]
 pre:Nat->List Pl:=λ_=>[]
def ye(W:World)(i:Nat):Option Obj:=bif Nat.blt i 10 then W.heap[i]? else none
def yf(W:World)(q:Fz)(a:List (Nat×Nat×fR)):Cx:=⟨Mi,vO,λp=>match p with|.slot k=>q.fz.contains k|.cell k c=>q.fzc.contains (k,c)|.sub _ _ _ _=>q.fzs,q.B0,λk=>eV k q.al,λk=>eV k q.vs,q.pre,LQ a,ye W⟩
def E1(W:World)(q:Fz)(a:List (Nat×Nat×fR))(n:Nat)(e:Nat)(j:List ResultVar)(c:fR)(g0:kt c.rs×pV c.ps->c.X)(u:List (Nat×rQ c.X)):Ctx c.X:=⟨yf W q a,Bl n u,Xs Mi e j c.ps c.rs g0⟩
abbrev mg(W:World)(f:Nat)(c:fR):Prop:=Enters Tryz.prog f/\Ly Tryz.prog vO (ye W) f c
def dB(W:World):List (Nat×Nat×fR)->Prop|[]=>True|e::l=>mg W e.1 e.2.2/\dB W l
theorem XD{W:World}{C:Cx}(e:C.gl=vO)(j:C.gb=ye W):∀{l:List (Nat×Nat×fR)},dB W l->∀g h c,LQ l g h=some c->Enters Tryz.prog g/\Ly Tryz.prog C.gl C.gb g c
 |[],_,g,h,c,a=>by simp[LQ] at a
 |(x,y,E)::l,u,g,h,c,a=>by
  have A:∀b:Bool,(bif (bif Nat.beq x g then b else false) then some E else LQ l g h)=some c->Enters Tryz.prog g/\Ly Tryz.prog C.gl C.gb g c:=λb a=>by
   cases D:Nat.beq x g with
   |false=>rw[D] at a;exact XD e j u.2 g h c a
   |true=>
    rw[D] at a
    cases b with
    |false=>exact XD e j u.2 g h c a
    |true=>
     have:=gr D
     subst this
     have:=gB (show some E=some c from a)
     subst this
     rw[e,j]
     exact u.1
  exact A _ a
section
variable{R:Type}
def MA(D:Ctx R)(code:Code):List (Nat×rQ R)->Prop|[]=>True|e::l=>((∀v k,e.2.L 0 v k=none)/\∀m v k,e.2.L (m+1) v k=LB D e.1 (Lo e.1 code) e.2.si e.2.so (e.2.L m) v k)/\MA D code l
theorem adA{D:Ctx R}{code:Code}{n id:Nat}{s:Zi R}:∀{l:List (Nat×rQ R)},MA D code l->Bl n l id=some s->∃q:rQ R,s=⟨q.si,q.so,q.L n⟩/\(∀v k,q.L 0 v k=none)/\∀m v k,q.L (m+1) v k=LB D id (Lo id code) q.si q.so (q.L m) v k
 |[],_,h=>by simp[Bl] at h
 |(i,q)::l,e,h=>by
  simp only[Bl] at h;cases a:Nat.beq i id with
  |false=>rw[a] at h;exact adA e.2 h
  |true=>
   rw[a] at h;have:=gr a;subst this;cases h;exact⟨q,rfl,e.1⟩
theorem abg{n id:Nat}:∀{l:List (Nat×rQ R)},eV id (l.map (·.1))=true->∃s,Bl n l id=some s
 |[],h=>by simp[eV] at h
 |(i,q)::l,h=>by
  simp only[Bl];cases a:Nat.beq i id with
  |true=>exact⟨_,rfl⟩
  |false=>
   simp only[aH];refine abg ?_;have:=kE.1 h;simp only[mM,cO] at this;rcases this with e|e
   ·subst e;simp at a
   ·exact kE.2 e
def LH:List Nat->Bool|[]=>true|x::l=>!eV x l&&LH l
theorem abh{id:Nat}{c:Code}:∀{l:List (Nat×Code)},LH (l.map (·.1))=true->(id,c)∈l->QL id l=c
 |[],_,h=>by simp at h
 |(i,u)::l,a,h=>by
  simp only[mM,LH,bo,mL] at a;simp only[QL];rcases cO.1 h with e|h
  ·cases e;simp
  ·cases j:Nat.beq i id with
   |true=>
    have:=gr j;subst this;have:=kE.2 (gQ.2 ⟨_,h,rfl⟩:i∈l.map (·.1));rw[this] at a;simp at a
   |false=>exact abh a.2 h
theorem yN{P:Program}{D:Ctx R}{J n:Nat}(u:P.follows .mixedOrders=true)(hC:eW P D.c)(y:uj P D.c)(A:LA P D.c J){I:Code}{M:List (Nat×rQ R)}(C:D.loops=Bl n M)(E:MA D I M)(F:LH ((nj I).map (·.1))=true)(H:((nj I).all λp=>eV p.1 (M.map (·.1))&&mS P D.c J p.2)=true):
  ∀(c:Code),(∀p∈nj c,p∈nj I)->xe P D J c
 |.seq a b,h=>⟨yN u hC y A C E F H a λp j=>h p (by simp[nj,j]),yN u hC y A C E F H b λp j=>h p (by simp[nj,j])⟩
 |.cond x a b,h=>⟨yN u hC y A C E F H a λp j=>h p (by simp[nj,j]),yN u hC y A C E F H b λp j=>h p (by simp[nj,j])⟩
 |.block id (.loop c),h=>by
  have j:=h (id,c) (by simp[nj]);have N:=jJ.1 H _ j;simp only[bo] at N;obtain⟨s,Q⟩:=abg (R:=R) (n:=n) N.1;obtain⟨q,rfl,h0,S⟩:=adA E Q;have e:Lo id I=c:=abh F j;rw[e] at S;exact apQ u hC y A (by rw[C];exact Q) h0 S N.2 (yN u hC y A C E F H c λp j=>h p (by simp[nj,j]))
 |.block id .skip,h=>trivial
 |.block id (.region _ _ _),h=>trivial
 |.block id (.seq a b),h=>yN u hC y A C E F H (.seq a b) h
 |.block id (.cond x a b),h=>yN u hC y A C E F H (.cond x a b) h
 |.block id (.block i b),h=>yN u hC y A C E F H (.block i b) h
 |.block id (.rangeFunc _ _ _ _),h=>trivial
 |.block id (.exit _),h=>trivial
 |.block id (.scope _),h=>trivial
 |.block id (.label _),h=>trivial
 |.block id (.goto _),h=>trivial
 |.block id .ret,h=>trivial
 |.block id (.refuse _),h=>trivial
 |.skip,h=>trivial
 |.region _ _ _,h=>trivial
 |.loop _,h=>trivial
 |.rangeFunc _ _ _ _,h=>trivial
 |.exit _,h=>trivial
 |.scope _,h=>trivial
 |.label _,h=>trivial
 |.goto _,h=>trivial
 |.ret,h=>trivial
 |.refuse _,h=>trivial
end
theorem cx0:(Mi.all λp=>jr Tryz.prog ⟨Mi,λ_=>.un,λ_=>true,true,λ_=>true,λ_=>true,λ_=>[],λ_ _=>none,λ_=>none⟩ p.1 p.2)=true:=by kernel_rfl
theorem acn{Q:TV->Prop}(h0:∀(l:List Int),Q (.iv (.int .u32) l))(a:Q .un)(i:Nat):Q (vO i):=by
 unfold vO;cases Nat.beq i 0<;>cases Nat.beq i 2<;>first|exact h0 _|exact a
theorem als(P:Program){C j:Cx}(h:C.ty=j.ty)(n:Nat)(ti:TI):jr P C n ti=jr P j n ti:=by
 obtain⟨ty,a,b,c,d,e,f,g,gb⟩:=C;obtain⟨u,y,A,D,E,F,H,I,x⟩:=j;simp only at h;subst h;rfl
theorem as4(W:World)(q:Fz)(a:List (Nat×Nat×fR)):eW Tryz.prog (yf W q a):=⟨λn=>asC (C:=yf W q a) (by
 have e:(λp:Nat×TI=>jr Tryz.prog (yf W q a) p.1 p.2)=λp=>jr Tryz.prog ⟨Mi,λ_=>.un,λ_=>true,true,λ_=>true,λ_=>true,λ_=>[],λ_ _=>none,λ_=>none⟩ p.1 p.2:=funext λp=>als _ rfl _ _
 rw[e]
 exact cx0) n,λi=>acn (Q:=λv=>fJ v=true) (λ_=>rfl) rfl i⟩
theorem arp(i:Nat):(∀p,¬ MV p (vO i))/\∀k,¬ MB k (vO i):=acn (Q:=λv=>(∀p,¬ MV p v)/\∀k,¬ MB k v) (λ_=>⟨λ_ h=>(by cases h),λ_ h=>by cases h⟩) ⟨λ_ h=>(by cases h),λ_ h=>by cases h⟩ i
noncomputable def SA(W:World)(fn:Func)(a:Nat)(q:Fz)(e:List (Nat×Nat×fR))(c:fR)(j:List Nat):Bool:=
 fn.body.isSome&&(Nat.beq fn.ntmps a&&Nat.blt a 2047&&!(fn.name== "runtime.NumGoroutine")&&mS Tryz.prog (yf W q e) a (fn.body.getD .skip)&&vr (yf W q e) a 0 c.ps&&Nat.ble c.ps.length a&&fn.results.toList.all (Ij a)&&LH ((nj (fn.body.getD .skip)).map (·.1))&&(nj (fn.body.getD .skip)).all λp=>eV p.1 j&&mS Tryz.prog (yf W q e) a p.2)
theorem ap5(W:World)(f:Nat)(fn:Func)(nt:Nat)(c:fR)(n:Nat)(q:Fz)(j:List (Nat×Nat×fR))(g0:kt c.rs×pV c.ps->c.X)(u:List (Nat×rQ c.X))(A:List Nat)(F:u.map (·.1)=A)(Q:∀y,c.back (g0 y)=y)
  (S:Tryz.prog.funcs[f]?=some fn)(U:dB W j)(Y:MA (E1 W q j n nt fn.results.toList c g0 u) (fn.body.getD .skip) u)
  (D:SA W fn nt q j c A=true)(H:∀a,M2 (E1 W q j n nt fn.results.toList c g0 u) nt (fn.body.getD .skip) c.ps a=c.f a):mg W f c:=by
 subst F;simp only[SA,bo] at D;obtain⟨E,⟨⟨⟨⟨⟨⟨⟨I,Z⟩,M⟩,h4⟩,h5⟩,h6⟩,h7⟩,h8⟩,h9⟩:=D;have I:=gr I;have E:fn.body=some (fn.body.getD .skip):=by
  cases dS:fn.body with
  |none=>rw[dS] at E;simp at E
  |some x=>rfl
 have N:Tryz.prog.follows .mixedOrders=true:=rfl;have hC:eW Tryz.prog (yf W q j):=as4 W q j;have J:uj Tryz.prog (yf W q j):=⟨λg h c D=>XD (C:=yf W q j) rfl rfl U g h c D⟩;have P:=ap4 hC J (nt:=nt) (by simpa[wO] using Z);exact asX N S E I (λe=>by rw[e] at M;simp at M) (E1 W q j n nt fn.results.toList c g0 u) hC J P arp rfl Q h4 (yN N hC J P rfl Y h8 h9 _ λ_ h=>h) h5 (akC h6) (λv hv=>jJ.1 h7 v hv) (λa y h=>by rw[H];exact h)
theorem ap6(W:World)(f:Nat)(fn:Func)(c:fR)(C:Tryz.prog.funcs[f]?=some fn)(j:(fn.body.isSome&&!(fn.name== "runtime.NumGoroutine"))=true)(h:∀a,c.f a=none):mg W f c:=by
 simp only[bo] at j;refine⟨⟨fn,C,λe=>?_,?_⟩,λγ w u D x y _ _ _ A=>by rw[h] at A;cases A⟩
 ·rw[e] at j;simp at j
 ·cases E:fn.body with
  |none=>rw[E] at j;simp at j
  |some x=>rfl
end
end Go.Sd
