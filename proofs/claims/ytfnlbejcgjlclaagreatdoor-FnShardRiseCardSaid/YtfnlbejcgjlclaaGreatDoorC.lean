/- The evaluator is sound, third part: calls, draws, loops, functions. No conditions. -/
import Derived.Orders
import Derived.Lib.ItoaNum
import Derived.Lib.AtoiAll
import Derived.Lib.IndexMore
import Derived.Lib.Strings
import Derived.Lib.Split
import Derived.Lib.Join
import Derived.Lib.Repeat
import Derived.Test.YtfnlbejcgjlclaaGreatDoorProg
import Derived.Test.YtfnlbejcgjlclaaGreatDoorB
import Derived.Test.YtfnlbejcgjlclaaGreatDoorA
set_option linter.all false
namespace Go.Sd
open Go Go.RowKit
open Go.Ev hiding World Event Rd
section
def dQ(a:Nat->G)(w:World):Rc:=⟨w,a,λ_=>0,λ_=>none⟩
abbrev nX(b:Nat):Value:=.pointer (some ⟨b,0,none⟩)
def qS(c:Rc)(i:Nat)(e:Value):(p:dL)->p.T->Value->Prop|.val q,x,v=>Rd c (some (.cC i,[])) (q.enc x) v|.pb t m _,x,v=>∃b,v=nX b/\ta c (.cC i) b (je m (enc false t x))|.pr t,x,v=>Rd c (some (.cC i,[])) (.own true t x.1) e/\∃b o a j,e=.slice (some ⟨b,o,none⟩) a j/\0<=x.2/\x.2<(a:Int)/\v=.pointer (some ⟨b,o+x.2.toNat*cG t,none⟩)|.mu t,x,v=>Rd c (some (.cC i,[])) (.own true t x) e/\v=e|.rp t,x,v=>Rd c none (.ip (enc false t x) 0) v|.bd,x,v=>∃b,v=nX b/\wV c (.cC i) b x|.fn g u,x,v=>Rd c none (.fn g (j5 u x)) v
def Gz(c:Rc)(i:Nat)(a:Value):(p:dL)->p.O->Value->Prop|.pb t _ e,o,v=>∃b,v=nX b/\ta c (.cC i) b (je e (enc false t o))|.pr t,o,_=>Rd c (some (.cC i,[])) (.own true t o) a|.mu t,o,_=>Rd c (some (.cC i,[])) (.own true t o) a|.bd,o,v=>∃b,v=nX b/\wV c (.cC i) b o|.val _,_,_=>True|.rp _,_,_=>True|.fn _ _,_,_=>True
def qd(c:Rc)(a:Nat->Value):Nat->(e:List dL)->og e->List Value->Prop|_,[],_,j=>j=[]|_,_::_,_,[]=>False|i,p::e,x,v::j=>qS c i (a i) p x.1 v/\qd c a (i+1) e x.2 j
def zv(c:Rc)(a:Nat->Value):Nat->(e:List dL)->nE e->List Value->Prop|_,[],_,_=>True|_,_::_,_,[]=>False|i,p::e,x,v::j=>Gz c i (a i) p x.1 v/\zv c a (i+1) e x.2 j
def qT(c:Rc)(n:Nat)(rs:List fh)(x:jQ rs)(v:Value):Prop:=
 match rs,x with
 |[.nb t m],x=>∃b,v=nX b/\ta c (.cC n) b (je m (enc false t x.1))
 |rs,x=>Rd c (some (.cC n,[])) (pack (gn rs x)) v
def zw(e:Nat->TV)(j:Nat->Option Obj)(a:Nat->G)(w:World):Prop:=(∀i,Rd (dQ a w) none (e i) (.pointer (some ⟨i,0,none⟩)))/\∀i o,j i=some o->a i=.im/\w.heap[i]?=some o
def FI(P:Program)(F:Nat->TV)(H:Nat->Option Obj)(f:Nat)(c:gq):Prop:=∀(A:Nat->G)(w:World)(a:List Value)(u:Nat->Value)(x:og c.ps)(y:c.X),(∀b,w.heap.size<=b->A b=.fr)->zw F H A w->qd (dQ A w) u 0 c.ps x a->c.f x=some y->Calls P f a.toArray w (λe D=>∃v j,e=.returned v/\dA (λq _=>∃n,q=.cC n) A w j D/\qT (dQ j D) c.ps.length c.rs (c.back y).1 v/\zv (dQ j D) u 0 c.ps (c.back y).2 a)
def Enters(P:Program)(f:Nat):Prop:=∃a,P.funcs[f]?=some a/\a.name≠ "runtime.NumGoroutine" /\a.body.isNone=false
theorem aax{P:Program}{f:Nat}(h:Enters P f)(args:Array Value)(w:World):(callFunc f args).run P w=.ok (.enter f args) w:=by
 obtain⟨e,j,u,x⟩:=h;have a:e.body≠none:=by cases y:e.body<;>simp_all
 simp[callFunc,go_sem,j,u,a]
structure qG(P:Program)(C:Cx):Prop where
 ok:∀g h c,C.fn g h=some c->Enters P g/\FI P C.gl C.gb g c
def Lh:TV->Bool|.ptr _ _|.pe _ _|.ip _ _|.fn _ _|.vec _ _|.er _|.lA|.np|.iv _ _=>true|_=>false
structure qH(c:Rc)(i:Nat)(tv:TV)(v:Value):Prop where
 cells:∃xs:List Value,xs.length=(cellsOf tv).length/\(∀(j:Nat)kx v',(cellsOf tv)[j]?=some kx->xs[j]?=some v'->qk c (.cC i,[(0,0+j)]) kx v')/\
  ((∃cs,tv=.agg cs/\v=.agg xs.toArray/\(∀u∈cs,kg u=true)/\∀u∈xs,u.oneCell'=true)\/((∀cs,tv≠.agg cs)/\xs=[v]))
 pt:Lh tv=true->Rd c none tv v
 ep:∀p t r j,tv=.ep p t r j->∃b o len cap,c.va p=some (.slice (some ⟨b,o,none⟩) len cap)/\0<=r/\r<(len:Int)/\v=.pointer (some ⟨b,o+r.toNat*cG t+j,none⟩)
theorem SU{c:Rc}{i:Nat}{a:TV}{v:Value}(h:Rd c (some (.cC i,[])) a v)(A:(∃e,a=.agg e)\/(∃e,a=.eY e)\/gf a=true):qH c i a v where
 cells:=QG h A
 pt hp:=by
  have:gf a=true:=by cases a<;>simp_all [Lh,gf]
  exact h.anyM this none
 ep p t r j he:=by
  subst he;cases h with
  |ep _ _ _ _ _ b o u x D y F H=>exact⟨b,o,u,x,y,F,H,rfl⟩
def jo(a:Nat->G):Nat->G:=λb=>match a b with|.at _ _=>.im|x=>x
theorem BG{a:Nat->G}{b:Nat}(h:a b=.im):jo a b=.im:=by simp only[jo,h]
theorem EO{a:Nat->G}{b:Nat}{q:Rt}{p:dh}(h:a b=.at q p):jo a b=.im:=by simp only[jo,h]
theorem SV{a:Nat->G}{b:Nat}(h:a b=.fr):jo a b=.fr:=by simp only[jo,h]
theorem SW{a:Nat->G}{b:Nat}{q:Rt}{p:dh}:jo a b≠.at q p:=by
 cases h:a b<;>simp[jo,h]
section
variable{C:Cx}{E:Env}{s:TS}{g:Gs}{w:World}{R:Type}{r:R}
theorem Rd.qN{m:Option Gp}{a:TV}{v:Value}(h:Rd (g.rc C w) m a v)(j:dC a=true):Rd (dQ (jo g.γ) w) none (jZ a) v:=h.jR j (λb e=>⟨BG e,rfl⟩) (λq p _ b u e=>⟨EO e,rfl⟩)
theorem abO(h:Rel C E s g w){S:TV}{v:Value}{G0:Gp}(u:qk (g.rc C w) G0 S v){K:TV->Option R}(e:uN C s S K=some r):
  ∃y,K y=some r/\dC y=true/\Rd (dQ (jo g.γ) w) none y v:=by
 cases S with
 |vw p t=>
  simp only[uN] at e;obtain⟨x,U,e⟩:=oL e;have A:=u.vw p t rfl;rcases pN h A U with rfl|J
  ·simp at e
  ·cases x with
   |own d M j=>exact⟨_,e,rfl,J.qN rfl⟩
   |dT M j=>exact⟨_,e,rfl,J.qN rfl⟩
   |_=>simp at e
 |sl p t Y Z=>
  simp only[uN] at e;obtain⟨x,U,e⟩:=oL e;obtain⟨a,aa,ab,a',N,A,rfl,h1,h2,h3,h4,h5,h6⟩:=u.sl p t Y Z rfl;rcases pN h A U with rfl|J
  ·simp at e
  ·have P:∀(j:List (El t))(D:List (El t)),Rd (dQ (jo g.γ) w) none (.dT t j) (.slice a aa ab)->eR j Y Z=some D->Rd (dQ (jo g.γ) w) none (.dT t D) (.slice a' (Z.toNat-Y.toNat) N):=λj D hx Q=>by
     obtain⟨⟨_,_,ad⟩,rfl⟩:=sJ.1 Q
     exact hx.Fg h1 h2 ad h4 h5
   cases x with
   |own d M j=>
    obtain⟨ht,F⟩:=dM.1 e;clear e;have H:M=t:=by simpa using ht
    subst H;obtain⟨D,Q,I⟩:=eM.1 F;exact⟨_,I,rfl,P j D (J.qN rfl) Q⟩
   |dT M j=>
    obtain⟨ht,F⟩:=dM.1 e;clear e;have H:M=t:=by simpa using ht
    subst H;obtain⟨D,Q,I⟩:=eM.1 F;exact⟨_,I,rfl,P j D (J.qN rfl) Q⟩
   |_=>simp at e
 |own d t j=>exact⟨_,e,rfl,(u.pl rfl).qN rfl⟩
 |dT t j=>exact⟨_,e,rfl,(u.pl rfl).qN rfl⟩
 |fE t j=>exact⟨_,e,rfl,((u.pl rfl).qN rfl).yW⟩
 |b x=>exact⟨_,e,rfl,(u.pl rfl).qN rfl⟩
 |i k n=>exact⟨_,e,rfl,(u.pl rfl).qN rfl⟩
 |s x=>exact⟨_,e,rfl,(u.pl rfl).qN rfl⟩
 |nil=>exact⟨_,e,rfl,(u.pl rfl).qN rfl⟩
 |gQ=>exact⟨_,e,rfl,(u.pl rfl).qN rfl⟩
 |_=>simp[uN] at e
theorem SX(h:Rel C E s g w){i:Nat}:∀(A:List TV){F:List Value}{j0:Nat}{K:List TV->Option R},F.length=A.length->
  (∀(j:Nat)a v,A[j]?=some a->F[j]?=some v->qk (g.rc C w) (.cC i,[(0,j0+j)]) a v)->zb C s A K=some r->
  ∃e,K e=some r/\e.length=A.length/\(∀a∈e,dC a=true)/\∀(j:Nat)a v,e[j]?=some a->F[j]?=some v->Rd (dQ (jo g.γ) w) none a v
 |[],F,j0,K,J,M,y=>⟨[],y,rfl,by simp,by simp⟩
 |v::A,[],j0,K,J,M,y=>by simp at J
 |v::A,x::F,j0,K,J,M,y=>by
  simp only[zb] at y;obtain⟨N,y,P,Q⟩:=abO h (M 0 v x rfl rfl) y;obtain⟨e,y,S,U,Y⟩:=SX h A (j0:=j0+1) (by simpa using J) (λj a u H I=>by
   have:=M (j+1) a u (by simpa using H) (by simpa using I)
   rwa[show j0+1+j=j0+(j+1) by omega]) y;refine⟨N::e,y,by simp[S],λa D=>?_,λj a u H I=>?_⟩
  ·rcases eo.1 D with rfl|D
   ·exact P
   ·exact U a D
  ·cases j with
   |zero=>simp at H I;subst H;subst I;exact Q
   |succ j=>exact Y j a u (by simpa using H) (by simpa using I)
theorem N6{c:Rc}{i:Nat}{e:TV}{a:List TV}{v:Value}{D:List Value}{M:Nat->Option Gp}(y:a.length=(cellsOf e).length)(F:D.length=(cellsOf e).length)
  (Q:(∃x,e=.agg x/\v=.agg D.toArray/\(∀u∈x,kg u=true)/\∀u∈D,u.oneCell'=true)\/((∀x,e≠.agg x)/\D=[v]))
  (S:∀u∈a,dC u=true)(N:∀(j:Nat)u w,a[j]?=some u->D[j]?=some w->Rd c (M j) u w)(m:Option Gp)(U:(∃x,e=.agg x)->∀j,M j=kK m 0 j)(J:(∀x,e≠.agg x)->M 0=m):Rd c m (tr e a) v:=by
 rcases Q with⟨x,rfl,rfl,Z,Y⟩|⟨H,rfl⟩
 ·simp only[tr];refine .agg _ _ _ (λu A=>Br (S u A)) (by simp only[LM];rw[F,y]) (λj u w A I=>Y w (by rw[YF] at I;exact eT I)) (λj u w A I=>?_);rw[<-U ⟨x,rfl⟩ j];exact N j u w A (by rwa[YF] at I)
 ·have P:(cellsOf e).length=1:=by simpa using F.symm
  match a,y with
  |[u],_=>
   have A:=N 0 u v rfl rfl;rw[J H] at A;have:tr e [u]=u:=by cases e<;>first|rfl|exact absurd rfl (H _)
   rw[this];exact A
  |[],y=>rw[P] at y;simp at y
  |_::_::_,y=>rw[P] at y;simp at y
theorem ON{c c':Rc}(e:jS c c'){t:Ty}{a:List TV}{x:El t}{v:Value}(j:Ev.dec t a=some x)(h:Rd c none (.ip a 0) v):Rd c' none (.ip (enc false t x) 0) v:=by
 have u:qj [t] [.ip a 0]=some (x,()):=by simp only[qj,j];rfl
 obtain⟨_,_,y⟩:=No (c:=c) (c':=c') e (m:=none) (tm':=none) u;exact y 0 _ _ v rfl rfl h
theorem ae0(h:Rel C E s g w){k:Nat}{J:List TV}(F:s.box k=.cells J){t:Ty}{x:El t}(Q:Ev.dec t J=some x):Rd (dQ (jo g.γ) w) none (.ip (enc false t x) 0) (.pointer (some ⟨g.bx k,0,none⟩)):=by
 have u:=h.boxes k;rw[F] at u;obtain⟨H,e,fr,S,U,Y,h4,h5,Z⟩:=u;have M:w.heap[g.bx k]?=some (.cells H e fr):=S;have N:g.γ (g.bx k)=.at (.box k) []:=Y;have get:∀(i:Nat)tv,(enc false t x)[i]?=some tv->∃a v,J[i]?=some a/\Cd false a tv/\H[i]?=some v/\v.oneCell'=true/\Rd (g.rc C w) (some (.box k,[(0,i)])) a v:=λi tv y=>by
  obtain⟨a,D,j⟩:=HF Q y
  have I:=(eF.1 D).1
  have A:H[i]?=some (H[i]'(by omega)):=ju _
  obtain⟨k1,k2⟩:=Z i a _ D A
  exact⟨a,_,D,j,A,k1,k2⟩
 refine .ip _ _ _ _ _ (λi=>H[i]?.getD undef) (yB _ _ _) (EO N) (λi tv y=>?_) (λi tv y=>?_)
 ·obtain⟨a,v,D,j,A,k1,k2⟩:=get i tv y;rw[A];refine⟨?_,k1⟩;simp only[YG];show w.cell? ⟨g.bx k,0+i,none⟩=some v;have I:=(YH.1 A).1;simp only[World.cell?,M,ia];have:=U i I;simp[this,A]
 ·obtain⟨a,v,D,j,A,k1,k2⟩:=get i tv y;rw[A];have P:=fN y;have:=MK (c:=g.rc C w) (c':=dQ (jo g.γ) w) (q:=.box k) (p:=[(0,i)]) (q':=.cC 0) (p':=[]) (f:=.l) (λb F=>⟨BG F,rfl⟩) ⟨λb π _ hk=>hk.elim,λb π F _=>EO F,λ_ _ _=>rfl⟩ j (rE y) rfl (Nk j P) k2;have h9:vc .l tv=tv:=by cases tv<;>rfl
  rw[h9] at this;have D:gf tv=true:=by
   have:=rE y
   cases tv<;>simp_all [dC,gf,ik]
  exact this.anyM D none
theorem Ux(h:Rel C E s g w):∀(D:List Ty)(y:List TV)(e:List Value){K:qg D->Option R},e.length=y.length->(∀(j:Nat)A v,y[j]?=some A->e[j]?=some v->Rd (g.rc C w) none A v)->ks s D y K=some r->
  ∃x,K x=some r/\(j5 D x).length=e.length/\(∀A∈j5 D x,pq A=true)/\∀(j:Nat)A v,(j5 D x)[j]?=some A->e[j]?=some v->Rd (dQ (jo g.γ) w) none A v
 |[],[],e,K,I,_,a=>⟨(),by simpa[ks] using a,by simp[j5,I],by simp[j5],by simp[j5]⟩
 |[],_::_,_,K,_,_,a=>by simp[ks] at a
 |t::D,[],_,K,_,_,a=>by simp[ks] at a
 |t::D,v::y,[],K,I,_,a=>by simp at I
 |t::D,v::y,u::e,K,I,U,a=>by
  have Y:=U 0 v u rfl rfl;have N:∃H:El t,(ks s D y λZ=>K (H,Z))=some r/\Rd (dQ (jo g.γ) w) none (.ip (enc false t H) 0) u:=by
   cases v with
   |ip cs n=>
    cases n with
    |zero=>
     simp only[ks,one?] at a
     split at a
     ·rename_i H P;exact⟨H,a,ON (c:=g.rc C w) (c':=dQ (jo g.γ) w) (λb Q=>⟨BG Q,rfl⟩) P Y⟩
     ·simp at a
    |succ n=>simp[ks] at a
   |ptr k n=>
    cases n with
    |zero=>
     simp only[ks] at a;split at a
     ·rename_i cs Q;simp only[one?] at a;split at a
      ·rename_i H P;refine⟨H,a,?_⟩;cases Y;exact ae0 h Q P
      ·simp at a
     ·simp at a
    |succ n=>simp[ks] at a
   |_=>simp[ks] at a
  obtain⟨H,a,S⟩:=N;obtain⟨x2,a,h1,h2,h3⟩:=Ux h D y e (by simpa using I) (λj A v J M=>U (j+1) A v (by simpa using J) (by simpa using M)) a;refine⟨(H,x2),a,by simp[j5,h1],λA F=>?_,λj A v J M=>?_⟩
  ·simp only[j5,eo] at F;rcases F with rfl|F
   ·simp only[pq,jh];exact yB _ _ _
   ·exact h2 A F
  ·cases j with
   |zero=>simp[j5] at J M;subst J;subst M;exact S
   |succ j=>exact h3 j A v (by simpa[j5] using J) (by simpa using M)
theorem abP(h:Rel C E s g w){p:dL}(u:pT [p]=true){i:Nat}{e:TV}{v:Value}(N:qH (g.rc C w) i e v){K:p.T->(p.O->TS->TS)->TS->Option R}(a:arg C true p e s K=some r):
  ∃x H,K x H s=some r/\(∀o D,H o D=D)/\∀y,qS (dQ (jo g.γ) w) i y p x v:=by
 have A:∀{Kp:dh->Prop}{q:Rt}{P:dh}{q':Rt}{π':dh},Tn (dQ (jo g.γ) w) (dQ (jo g.γ) w) Kp q P q' π':=⟨λb P F=>absurd F SW,λb P F=>absurd F SW,λ_ _ _=>rfl⟩;have I:jS (dQ (jo g.γ) w) (dQ (jo g.γ) w):=λb F=>⟨F,rfl⟩;cases p with
 |val q=>
  have Q:q.mv=false:=by
   simp only[pT] at u
   cases hq:q.mv with
   |false=>rfl
   |true=>rw[hq] at u;simp at u
  have gen:(xc C true q.mv (cellsOf e) s λvs D=>match q.dec (tr e vs) with|some x=>K x (λ_ s=>s) D|none=>none)=some r->∃x H,K x H s=some r/\(∀o D,H o D=D)/\∀y,qS (dQ (jo g.γ) w) i y (.val q) x v:=λa=>by
   simp only[xc,Q,cN,cL] at a
   obtain⟨xs,J,S,U⟩:=N.cells
   obtain⟨Y,a,Z,h4,h5⟩:=SX h (i:=i) (cellsOf e) (j0:=0) J S a
   split at a
   ·rename_i x y;refine⟨x,_,a,λ_ _=>rfl,λ_=>?_⟩;have h6:Rd (dQ (jo g.γ) w) none (tr e Y) v:=N6 (i:=i) Z J U h4 h5 none (λ_ _=>rfl) (λ_=>rfl);exact rF I A y (h6.lift (some (.cC i,[])))
   ·simp at a
  cases e with
  |vec t xs=>
   simp only[arg] at a;split at a
   ·rename_i x y;refine⟨x,_,a,λ_ _=>rfl,λ_=>?_⟩;have h6:Rd (dQ (jo g.γ) w) (some (.cC i,[])) (.vec t xs) v:=by
     cases N.pt rfl with
     |vec _ _ _ aa=>exact .vec _ _ _ aa
    exact rF I A y h6
   ·simp at a
  |_=>exact gen a
 |rp t=>
  simp only[arg] at a;split at a
  ·simp only[one?] at a;split at a
   ·rename_i x y;exact⟨x,_,a,λ_ _=>rfl,λ_=>ON (c:=g.rc C w) (c':=dQ (jo g.γ) w) (λb F=>⟨BG F,rfl⟩) y (N.pt rfl)⟩
   ·simp at a
  ·simp at a
 |fn gg ts=>
  simp only[arg] at a;split at a
  ·rename_i g' ab;obtain⟨hg,ad⟩:=dM.1 a;clear a;have hg:=gw hg;subst hg;have h0:=N.pt rfl;cases h0 with
   |fn _ _ _ M hc hl hr=>
    obtain⟨x,a,h1,h2,Z⟩:=Ux h ts ab M.toList (by simpa using hl) (λj e v hj hv=>hr j e v hj (by simpa using hv)) ad;exact⟨x,_,a,λ_ _=>rfl,λ_=>.fn _ _ _ _ h2 (by simpa using h1.symm) (λj e v hj hv=>Z j e v hj (by simpa using hv))⟩
  ·simp at a
 |_=>simp[pT] at u
theorem RR(h:Rel C E s g w):∀(A:List dL)(F:List TV)(e:List Value)(i:Nat){K:og A->(nE A->TS->TS)->TS->Option R},pT A=true->e.length=F.length->(∀(j:Nat)J v,F[j]?=some J->e[j]?=some v->qH (g.rc C w) (i+j) J v)->args C true A F s K=some r->
  ∃x M,K x M s=some r/\(∀o N,M o N=N)/\∀D,qd (dQ (jo g.γ) w) D i A x e
 |[],[],e,i,K,_,H,_,y=>⟨(),_,y,λ_ _=>rfl,λ_=>by simpa[qd] using H⟩
 |[],_::_,_,_,K,_,_,_,y=>by simp[args] at y
 |_::_,[],_,_,K,_,_,_,y=>by simp[args] at y
 |p::A,v::F,[],i,K,_,H,_,y=>by simp at H
 |p::A,v::F,u::e,i,K,a,H,P,y=>by
  simp only[args] at y;cases I:Kx p v F with
  |true=>rw[I] at y;simp at y
  |false=>
   rw[I,cN] at y;have Q:pT [p]=true/\pT A=true:=by
    cases p with
    |val q=>
     simp only[pT] at a⊢
     cases S:q.mv with
     |true=>rw[S] at a;simp at a
     |false=>
      rw[S,cN] at a
      cases U:q.Ky with
      |true=>rw[U,cL] at a;exact⟨by simp,a⟩
      |false=>rw[U] at a;simp at a
    |rp t=>exact⟨rfl,a⟩
    |fn g ts=>exact⟨rfl,a⟩
    |_=>simp[pT] at a
   obtain⟨x,M,y,Y,Z⟩:=abP h Q.1 (P 0 v u rfl rfl) y;obtain⟨xs,aa,y,h4,h5⟩:=RR h A F e (i+1) Q.2 (by simpa using H) (λj J w hj hw=>by
    have:=P (j+1) J w (by simpa using hj) (by simpa using hw)
    rwa[show i+1+j=i+(j+1) by omega]) y;exact⟨(x,xs),_,y,λo N=>by rw[Y,h4],λD=>⟨Z (D i),h5 D⟩⟩
end
end
section
open Classical in
noncomputable def o8(γ:Nat->G)(i:Nat)(pre:dh)(K:dh->Prop):Nat->G:=λb=>
 match γ b with
 |.at q p=>if q=.cC i/\pre<+:p then(if K (p.drop pre.length) then .at (.cC i) (p.drop pre.length) else .im) else .at q p
 |x=>x
open Classical in
noncomputable def kH(γ:Nat->G)(q1:Rt)(q2:Rt)(K:dh->Prop):Nat->G:=λb=>
 match γ b with
 |.at q p=>if q=q1 then(if K p then .at q2 p else .im) else .at q p
 |x=>x
section
variable{γ:Nat->G}{i b:Nat}{pre π p:dh}{K:dh->Prop}{q q1 q2:Rt}
theorem N7(h:γ b=.im):o8 γ i pre K b=.im:=by simp only[o8,h]
theorem adF(h:γ b=.fr):o8 γ i pre K b=.fr:=by simp only[o8,h]
theorem Np(h:γ b=.at q p)(a:q≠.cC i):o8 γ i pre K b=.at q p:=by simp only[o8,h];rw[cK (λe=>a e.1)]
theorem aay(h:γ b=.at (.cC i) (pre++π))(a:K π):o8 γ i pre K b=.at (.cC i) π:=by
 simp only[o8,h];rw[cJ ⟨trivial,qZ _ _⟩,YI,cJ a]
theorem abQ(h:γ b=.at (.cC i) (pre++π))(a:¬ K π):o8 γ i pre K b=.im:=by
 simp only[o8,h];rw[cJ ⟨trivial,qZ _ _⟩,YI,cK a]
theorem Uy:FK (λq=>∃n,q=.cC n) γ (o8 γ i pre K) where
 im b h:=N7 h
 at' b q p h hz:=by
  by_cases a:q=.cC i
  ·subst a;obtain⟨⟨k,e⟩,_⟩:=hz ⟨i,rfl⟩;cases e
  ·exact Np h a
 fr b h:=adF h
theorem I5(h:γ b=.im):kH γ q1 q2 K b=.im:=by simp only[kH,h]
theorem SY(h:γ b=.fr):kH γ q1 q2 K b=.fr:=by simp only[kH,h]
theorem MN(h:γ b=.at q p)(a:q≠q1):kH γ q1 q2 K b=.at q p:=by simp only[kH,h];rw[cK a]
theorem Q8(h:γ b=.at q1 p)(a:K p):kH γ q1 q2 K b=.at q2 p:=by simp only[kH,h];rw[cJ trivial,cJ a]
theorem RS(h:γ b=.at q1 p)(a:¬ K p):kH γ q1 q2 K b=.im:=by simp only[kH,h];rw[cJ trivial,cK a]
theorem SZ{w:World}(a:∀b,w.heap.size<=b->γ b=.fr):dA (λq _=>q=q1) γ w (kH γ q1 q2 K) w:=⟨λb h=>⟨I5 h,rfl⟩,λb q p h hx=>⟨MN h hx,rfl⟩,λb _ h=>⟨SY h,rfl⟩,hY _,λb h=>SY (a b h),rfl,rfl,rfl⟩
end
structure jF(J:Nat->Prop)(γ γ':Nat->G):Prop where
 im:∀b,γ b=.im->γ' b=.im
 cC:∀b j π,¬ J j->γ b=.at (.cC j) π->γ' b=.at (.cC j) π
theorem jF.refl(J:Nat->Prop)(γ:Nat->G):jF J γ γ:=⟨λ_ h=>h,λ_ _ _ _ h=>h⟩
theorem jF.trans{J:Nat->Prop}{γ a Gg:Nat->G}(h:jF J γ a)(k:jF J a Gg):jF J γ Gg:=⟨λb e=>k.im b (h.im b e),λb j π u e=>k.cC b j π u (h.cC b j π u e)⟩
theorem jF.mono{J a:Nat->Prop}{γ γ':Nat->G}(h:jF J γ γ')(e:∀j,J j->a j):jF a γ γ':=⟨h.im,λb j π u x=>h.cC b j π (λy=>u (e j y)) x⟩
theorem jF.fk{Z:Rt->Prop}{γ γ':Nat->G}(h:FK Z γ γ')(J:Nat->Prop)(hz:∀j,Z (.cC j)->J j):jF J γ γ':=⟨h.im,λb j π a e=>h.at' b _ _ e (λu=>absurd (hz j u) a)⟩
section
variable{C:Cx}{E:Env}{s:TS}{g:Gs}{w w':World}{R:Type}{r:R}
theorem Rd.stay{c a:Rc}{m:Option Gp}{tv:TV}{v:Value}(h:Rd c m tv v)(e:gZ tv=true)(u:jS c a)(x:∀q p,m=some (q,p)->∀b π,c.γ b=.at q (p++π)->a.γ b=.at q (p++π)/\a.w.heap[b]?=c.w.heap[b]?):Rd a m tv v:=h.same u x (λk y=>absurd y (BX e k)) (λp j=>absurd j (rC e p)) (λp j=>absurd j.mv (rC e p))
theorem abR{a:TV}(h:dC a=true):gZ a=true:=by cases a<;>simp_all [dC,gZ,fy]
theorem yx{m:List Fl}{t:Ty}{x:El t}:∀y∈je m (enc false t x),dC y=true:=λy e=>by
 obtain⟨j,a⟩:=G3.1 e;rw[EL] at a;cases u:(enc false t x)[j]? with
 |none=>rw[u] at a;simp at a
 |some b=>rw[u] at a;simp only[jc,cW] at a;subst a;exact Ek (fN u)
theorem BH{c c':Rc}{q y:Rt}{b:Nat}{cs:List TV}(H:jS c c')(u:Tn c c' (λ_=>True) q [] y [])(I:∀a∈cs,dC a=true)(h:ta c q b cs):ta c' y b cs:=by
 obtain⟨J,e,fr,M,N,A,P,Q,D⟩:=h;exact⟨J,e,fr,(u.heap b [] A).trans M,N,u.jq b [] A trivial,P,Q,λj a v x F=>⟨(D j a v x F).1,(D j a v x F).2.all (I a (eT x)) H (u.sub (p:=[]) (p':=[]) (0,j) (λπ=>G2))⟩⟩
theorem BI{c c':Rc}{q e:Rt}{b:Nat}{x:cq}(D:jS c c')(a:Tn c c' (λ_=>True) q [] e [])(h:wV c q b x):wV c' e b x:=by
 obtain⟨p,v,u,j,y,A⟩:=h;exact⟨p,v,(a.heap b [] j).trans u,a.jq b [] j trivial,y,Uu A a⟩
theorem EP{c A:Rc}{v:Value}{tv:TV}(D:(∃g a,∃x:qg a,tv=.fn g (j5 a x))\/∃t,∃x:El t,tv=.ip (enc false t x) 0)(H:jS c A)(h:Rd c none tv v):Rd A none tv v:=by
 have I:∀k,¬ MB k tv:=λk e=>by
  rcases D with⟨g,a,x,rfl⟩|⟨t,x,rfl⟩
  ·cases e with
   |fn _ _ j J=>
    have u:∀(a:List Ty)(x:qg a),TV.ptr k j∉j5 a x:=by
     intro a
     induction a with
     |nil=>intro x;simp[j5]
     |cons t a M=>intro x;simp only[j5,eo,Da];exact⟨by simp,M _⟩
    exact u a x J
  ·cases e
 have F:∀p,¬ MV p tv:=λp e=>by rcases D with⟨g,a,x,rfl⟩|⟨t,x,rfl⟩<;>cases e
 exact h.same H (λ_ _ h=>by simp at h) (λk e=>absurd e (I k)) (λp y=>absurd y (F p)) (λp y=>absurd y.mv (F p))
theorem qS.xu{c c':Rc}{i:Nat}{A:Value}{p:dL}{x:p.T}{v:Value}(h:qS c i A p x v)(e:jS c c')(j:∀b π,c.γ b=.at (.cC i) π->c'.γ b=.at (.cC i) π/\c'.w.heap[b]?=c.w.heap[b]?):qS c' i A p x v:=by
 have D:Tn c c' (λ_=>True) (.cC i) [] (.cC i) []:=⟨λb π a _=>(j b _ a).1,λb π _ H=>absurd trivial H,λb π a=>(j b _ a).2⟩;have u:∀q p,(some (Rt.cC i,([]:dh)):Option Gp)=some (q,p)->∀b π,c.γ b=.at q (p++π)->c'.γ b=.at q (p++π)/\c'.w.heap[b]?=c.w.heap[b]?:=λq p F b π a=>by
  simp only[cW,eE] at F
  obtain⟨rfl,rfl⟩:=F
  exact j b _ a
 cases p with
 |val q=>exact Rd.stay h (B5 q x).1 e u
 |pb t m M=>obtain⟨b,y,a⟩:=h;exact⟨b,y,BH e D yx a⟩
 |pr t=>exact⟨Rd.stay h.1 rfl e u,h.2⟩
 |mu t=>exact⟨Rd.stay h.1 rfl e u,h.2⟩
 |rp t=>exact EP (.inr ⟨t,x,rfl⟩) e h
 |bd=>obtain⟨b,y,a⟩:=h;exact⟨b,y,BI e D a⟩
 |fn I J=>exact EP (.inl ⟨I,J,x,rfl⟩) e h
theorem Gz.xu{c c':Rc}{i:Nat}{y:Value}{p:dL}{x:p.O}{v:Value}(h:Gz c i y p x v)(e:jS c c')(j:∀b π,c.γ b=.at (.cC i) π->c'.γ b=.at (.cC i) π/\c'.w.heap[b]?=c.w.heap[b]?):Gz c' i y p x v:=by
 have A:Tn c c' (λ_=>True) (.cC i) [] (.cC i) []:=⟨λb π a _=>(j b _ a).1,λb π _ H=>absurd trivial H,λb π a=>(j b _ a).2⟩;have D:∀q p,(some (Rt.cC i,([]:dh)):Option Gp)=some (q,p)->∀b π,c.γ b=.at q (p++π)->c'.γ b=.at q (p++π)/\c'.w.heap[b]?=c.w.heap[b]?:=λq p F b π a=>by
  simp only[cW,eE] at F
  obtain⟨rfl,rfl⟩:=F
  exact j b _ a
 cases p with
 |pb t m I=>obtain⟨b,u,a⟩:=h;exact⟨b,u,BH e A yx a⟩
 |pr t=>exact Rd.stay (tv:=.own true t x) h rfl e D
 |mu t=>exact Rd.stay (tv:=.own true t x) h rfl e D
 |bd=>obtain⟨b,u,a⟩:=h;exact⟨b,u,BI e A a⟩
 |_=>trivial
theorem qH.xu{i:Nat}{F:TV}{v:Value}{e:Nat->G}{J:Nat->Prop}(h:qH (g.rc C w) i F v)(x:jF J g.γ e)(H:¬ J i):qH (Gs.rc C {g with γ:=e} w) i F v where
 cells:=by
  obtain⟨I,M,N,P⟩:=h.cells;refine⟨I,M,λj y Q A D=>?_,P⟩;have k:=N j y Q A D;refine⟨k.vw,k.sl,λhp=>?_⟩;exact(k.pl hp).stay (abR hp) (λb u=>⟨x.im b u,rfl⟩) (λq p a b π u=>by
   simp only[cW,eE] at a
   obtain⟨rfl,rfl⟩:=a
   exact⟨x.cC b _ _ H u,rfl⟩)
 pt hp:=by
  have k:=h.pt hp;refine k.same (λb u=>⟨x.im b u,rfl⟩) (λ_ _ h=>by simp at h) (λ_ _=>rfl) (λp a=>?_) (λp a=>?_)
  ·cases a<;>simp[Lh] at hp
  ·cases a;simp[Lh] at hp
 ep:=h.ep
theorem Rel.adG(h:Rel C E s g w){k i:Nat}{K:dh->Prop}:Rel C E ((s.kill (Pl.gK k)).bx k .none) {g with γ:=kH g.γ (.box k) (.cC i) K} w:=by
 have a:dA (λq _=>q=.box k) g.γ w (kH g.γ (.box k) (.cC i) K) w:=SZ h.cI.new;have u:∀j p,MV p ((s.kill (Pl.gK k)).slot j)->(gp p).1≠.box k:=λj p x F=>by
  rw[qv] at x
  have D:=(sR x).2
  rw[uy.2 F] at D
  cases D
 refine(h.kill (Pl.gK k)).mV (X:=λq _=>q=.box k) (g':={g with γ:=kH g.γ (.box k) (.cC i) K}) a (λj=>.inr ⟨rfl,rfl,(λp hx=>by cases hx),⟨λ_ _=>rfl,λp x=>?_,λp x π hx=>u j p x.mv hx⟩⟩) (λj=>?_)
 ·refine⟨rfl,λH=>?_⟩;exact(mM (C:=C) (g:=g) (g':={g with γ:=kH g.γ (.box k) (.cC i) K}) a p H (nO a λq I _ hx=>u j p x ((pJ I).1 ▸hx)) (λ_ _ _=>rfl) (λJ y=>⟨rfl,λhx=>u j p x (by rw[yK.1 y];exact hx)⟩)).2
 ·by_cases A:j=k
  ·subst A
   left
   rcases uj (s.kill (Pl.gK j)) j .none with e|e<;>rw[e]<;>trivial
  ·exact .inr ⟨ui _ _ A,rfl,λp hx=>A (by cases hx;rfl)⟩
end
end
section
def AX(p:dL)(a:TV)(q:Rt)(j:dh):Prop:=(((∃e,MV e a/\(gp e).1=q)\/∃n,q=.cC n)/\¬ kE q j)\/∃k,q=.box k/\k∈l6 [p] [a]
def cb:dL->TV->Option Nat|.pr _,.ep (.cell k _) _ _ _=>some k|.mu _,.vw (.cell k _) _=>some k|_,_=>none
section
variable{C:Cx}{E:Env}{s:TS}{g:Gs}{w:World}{R:Type}{r:R}
structure Handed(C:Cx)(E:Env)(g:Gs)(w:World)(i:Nat)(p:dL)(tv:TV)(v:Value)(x:p.T)(bk:p.O->TS->TS)(s':TS)(γ':Nat->G)(hd:Value):Prop where
 rel:Rel C E s' {g with γ:=γ'} w
 prd:qS (dQ γ' w) i hd p x v
 ev:jF (λj=>j=i) g.γ γ'
 gi:dA (AX p tv) g.γ w γ' w
 top:∀b k,ptrTo k tv=false->g.γ b=.at (.box k) []->γ' b=.at (.box k) []
 back:∀o s2 γ2 w2,Rel C E s2 {g with γ:=γ2} w2->(∀b k,cb p tv=some k->γ' b=.at (.box k) []->w2.heap[b]?=w.heap[b]?)->Gz (dQ γ2 w2) i hd p o v->
  ∃PO,Rel C E (bk o s2) {g with γ:=PO} w2/\jF (λj=>j=i) γ2 PO/\dA (λq _=>q=.cC i) γ2 w2 PO w2
theorem Nq{a:Nat->G}{i:Nat}{q:Rt}{e:dh}:jF (λj=>j=i) a (dP a (.cC i) [] q e):=⟨λb h=>qx h,λb j e u h=>vX h (λhx=>u (by simpa[eC] using hx.1))⟩
theorem Nr{a:Nat->G}{i:Nat}{q:Rt}{e:dh}(j:∀b,w.heap.size<=b->a b=.fr):dA (λq _=>q=.cC i) a w (dP a (.cC i) [] q e) w:=(oG j).mono λq p hx=>hx.1
theorem Md{a:Nat->G}{i:Nat}{q:Rt}{e:dh}:FK (λq=>∃n,q=.cC n) a (dP a (.cC i) [] q e):=(FK.dP yC).mono λq j=>⟨i,j⟩
theorem ER{c e:Rc}{γ:Nat->G}{i:Nat}{q:Rt}{u:dh}(y:c.γ=γ)(j:e.γ=dP γ (.cC i) [] q u)(A:e.w=c.w):Tn c e (λ_=>True) (.cC i) [] q u where
 jq b a x _:=by
  rw[y] at x;rw[j];exact yN (by simpa using x)
 jR b a _ hk:=absurd trivial hk
 heap b a _:=by rw[A]
theorem En{c c':Rc}{γ:Nat->G}{i:Nat}{q:Rt}{π:dh}(e:c.γ=γ)(a:c'.γ=dP γ (.cC i) [] q π)(j:c'.w=c.w):jS c c':=λb u=>⟨by rw[a];exact qx (by rw[<-e];exact u),by rw[j]⟩
theorem Uz{i:Nat}{p:dL}{x:p.O->TS->TS}(u:∀o s,x o s=s)(o:p.O)(y:TS)(a:Nat->G)(w2:World)(A:Rel C E y {g with γ:=a} w2):∃e,Rel C E (x o y) {g with γ:=e} w2/\jF (λj=>j=i) a e/\dA (λq _=>q=.cC i) a w2 e w2:=⟨a,by rw[u];exact A,.refl _ _,.refl _ A.cI.new⟩
theorem Handed.same{i:Nat}{p:dL}{u:TV}{v:Value}{x:p.T}{j:p.O->TS->TS}{hd:Value}(h:Rel C E s g w)(y:qS (dQ g.γ w) i hd p x v)(a:∀o s,j o s=s):Handed C E g w i p u v x j s g.γ hd:=⟨h,y,.refl _ _,.refl _ h.cI.new,λ_ _ _ h=>h,λo s2 e A D _ _=>Uz a o s2 e A D⟩
theorem WJ:jS (g.rc C w) (dQ g.γ w):=λb h=>⟨h,rfl⟩
theorem UA(h:Rel C E s g w){q:VS}{i:Nat}{A:TV}{v:Value}(ha:qH (g.rc C w) i A v){m:Bool->Pl->Bool}{K:q.T->(Unit->TS->TS)->TS->Option R}
  (S:(pn C m (cellsOf A) s λvs I=>match q.dec (tr A vs) with|some x=>K x (λ_ s=>s) I|none=>none)=some r):∃x U I J hd,K x U I=some r/\Handed C E g w i (.val q) A v x U I J hd:=by
 obtain⟨xs,M,aa,Y⟩:=ha.cells;obtain⟨ab,s1,a,N,h1,h3,h4,h5,h6,h7⟩:=OI (n:=i) (j0:=0) (cellsOf A) h M aa S;split at N
 ·rename_i x hd;have H:∀(pre:dh),Rd (Gs.rc C {g with γ:=a} w) (some (.cC i,pre)) (tr A ab) v->∃x U I J hd,K x U I=some r/\Handed C E g w i (.val q) A v x U I J hd:=λpre hr=>by
   have hT:Tn (Gs.rc C {g with γ:=a} w) (dQ (o8 a i pre (om q)) w) (om q) (.cC i) pre (.cC i) []:=⟨λb π y S=>aay y S,λb π y S=>abQ y S,λ_ _ _=>rfl⟩
   have hI:jS (Gs.rc C {g with γ:=a} w) (dQ (o8 a i pre (om q)) w):=λb y=>⟨N7 y,rfl⟩
   have ad:∀q',Zv (cellsOf A) q'->∃p',MV p' A/\(gp p').1=q':=λq'⟨u,hu,p',ae,he⟩=>⟨p',SP hu ae (λQ D=>by
    rcases Y with⟨ai,rfl,_,P,_⟩|⟨F,_⟩
    ·cases D;exact P
    ·exact absurd D (F Q)),he⟩
   refine⟨x,_,s1,o8 a i pre (om q),undef,N,h1.pV Uy,rF hI hT hd hr,?_,?_,?_,λo s2 af w2 h2 _ _=>Uz (p:=.val q) (λ_ _=>rfl) o s2 af w2 h2⟩
   ·refine(jF.fk h6 (λj=>j=i) (λj Z=>absurd Z (SJ _ j))).trans ⟨λb y=>N7 y,λb j π hj y=>Np y (λe=>hj (by cases e;rfl))⟩
   ·refine((h6.gi h.cI.new).trans ((Uy (γ:=a) (i:=i) (pre:=pre) (K:=om q)).gi h1.cI.new)).mono λq' π hx=>?_;rcases hx with⟨Z,y⟩|⟨Z,y⟩
    ·exact .inl ⟨.inl (ad q' Z),y⟩
    ·exact .inl ⟨.inr Z,y⟩
   ·intro b k _ y;have:=h6.at' b _ _ y (λ_=>⟨⟨k,rfl⟩,rfl⟩);exact Np this (by simp)
  rcases Y with⟨Q,rfl,hv,P,ho⟩|⟨F,ah⟩
  ·refine H [] (N6 (i:=i) h3 M (.inl ⟨Q,rfl,hv,P,ho⟩) h4 h5 (some (.cC i,[])) (λ_ j=>by simp[kK]) (λhn=>absurd rfl (hn Q)))
  ·refine H [(0,0)] (N6 (i:=i) h3 M (.inr ⟨F,ah⟩) h4 h5 (some (.cC i,[(0,0)])) (λ⟨Q,D⟩=>absurd D (F Q)) (λ_=>rfl))
 ·simp at N
theorem Ij(h:Rel C E s g w){i:Nat}{p:Pl}{tv:TV}{t:Ty}{x:List (El t)}{hd:Value}(D:fQ C s p=some (.own true t x))(y:(g.rc C w).va p=some hd){K:TS->Option R}(H:mw s p K=some r)(I:MV p tv):
  ∃u a,K u=some r/\Rel C E u {g with γ:=a} w/\Rd (dQ a w) (some (.cC i,[])) (.own true t x) hd/\jF (λj=>j=i) g.γ a/\(∀F,dA (AX F tv) g.γ w a w)/\∀b k,g.γ b=.at (.box k) []->a b=.at (.box k) []:=by
 have A:Rd (g.rc C w) (some (gp p)) (.own true t x) hd:=by
  rcases pN h y D with J|A
  ·cases J
  ·exact A
 obtain⟨u,a,k1,k2,k3,k4,k5⟩:=Jv (n:=i) (π0:=[]) h p D rfl A H;refine⟨u,a,k1,k2,k3.stay rfl (λb e=>⟨e,rfl⟩) (λq M _ b N e=>⟨e,rfl⟩),jF.fk k4 _ (λj P=>absurd P.symm (iV p j)),λF=>?_,λb k e=>k4.at' b _ _ e (λ_=>⟨⟨k,rfl⟩,rfl⟩)⟩;exact(k4.gi h.cI.new).mono λq M hx=>.inl ⟨.inl ⟨p,I,hx.1.symm⟩,hx.2⟩
theorem QI{i k:Nat}{t:Ty}{xs:List (El t)}{u:TS}{a:Nat->G}{w2:World}(x:Rel C E u {g with γ:=a} w2)(y:Rd (dQ a w2) (some (.cC i,[])) (.own true t xs) (g.tm k)):
  ∃e,Rel C E (u.raw k (.own true t xs)) {g with γ:=e} w2/\jF (λj=>j=i) a e/\dA (λq _=>q=.cC i) a w2 e w2:=by
 have A:=x.pV (γ':=dP a (.cC i) [] (.slot k) []) Md;refine⟨_,A.Jw ?_,Nq,Nr x.cI.new⟩;exact y.all (c':=Gs.rc C {g with γ:=dP a (.cC i) [] (.slot k) []} w2) rfl (En (γ:=a) (i:=i) (q:=.slot k) (π:=[]) rfl rfl rfl) (ER (γ:=a) rfl rfl rfl)
theorem QJ{i k c:Nat}{t:Ty}{xs:List (El t)}{A:Value}{D:TS}{a:Nat->G}{w2:World}(F:Rel C E D {g with γ:=a} w2)(H:Rd (dQ a w2) (some (.cC i,[])) (.own true t xs) A)(I:cellAt w2 (g.bx k) c=some A):
  ∃e,Rel C E (Co k c (.own true t xs) D) {g with γ:=e} w2/\jF (λj=>j=i) a e/\dA (λq _=>q=.cC i) a w2 e w2:=by
 have y:=F.pV (γ':=dP a (.cC i) [] (.box k) [(0,c)]) Md;refine⟨dP a (.cC i) [] (.box k) [(0,c)],?_,Nq,Nr F.cI.new⟩;unfold Co;split
 ·rename_i J M;refine y.Ka ?_;rw[rD];have u:=y.boxes k;rw[M] at u;refine MF (π0:=[]) (g:={g with γ:=dP a (.cC i) [] (.box k) [(0,c)]}) (γ':=dP a (.cC i) [] (.box k) [(0,c)]) u (.refl _ y.cI.new) rfl (λv N=>?_);have x:cellAt w2 (g.bx k) c=some v:=N;rw[I] at x;cases x;exact H.all (c':=Gs.rc C {g with γ:=dP a (.cC i) [] (.box k) [(0,c)]} w2) rfl (En (γ:=a) (i:=i) (q:=.box k) (π:=[(0,c)]) rfl rfl rfl) (ER (γ:=a) rfl rfl rfl)
 ·exact y
theorem N8{k:Nat}{u:Value}(h:(g.rc C w).va (.slot k)=some u):C.vs k=true/\g.tm k=u:=by
 simp only[Gs.rc,va] at h;split at h
 ·exact⟨by assumption,gA h⟩
 ·simp at h
theorem UB{i k:Nat}{u:BC}{x:TS}{a:Nat->G}{w2:World}(y:Rel C E x {g with γ:=a} w2)(A:KX (Gs.rc C {g with γ:=dP a (.cC i) [] (.box k) []} w2) (.box k) (g.bx k) u):∃e,Rel C E (x.bx k u) {g with γ:=e} w2/\jF (λj=>j=i) a e/\dA (λq _=>q=.cC i) a w2 e w2:=⟨_,(y.pV (γ':=dP a (.cC i) [] (.box k) []) Md).Ka (uB.2 A),Nq,Nr y.cI.new⟩
theorem QK(h:Rel C E s g w){i k:Nat}{K:dh->Prop}(A:K []){p:dL}(x:k∈l6 [p] [TV.ptr k 0]):Rel C E ((s.kill (Pl.gK k)).bx k .none) {g with γ:=kH g.γ (.box k) (.cC i) K} w/\jF (λj=>j=i) g.γ (kH g.γ (.box k) (.cC i) K)/\
  dA (AX p (.ptr k 0)) g.γ w (kH g.γ (.box k) (.cC i) K) w/\∀b j,ptrTo j (.ptr k 0)=false->g.γ b=.at (.box j) []->kH g.γ (.box k) (.cC i) K b=.at (.box j) []:=by
 refine⟨h.adG,⟨λb a=>I5 a,λb j y u a=>MN a (by simp)⟩,(SZ h.cI.new).mono λq y hx=>.inr ⟨k,hx,x⟩,λb j u a=>MN a (λe=>?_)⟩;cases e;simp[ptrTo] at u
theorem adH(h:Rel C E s g w){p:dL}(av:rN [p]=false){i:Nat}{tv:TV}{v:Value}(U:qH (g.rc C w) i tv v){K:p.T->(p.O->TS->TS)->TS->Option R}(a:arg C false p tv s K=some r):
  ∃x bk F H hd,K x bk F=some r/\Handed C E g w i p tv v x bk F H hd:=by
 cases p with
 |val q=>
  have gen:(xc C false q.mv (cellsOf tv) s λvs F=>match q.dec (tr tv vs) with|some x=>K x (λ_ s=>s) F|none=>none)=some r->∃x bk F H hd,K x bk F=some r/\Handed C E g w i (.val q) tv v x bk F H hd:=λa=>by
   simp only[xc,cN] at a
   cases hq:q.mv with
   |true=>rw[hq,cL] at a;exact UA h U a
   |false=>rw[hq,cN] at a;exact UA h U a
  cases tv with
  |vec t xs=>
   simp only[arg] at a;split at a
   ·rename_i x hd;refine⟨x,_,s,g.γ,undef,a,.same h ?_ (λ_ _=>rfl)⟩;have hv:=U.pt rfl;cases q with
    |el t m=>
     rcases BE hd with⟨cs,hc,_⟩|⟨ae,hd,_⟩
     ·cases hc
     ·cases t<;>simp[Ev.gk,Ev.dec] at ae hd
    |sl f t=>obtain⟨_,hd⟩:=EN hd;simp[eZ] at hd
    |fE t=>have:=Em hd;cases this
    |vec t=>
     have:=Bs hd;cases this;cases hv with
     |vec _ _ _ ae=>exact .vec _ _ _ ae
    |er=>rcases BF hd with hc|⟨hc,_⟩<;>cases hc
   ·simp at a
  |_=>exact gen a
 |pb t m m'=>
  simp only[arg] at a;split at a
  ·rename_i k;split at a
   ·rename_i cs j;obtain⟨aw,D⟩:=dM.1 a;clear a;simp only[one?] at D;split at D
    ·rename_i x hd;have hv:=U.pt rfl;obtain⟨k1,k2,k3,k4⟩:=QK (i:=i) h (Uw (.st t m)) (p:=.pb t m m') (k:=k) (by simp[l6,mQ]);have Q:=uB.1 (h.boxes k);have ax:p5 (.st t m) (s.box k)=some x:=by
      rw[j]
      have:(bif okF m cs then Ev.dec t cs else none:Option (El t))=some x:=dM.2 ⟨aw,hd⟩
      exact this
     have hT:Tn (g.rc C w) (dQ (kH g.γ (.box k) (.cC i) (sg (.st t m))) w) (sg (.st t m)) (.box k) [] (.cC i) []:=⟨λb π j a=>Q8 j a,λb π j a=>RS j a,λ_ _ _=>rfl⟩;have af:=JC (c:=g.rc C w) (c':=dQ (kH g.γ (.box k) (.cC i) (sg (.st t m))) w) (λb j=>⟨I5 j,rfl⟩) hT ax Q;have Y:v=nX (g.bx k):=by cases hv;rfl
     refine⟨x,_,_,_,undef,D,k1,⟨g.bx k,Y,af⟩,k2,k3,k4,λo s2 A w2 J _ Z=>?_⟩;obtain⟨b,aa,ah⟩:=Z;rw[Y] at aa;have ai:b=g.bx k:=by simpa using aa.symm
     subst ai;exact UB (u:=.cells (je m' (enc false t o))) J (BH (c:=dQ A w2) (c':=Gs.rc C {g with γ:=dP A (.cC i) [] (.box k) []} w2) (En (γ:=A) (i:=i) (q:=.box k) (π:=[]) rfl rfl rfl) (ER (γ:=A) rfl rfl rfl) yx ah)
    ·simp at D
   ·simp at a
  ·simp at a
 |bd=>
  simp only[arg] at a;split at a
  ·rename_i k;split at a
   ·rename_i y j;have hv:=U.pt rfl;obtain⟨k1,k2,k3,k4⟩:=QK (i:=i) (K:=λ_=>True) h trivial (p:=.bd) (k:=k) (by simp[l6,mQ]);have Q:=uB.1 (h.boxes k);rw[j] at Q;have hT:Tn (g.rc C w) (dQ (kH g.γ (.box k) (.cC i) (λ_=>True)) w) (λ_=>True) (.box k) [] (.cC i) []:=⟨λb π j a=>Q8 j a,λb π j a=>RS j a,λ_ _ _=>rfl⟩;have af:=BI (c:=g.rc C w) (c':=dQ (kH g.γ (.box k) (.cC i) (λ_=>True)) w) (λb j=>⟨I5 j,rfl⟩) hT Q;have Y:v=nX (g.bx k):=by cases hv;rfl
    refine⟨y,_,_,_,undef,a,k1,⟨g.bx k,Y,af⟩,k2,k3,k4,λo s2 A w2 J _ Z=>?_⟩;obtain⟨b,aa,ah⟩:=Z;rw[Y] at aa;have ai:b=g.bx k:=by simpa using aa.symm
    subst ai;exact UB (u:=.iy o) J (BI (c:=dQ A w2) (c':=Gs.rc C {g with γ:=dP A (.cC i) [] (.box k) []} w2) (En (γ:=A) (i:=i) (q:=.box k) (π:=[]) rfl rfl rfl) (ER (γ:=A) rfl rfl rfl) ah)
   ·simp at a
  ·simp at a
 |pr t=>
  simp only[arg] at a;split at a
  ·rename_i k t0 i0;obtain⟨b,o,aj,S,I,h1,J,hv⟩:=U.ep _ _ _ _ rfl;split at a
   ·rename_i M xs hs;obtain⟨ht,D⟩:=dM.1 a;clear a;have ak:M=t0:=by simpa using ht
    subst ak;obtain⟨e,N⟩:=na D;subst e;obtain⟨y,hy,am⟩:=eM.1 N;obtain⟨an,ao⟩:=N8 I;have P:fQ C s (.slot k)=some (.own true M xs):=by simp only[fQ];rw[cJ an,hs]
    obtain⟨F,H,m1,m2,m3,m4,m5,m6⟩:=Ij (i:=i) (tv:=.ep (.slot k) M i0 0) h P I (K:=λF=>K (xs,i0) (λo s=>s.raw k (.own true M o)) F) am (.ep _ _ _);refine⟨_,_,F,H,_,m1,m2,⟨m3,b,o,aj,S,rfl,h1,J,by simpa using hv⟩,m4,m5 _,λb k' _ j=>m6 b k' j,λou s2 A w2 J _ Z=>?_⟩;exact QI (xs:=ou) J (by rw[ao];exact Z)
   ·simp at a
  ·rename_i k c t0 i0;obtain⟨b,o,aj,S,I,h1,J,hv⟩:=U.ep _ _ _ _ rfl;split at a
   ·rename_i cs j;split at a
    ·rename_i M xs hs;obtain⟨ht,D⟩:=dM.1 a;clear a;have ak:M=t0:=by simpa using ht
     subst ak;obtain⟨e,N⟩:=na D;subst e;obtain⟨y,hy,am⟩:=eM.1 N;have P:fQ C s (.cell k c)=some (.own true M xs):=by simp only[fQ,j,hs]
     obtain⟨F,H,m1,m2,m3,m4,m5,m6⟩:=Ij (i:=i) (tv:=.ep (.cell k c) M i0 0) h P I (K:=λF=>K (xs,i0) (λo s=>Co k c (.own true M o) s) F) (by simp only[mw,j];exact am) (.ep _ _ _);refine⟨_,_,F,H,_,m1,m2,⟨m3,b,o,aj,S,rfl,h1,J,by simpa using hv⟩,m4,m5 _,λb k' _ j=>m6 b k' j,λou s2 A w2 J hh Z=>?_⟩;have ab:=h.boxes k;rw[j] at ab;obtain⟨_,_,_,_,_,ad,_⟩:=ab;have ap:=hh (g.bx k) k rfl (m6 _ _ ad);exact QJ (xs:=ou) J Z (by rw[ln ap];exact I)
    ·simp at a
   ·simp at a
  ·simp at a
 |mu t=>
  simp only[arg] at a;split at a
  ·rename_i k t0;obtain⟨ay,az,aq,au⟩:=U.cells;have I:(g.rc C w).va (.slot k)=some v:=by
    rcases au with⟨cs,hc,_⟩|⟨_,rfl⟩
    ·cases hc
    ·exact(aq 0 _ v rfl rfl).vw _ _ rfl
   split at a
   ·rename_i M xs hs;obtain⟨e,N⟩:=na a;clear a;subst e;obtain⟨an,ao⟩:=N8 I;have P:fQ C s (.slot k)=some (.own true M xs):=by simp only[fQ];rw[cJ an,hs]
    obtain⟨F,H,m1,m2,m3,m4,m5,m6⟩:=Ij (i:=i) (tv:=.vw (.slot k) t0) h P I (K:=λF=>K xs (λo s=>s.raw k (.own true M o)) F) N (.vw _);refine⟨_,_,F,H,v,m1,m2,⟨m3,rfl⟩,m4,m5 _,λb k' _ j=>m6 b k' j,λou s2 A w2 J _ Z=>?_⟩;exact QI (xs:=ou) J (by rw[ao];exact Z)
   ·simp at a
  ·rename_i k c t0;obtain⟨ay,az,aq,au⟩:=U.cells;have I:(g.rc C w).va (.cell k c)=some v:=by
    rcases au with⟨cs,hc,_⟩|⟨_,rfl⟩
    ·cases hc
    ·exact(aq 0 _ v rfl rfl).vw _ _ rfl
   split at a
   ·rename_i cs j;split at a
    ·rename_i M xs hs;obtain⟨e,N⟩:=na a;clear a;subst e;have P:fQ C s (.cell k c)=some (.own true M xs):=by simp only[fQ,j,hs]
     obtain⟨F,H,m1,m2,m3,m4,m5,m6⟩:=Ij (i:=i) (tv:=.vw (.cell k c) t0) h P I (K:=λF=>K xs (λo s=>Co k c (.own true M o) s) F) (by simp only[mw,j];exact N) (.vw _);refine⟨_,_,F,H,v,m1,m2,⟨m3,rfl⟩,m4,m5 _,λb k' _ j=>m6 b k' j,λou s2 A w2 J hh Z=>?_⟩;have ab:=h.boxes k;rw[j] at ab;obtain⟨_,_,_,_,_,ad,_⟩:=ab;have ap:=hh (g.bx k) k rfl (m6 _ _ ad);exact QJ (xs:=ou) J Z (by rw[ln ap];exact I)
    ·simp at a
   ·simp at a
  ·simp at a
 |rp t=>
  simp only[arg] at a;split at a
  ·simp only[one?] at a;split at a
   ·rename_i x hd;exact⟨x,_,s,g.γ,undef,a,.same h (ON (c:=g.rc C w) (c':=dQ g.γ w) WJ hd (U.pt rfl)) (λ_ _=>rfl)⟩
   ·simp at a
  ·simp at a
 |fn gg ts=>
  cases ts with
  |cons t ts=>simp[rN] at av
  |nil=>
   simp only[arg] at a;split at a
   ·rename_i g' S;obtain⟨hg,D⟩:=dM.1 a;clear a;have hg:=gw hg;subst hg;have h0:=U.pt rfl;cases S with
    |cons c S=>simp[ks] at D
    |nil=>
     simp only[ks] at D;refine⟨_,_,s,g.γ,undef,D,.same h ?_ (λ_ _=>rfl)⟩;exact EP (c:=g.rc C w) (.inl ⟨gg,[],(),rfl⟩) WJ h0
   ·simp at a
end
end
section
theorem S0{c:Rc}{e a:Nat->Value}:∀{u:List dL}{i:Nat}{x:og u}{y:List Value},(∀j,i<=j->e j=a j)->qd c e i u x y->qd c a i u x y|[],_,_,_,_,h=>h|_::_,_,_,[],_,h=>h.elim|p::u,i,x,v::y,A,h=>⟨by rw[<-A i (hY _)];exact h.1,S0 (λj D=>A j (by omega)) h.2⟩
theorem S1{c:Rc}{e a:Nat->Value}:∀{u:List dL}{i:Nat}{x:nE u}{y:List Value},(∀j,i<=j->e j=a j)->zv c e i u x y->zv c a i u x y|[],_,_,_,_,h=>h|_::_,_,_,[],_,h=>h.elim|p::u,i,x,v::y,A,h=>⟨by rw[<-A i (hY _)];exact h.1,S1 (λj D=>A j (by omega)) h.2⟩
def AXs(j:List dL)(a:List TV)(q:Rt)(u:dh):Prop:=(((∃x∈a,∃e,MV e x/\(gp e).1=q)\/∃n,q=.cC n)/\¬ kE q u)\/∃k,q=.box k/\k∈l6 j a
theorem RT(p:dL)(a:List dL)(v:TV)(vs:List TV):l6 (p::a) (v::vs)=l6 [p] [v]++l6 a vs:=by cases p<;>simp[l6]
theorem ZR{p:dL}{a:List dL}(h:rN (p::a)=false):rN [p]=false/\rN a=false:=by
 cases p with
 |fn g e=>cases e<;>simp_all [rN]
 |_=>exact⟨rfl,h⟩
theorem abS{p:dL}{v:TV}{e:List TV}{k:Nat}(h:Kx p v e=false)(a:cb p v=some k):nn k e=false:=by
 unfold cb at a;split at a
 ·cases a;exact h
 ·cases a;exact h
 ·simp at a
section
variable{C:Cx}{E:Env}{s:TS}{g:Gs}{w:World}{R:Type}{r:R}
theorem S2:∀(H:List dL)(M:List TV)(a:List Value)(i:Nat){s:TS}{g:Gs}{K:og H->(nE H->TS->TS)->TS->Option R},Rel C E s g w->rN H=false->a.length=M.length->(∀(j:Nat)Y v,M[j]?=some Y->a[j]?=some v->qH (g.rc C w) (i+j) Y v)->args C false H M s K=some r->
  ∃x bk s' D F,K x bk s'=some r/\Rel C E s' {g with γ:=D} w/\qd (dQ D w) F i H x a/\jF (λj=>i<=j/\j<i+H.length) g.γ D/\dA (AXs H M) g.γ w D w/\(∀b k,nn k M=false->g.γ b=.at (.box k) []->D b=.at (.box k) [])/\
   ∀o Z A Q,Rel C E Z {g with γ:=A} Q->(∀b k,D b=.at (.box k) []->Q.heap[b]?=w.heap[b]?)->zv (dQ A Q) F i H o a->
    ∃I,Rel C E (bk o Z) {g with γ:=I} Q/\jF (λj=>i<=j/\j<i+H.length) A I/\dA (λq _=>∃n,q=.cC n) A Q I Q
 |[],[],a,i,s,g,K,h,_,hl,_,e=>⟨(),_,s,g.γ,λ_=>undef,e,h,by simpa[qd] using hl,.refl _ _,.refl _ h.cI.new,λ_ _ _ y=>y,λo Z A Q N _ _=>⟨A,N,.refl _ _,.refl _ N.cI.new⟩⟩
 |[],_::_,_,_,_,_,K,_,_,_,_,e=>by simp[args] at e
 |_::_,[],_,_,_,_,K,_,_,_,_,e=>by simp[args] at e
 |p::H,v::M,[],i,_,_,K,_,_,hl,_,e=>by simp at hl
 |p::H,v::M,u::a,i,s,g,K,h,ab,hl,ha,e=>by
  simp only[args] at e;cases S:Kx p v M with
  |true=>rw[S] at e;simp at e
  |false=>
   rw[S,cN] at e;obtain⟨ad,ae⟩:=ZR ab;obtain⟨x,bk,s1,af,hd,e,U⟩:=adH h ad (ha 0 v u rfl rfl) e;obtain⟨xs,ah,Z,A,F,e,h1,N,h3,h4,h5,h6⟩:=S2 H M a (i+1) (g:={g with γ:=af}) U.rel ae (by simpa using hl) (λj Y w J hw=>by
    have:=ha (j+1) Y w (by simpa using J) (by simpa using hw)
    rw[show i+1+j=i+(j+1) by omega]
    exact this.xu U.ev (by omega)) e;have P:∀j,i+1<=j->F j=(λj=>if j=i then hd else F j) j:=λj J=>by simp only[];rw[cK (by omega)]
   refine⟨(x,xs),_,Z,A,λj=>if j=i then hd else F j,e,h1,⟨?_,S0 P N⟩,?_,?_,?_,?_⟩
   ·have:=U.prd.xu (c':=dQ A w) (λb y=>⟨h3.im b y,rfl⟩) (λb π y=>⟨h3.cC b i π (by omega) y,rfl⟩);simpa using this
   ·refine(U.ev.mono (λj J=>?_)).trans (h3.mono λj J=>?_)
    ·subst J;simp
    ·simp only[fY];omega
   ·refine(U.gi.trans h4).mono λq π hx=>?_;rcases hx with(⟨hx,y⟩|⟨k,hx,y⟩)|(⟨hx,y⟩|⟨k,hx,y⟩)
    ·refine .inl ⟨?_,y⟩;rcases hx with⟨p',h1,N⟩|hx
     ·exact .inl ⟨v,by simp,p',h1,N⟩
     ·exact .inr hx
    ·exact .inr ⟨k,hx,by rw[RT];exact eB.2 (.inl y)⟩
    ·refine .inl ⟨?_,y⟩;rcases hx with⟨Y,ai,p',h1,N⟩|hx
     ·exact .inl ⟨Y,by simp[ai],p',h1,N⟩
     ·exact .inr hx
    ·exact .inr ⟨k,hx,by rw[RT];exact eB.2 (.inr y)⟩
   ·intro b k e y;simp only[nn] at e;cases hp:ptrTo k v with
    |true=>rw[hp] at e;simp at e
    |false=>rw[hp,cN] at e;exact h5 b k e (U.top b k hp y)
   ·intro o s3 I w3 h7 h8 h9;obtain⟨aa,m1,m2,m3⟩:=h6 o.2 s3 I w3 h7 h8 (S1 (λj J=>(P j J).symm) h9.2);obtain⟨aj,n1,n2,n3⟩:=U.back o.1 (ah o.2 s3) aa w3 m1 (λb k hc y=>h8 b k (h5 b k (abS S hc) y)) (by
     have:=h9.1.xu (c':=dQ aa w3) (λb y=>⟨m2.im b y,rfl⟩) (λb π y=>⟨m2.cC b i π (by omega) y,rfl⟩)
     simpa using this);refine⟨aj,n1,(m2.mono (λj J=>?_)).trans (n2.mono λj J=>?_),(m3.trans n3).mono λq π hx=>?_⟩
    ·simp only[fY];omega
    ·subst J;simp
    ·rcases hx with hx|hx
     ·exact hx
     ·exact⟨i,hx⟩
theorem Rel.adI(h:Rel C E s g w){n d b:Nat}{x:List TV}(a:∀N∈x,dC N=true)(P:ta (dQ g.γ w) (.cC n) b x):
  Rel C E ((s.fS d).bx d (.cells x)) ⟨dP g.γ (.cC n) [] (.box d) [],λk=>if k=d then b else g.bx k,g.tm⟩ w:=by
 have u:dA (eC (.cC n) []) g.γ w (dP g.γ (.cC n) [] (.box d) []) w:=oG h.cI.new;have y:∀j p,MV p ((s.fS d).slot j)->(gp p).1≠.box d:=λj p a Q=>by
  rw[A9] at a
  have J:=(sR (SD a)).2
  rw[uy.2 Q] at J
  cases J
 refine(h.fS d).mV (X:=eC (.cC n) []) (g':=⟨dP g.γ (.cC n) [] (.box d) [],λk=>if k=d then b else g.bx k,g.tm⟩) u (λj=>.inr ⟨rfl,rfl,(λp hx=>by simp[eC] at hx),⟨λk M=>?_,λp a=>?_,λp a π hx=>absurd hx.1 (iV p n)⟩⟩) (λj=>?_)
 ·rw[A9] at M;have:=(SC M).2;simp[this]
 ·have:=λA=>mM (C:=C) (g:=g) (g':=⟨dP g.γ (.cC n) [] (.box d) [],λk=>if k=d then b else g.bx k,g.tm⟩) u p A (nO u λq S _ hx=>by
    have:=(pJ S).1
    rw[hx.1] at this
    exact absurd this.symm (iV p n)) (λ_ _ _=>rfl) (λU D=>⟨by
     have:U≠d:=λe=>y j p a (by rw[yK.1 D,e])
     simp[this],λhx=>by simp[eC] at hx⟩);have F:=(h.fS d).fD j;exact⟨(this (F.s9 a)).1,λA=>(this A).2⟩
 ·by_cases H:j=d
  ·subst H
   left
   rcases uj (s.fS j) j (.cells x) with e|e<;>rw[e]
   ·have:=BH (c:=dQ g.γ w) (c':=Gs.rc C ⟨dP g.γ (.cC n) [] (.box j) [],λk=>if k=j then b else g.bx k,g.tm⟩ w) (En (γ:=g.γ) (i:=n) (q:=.box j) (π:=[]) rfl rfl rfl) (ER (γ:=g.γ) rfl rfl rfl) a P;have I:(Gs.rc C ⟨dP g.γ (.cC n) [] (.box j) [],λk=>if k=j then b else g.bx k,g.tm⟩ w).bx j=b:=by simp[Gs.rc]
    show ta _ (.box j) _ x;rw[I];exact this
   ·trivial
  ·exact .inr ⟨ui _ _ H,by simp[H],λp hx=>by simp[eC] at hx⟩
theorem ae1(h:Rel C E s g w){n:Nat}{y:Option Nat}{A:List fh}{x:jQ A}{v:Value}{N:TS}(F:qT (dQ g.γ w) n A x v)(a:xd C y A x s=some N):
  ∃H,Rel C E N H w/\H.tm=(g.put y v).tm/\(∀k,y≠some k->H.bx k=g.bx k)/\dA (λq _=>q=.cC n) g.γ w H.γ w:=by
 have gen:Rd (dQ g.γ w) (some (.cC n,[])) (pack (gn A x)) v->some (dZ C s y (pack (gn A x)))=some N->(∀tv,tv=pack (gn A x)->(∀p,¬ MV p tv)/\∀k,¬ MB k tv)->∃H,Rel C E N H w/\H.tm=(g.put y v).tm/\(∀k,y≠some k->H.bx k=g.bx k)/\dA (λq _=>q=.cC n) g.γ w H.γ w:=λF a hn=>by
  obtain⟨Y,n2⟩:=hn _ rfl
  have Q:Rd (g.rc C w) (some (.cC n,[])) (pack (gn A x)) v:=F.same (λb J=>⟨J,rfl⟩) (λq p _ b π J=>⟨J,rfl⟩) (λk a=>absurd a (n2 k)) (λp I=>absurd I (Y p)) (λp I=>absurd I.mv (Y p))
  obtain⟨S,P,U⟩:=h.put (d:=y) Q
  cases a
  refine⟨_,P,?_,λk _=>by rw[FE],?_⟩
  ·cases y<;>rfl
  ·rw[FD];exact(U.gi h.cI.new).mono λq p hx=>hx.1
 have M:∀(A:List fh)(x:jQ A)tv,tv∈gn A x->gZ tv=true:=by
  intro A
  induction A with
  |nil=>intro x tv j;simp[gn] at j
  |cons r A Z=>
   intro x tv j
   cases r with
   |val q=>
    simp only[gn,eo] at j
    rcases j with rfl|j
    ·exact(B5 q x.1).1
    ·exact Z _ _ j
   |nb t m=>
    simp only[gn,eo] at j;rcases j with rfl|j
    ·rfl
    ·exact Z _ _ j
 have D:∀tv,tv=pack (gn A x)->(∀p,¬ MV p tv)/\∀k,¬ MB k tv:=λtv j=>by
  subst j
  have:=M A x
  match hL:gn A x,this with
  |[u],this=>
   have hu:gZ u=true:=this u (by simp)
   exact⟨λp=>rC hu p,λk=>BX hu k⟩
  |[],_=>exact⟨(λp I=>by cases I),λk a=>by cases a⟩
  |_::_::_,_=>exact⟨(λp I=>by cases I),λk a=>by cases a⟩
 match A,x,F,a,gen,D with
 |[.nb t m],x,F,a,gen,_=>
  obtain⟨b,hv,J⟩:=F;clear gen M;cases y with
  |none=>simp[xd] at a
  |some d=>
   simp only[xd] at a;split at a
   ·have a:=gA a;have P:=h.adI (d:=d) yx J;have I:Rd (Gs.rc C ⟨dP g.γ (.cC n) [] (.box d) [],λk=>if k=d then b else g.bx k,g.tm⟩ w) (some (.cC n,[])) (.ptr d 0) v:=by
     have:=Rd.ptr (c:=Gs.rc C ⟨dP g.γ (.cC n) [] (.box d) [],λk=>if k=d then b else g.bx k,g.tm⟩ w) (some (.cC n,[])) d 0
     rw[hv]
     simpa[Gs.rc] using this
    obtain⟨S,U,h3⟩:=P.put (d:=some d) I;subst a;refine⟨_,U,rfl,λk a=>?_,?_⟩
    ·rw[FE];have:k≠d:=λe=>a (by rw[e]);simp[this]
    ·rw[FD];exact((oG h.cI.new (q1:=.cC n) (p1:=[]) (q2:=.box d) (p2:=[])).trans (h3.gi P.cI.new)).mono λq p hx=>hx.elim (λhx=>hx.1) (λhx=>hx.1)
   ·simp at a
 |[],x,F,a,gen,D=>exact gen F a D
 |[.val q],x,F,a,gen,D=>exact gen F a D
 |.val q::r2::A,x,F,a,gen,D=>exact gen F a D
 |.nb t m::r2::A,x,F,a,gen,D=>exact gen F a D
end
end
def lI:TV->Bool|.dT _ _=>false|.fE _ _=>false|.own d t _=>bif flat t then true else d|_=>true
def rJ:TV->Bool|.agg a=>a.all lI|v=>lI v
def wJ:TV->Bool|.eY a=>a.all rJ|v=>rJ v
theorem abT{t:Ty}(h:flat t=true)(d:Bool)(x:El t):∀a∈enc d t x,lI a=true:=by
 cases t<;>simp_all [flat,enc,lI]
theorem aaz(t:Ty)(x:El t):∀a∈enc true t x,lI a=true:=by
 cases t<;>simp[enc,sc,lI]
theorem Rd.lI{c F:Rc}{m:Option Gp}{y:TV}{v:Value}(h:Rd c m y v):dC y=true->Sd.lI y=true->(∀q p,m=some (q,p)->∀b E,c.γ b=.at q (p++E)->F.γ b=.at q (p++E)/\F.w.heap[b]?=c.w.heap[b]?)->Rd F m y v:=by
 induction h with
 |b m x=>intros;exact .b _ _
 |i m k n=>intros;exact .i _ _ _
 |s m x=>intros;exact .s _ _
 |nil m=>intros;exact .nil _
 |gQ m a=>intros;exact .gQ _ _
 |jC m d t a=>intros;exact .jC _ _ _ _
 |kf q p d t xs b o cap M e fr f N P Q R S U hr Y=>
  intro _ u I;obtain⟨H,C⟩:=I q p rfl b [tg t] P;refine .kf _ _ _ _ _ _ _ _ M e fr f N H (C.trans Q) R S (λr x j y hx A=>by rw[ln C];exact U r x j y hx A) (λr x j y hx A=>?_);refine Y r x j y hx A (fN A) ?_ (λq2 p2 J b2 E Z=>?_)
  ·simp only[Sd.lI] at u;cases D:flat t with
   |true=>exact abT D d x y (eT A)
   |false=>rw[D,cN] at u;subst u;exact aaz t x y (eT A)
  ·simp only[cW,eE] at J;obtain⟨rfl,rfl⟩:=J;have:=I q p rfl b2 (((r:Int),cj t j)::E) (by simpa using Z);simpa using this
 |kt _ _ _ _=>intro _ u _;simp[Sd.lI] at u
 |ny=>intro _ u _;simp[Sd.lI] at u
 |p7=>intro _ u _;simp[Sd.lI] at u
 |p8=>intro _ u _;simp[Sd.lI] at u
 |_=>intro hp;simp[dC] at hp
theorem Rd.VJ{c e:Rc}{m:Option Gp}{a:TV}{v:Value}(h:Rd c m a v)(j:fy a=true)(x:Sd.lI a=true)(y:∀q p,m=some (q,p)->∀b u,c.γ b=.at q (p++u)->e.γ b=.at q (p++u)/\e.w.heap[b]?=c.w.heap[b]?):Rd e m a v:=by
 rcases Vo j with j|rfl
 ·exact h.lI j x y
 ·exact .un _ _
theorem UC{c e:Rc}{m:Option Gp}{j:Nat}(x:∀q p,m=some (q,p)->∀b a,c.γ b=.at q (p++a)->e.γ b=.at q (p++a)/\e.w.heap[b]?=c.w.heap[b]?):∀q p,kK m 0 j=some (q,p)->∀b a,c.γ b=.at q (p++a)->e.γ b=.at q (p++a)/\e.w.heap[b]?=c.w.heap[b]?:=by
 intro q p u b a y;cases m with
 |none=>simp[kK] at u
 |some g=>
  obtain⟨A,C⟩:=g;simp only[kK,jc,cW,eE] at u;obtain⟨rfl,rfl⟩:=u;have:=x _ _ rfl b ((0,j)::a) (by simpa using y);simpa using this
theorem Rd.N9{c u:Rc}{m:Option Gp}{a:TV}{v:Value}(h:Rd c m a v)(y:gZ a=true)(A:∀e,a≠.eY e)(C:Sd.rJ a=true)(F:∀q p,m=some (q,p)->∀b H,c.γ b=.at q (p++H)->u.γ b=.at q (p++H)/\u.w.heap[b]?=c.w.heap[b]?):Rd u m a v:=by
 cases a with
 |agg e=>
  cases h with
  |agg _ _ vs I J M N=>
   simp only[gZ,jh] at y;simp only[Sd.rJ,jh] at C;exact .agg _ _ _ I J M (λj a v D P=>(N j a v D P).VJ (y a (eT D)) (C a (eT D)) (UC F))
 |vec t Q=>cases h with|vec _ _ _ E=>exact .vec _ _ _ E
 |er x=>cases h with|sd _ t x=>exact .sd _ _ _|sf=>exact .sf _
 |lA=>cases h;exact .lA _
 |eY e=>exact absurd rfl (A e)
 |_=>exact h.VJ (by simpa[gZ] using y) C F
theorem Rd.wJ{c x:Rc}{m:Option Gp}{a:TV}{v:Value}(h:Rd c m a v)(C:gZ a=true\/∃e,a=.eY e)(u:Sd.wJ a=true)(y:∀q p,m=some (q,p)->∀b D,c.γ b=.at q (p++D)->x.γ b=.at q (p++D)/\x.w.heap[b]?=c.w.heap[b]?):Rd x m a v:=by
 cases a with
 |eY e=>
  cases h with
  |eY _ _ vs E H I=>
   simp only[Sd.wJ,jh] at u;refine .eY _ _ _ E H (λj a v A J=>?_);have F:=E a (eT A);exact(I j a v A J).N9 F (λe M=>by subst M;simp[gZ,fy,dC] at F) (u a (eT A)) (UC y)
 |agg e=>exact h.N9 (C.resolve_right (by simp)) (by simp) u y
 |_=>exact h.N9 (C.resolve_right (by simp)) (by simp) u y
def uS:TV->Bool|.dT _ _=>true|_=>false
theorem aaA(t:Ty)(x y:El t):(enc false t x).map uS=(enc false t y).map uS:=by cases t<;>rfl
theorem Oa:∀{m:List Fl}{u:List TV}{j:Nat}{c:TV},nH m u=true->u[j]?=some c->uS c=true->o7 m j=.d
 |m,[],j,c,_,h,_=>by simp at h
 |[],e::u,j,c,a,h,x=>by
  exfalso;cases j with
  |zero=>simp at h;subst h;cases e<;>simp[uS] at x;simp[nH] at a
  |succ j=>
   have:nH [] u=true:=by cases e<;>simp[nH] at a<;>exact a
   have:=Oa this (by simpa using h) x;simp[o7] at this
 |f::m,e::u,j,c,a,h,x=>by
  cases j with
  |zero=>
   simp at h;subst h;cases f with
   |d=>rfl
   |l=>cases e<;>simp[uS] at x;simp[nH] at a
   |s=>cases e<;>simp[uS] at x;simp[nH] at a
  |succ j=>
   have:nH m u=true:=by
    cases f with
    |d=>simpa[nH] using a
    |l=>cases e<;>simp[nH] at a<;>exact a
    |s=>cases e<;>simp[nH] at a<;>exact a
   exact Oa (m:=m) this (by simpa using h) x
theorem Q9{m:List Fl}{t:Ty}(H:nH m (enc false t (po t))=true)(x:El t):∀D∈je m (enc false t x),lI D=true:=λD y=>by
 obtain⟨j,a⟩:=G3.1 y;rw[EL] at a;cases e:(enc false t x)[j]? with
 |none=>rw[e] at a;simp at a
 |some b=>
  rw[e] at a;simp only[jc,cW] at a;subst a;have u:=congrArg (λl=>l[j]?) (aaA t x (po t));simp only[hV,e,jc] at u;cases A:(enc false t (po t))[j]? with
  |none=>rw[A] at u;simp at u
  |some z=>
   rw[A] at u;simp only[jc,cW] at u;cases E:uS b with
   |true=>
    have I:=Oa H A (u ▸E);rw[I];cases b<;>simp[uS] at E;simp[vc,lI]
   |false=>
    have J:=fN e;have M:=rE e;have C:∀F xs,b≠.fE F xs:=λF xs N=>by
     subst N
     have:=eT e
     revert this
     cases t<;>simp[enc,sc]
    cases b<;>first|(exact absurd rfl (C _ _))|(simp_all [uS,dC,ik]<;>(cases o7 m j<;>rfl))
theorem aaB{q:VS}(h:ve q=true)(x:q.T):rJ (q.enc x)=true:=by
 cases q with
 |el t m=>
  rw[Fj];cases a:Ev.gk t with
  |true=>rw[cJ rfl];simp only[rJ,jh];exact Q9 h x
  |false=>cases t<;>simp[Ev.gk] at a<;>rfl
 |sl f t=>
  cases f with
  |l=>simp[ve] at h
  |s=>
   have h:flat t=true:=h;show rJ (.own (flat t) t x)=true;simp[rJ,lI,h]
  |d=>show rJ (.own true t x)=true;simp[rJ,lI]
 |fE t=>simp[ve] at h
 |vec t=>rfl
 |er=>rfl
theorem Mr:∀{e:List fh}{x:jQ e},qC e=true->∀j∈gn e x,gZ j=true/\rJ j=true
 |[],_,_,j,h=>by simp[gn] at h
 |.val q::e,x,a,j,h=>by
  simp only[qC] at a;obtain⟨A,y⟩:ve q=true/\qC e=true:=by
   cases u:ve q with
   |true=>rw[u,cL] at a;exact⟨rfl,a⟩
   |false=>rw[u] at a;simp at a
  simp only[gn,eo] at h;rcases h with rfl|h
  ·exact⟨(B5 q x.1).1,aaB A x.1⟩
  ·exact Mr y j h
 |.nb t m::e,x,a,j,h=>by
  simp only[qC] at a;have y:qC e=true:=by
   cases u:ve (.el t m) with
   |true=>rw[u,cL] at a;exact a
   |false=>rw[u] at a;simp at a
  simp only[gn,eo] at h;rcases h with rfl|h
  ·exact⟨rfl,rfl⟩
  ·exact Mr y j h
theorem qT.fresh{c D:Rc}{n:Nat}{rs:List fh}{x:jQ rs}{v:Value}(h:qT c n rs x v)(y:qC rs=true)(H:∀b A,c.γ b=.at (.cC n) A->D.γ b=.at (.cC n) A/\D.w.heap[b]?=c.w.heap[b]?):qT D n rs x v:=by
 have C:∀q p,(some (Rt.cC n,([]:dh)):Option Gp)=some (q,p)->∀b A,c.γ b=.at q (p++A)->D.γ b=.at q (p++A)/\D.w.heap[b]?=c.w.heap[b]?:=λq p F b A N=>by
  simp only[cW,eE] at F
  obtain⟨rfl,rfl⟩:=F
  exact H b _ N
 have gen:Rd c (some (.cC n,[])) (pack (gn rs x)) v->Rd D (some (.cC n,[])) (pack (gn rs x)) v:=λh=>by
  have a:=Mr (x:=x) y
  match hL:gn rs x,a,h with
  |[u],a,h=>
   obtain⟨I,P⟩:=a u (by simp)
   refine h.wJ (.inl I) ?_ C
   show Sd.wJ u=true
   cases u<;>first|exact P|simp[gZ,fy,dC] at I
  |[],_,h=>exact h.wJ (.inr ⟨[],rfl⟩) rfl C
  |u1::Y::Z,a,h=>exact h.wJ (.inr ⟨u1::Y::Z,rfl⟩) (by simp only[pack,Sd.wJ,jh];exactλE Q=>(a E Q).2) C
 match rs,x,h,y,gen with
 |[.nb t m],x,h,y,gen=>
  obtain⟨b,J,vs,e,fr,I,P,S,h4,h5,h6⟩:=h;have R:nH m (enc false t (po t))=true:=by
   simp only[qC] at y
   cases U:ve (.el t m) with
   |true=>exact U
   |false=>rw[U] at y;simp at y
  refine⟨b,J,vs,e,fr,((H b [] S).2).trans I,P,(H b [] S).1,h4,h5,λj E v M J=>⟨(h6 j E v M J).1,?_⟩⟩;refine(h6 j E v M J).2.lI (yx E (eT M)) (Q9 R x.1 E (eT M)) (λq p F b A N=>?_);simp only[cW,eE] at F;obtain⟨rfl,rfl⟩:=F;exact H b _ N
 |[],x,h,y,gen=>exact gen h
 |[.val q],x,h,y,gen=>exact gen h
 |.val q::r2::rs,x,h,y,gen=>exact gen h
 |.nb t m::r2::rs,x,h,y,gen=>exact gen h
theorem qT.xu{c c':Rc}{n:Nat}{rs:List fh}{x:jQ rs}{v:Value}(h:qT c n rs x v)(D:jS c c')(F:∀b j,c.γ b=.at (.cC n) j->c'.γ b=.at (.cC n) j/\c'.w.heap[b]?=c.w.heap[b]?):qT c' n rs x v:=by
 have H:∀q p,(some (Rt.cC n,([]:dh)):Option Gp)=some (q,p)->∀b j,c.γ b=.at q (p++j)->c'.γ b=.at q (p++j)/\c'.w.heap[b]?=c.w.heap[b]?:=λq p J b j y=>by
  simp only[cW,eE] at J
  obtain⟨rfl,rfl⟩:=J
  exact F b _ y
 have I:∀(rs:List fh)(x:jQ rs)E,E∈gn rs x->gZ E=true:=by
  intro rs
  induction rs with
  |nil=>intro x E a;simp[gn] at a
  |cons r rs M=>
   intro x E a
   cases r with
   |val q=>
    simp only[gn,eo] at a
    rcases a with rfl|a
    ·exact(B5 q x.1).1
    ·exact M _ _ a
   |nb t m=>
    simp only[gn,eo] at a;rcases a with rfl|a
    ·rfl
    ·exact M _ _ a
 have gen:Rd c (some (.cC n,[])) (pack (gn rs x)) v->Rd c' (some (.cC n,[])) (pack (gn rs x)) v:=λh=>by
  have e:=I rs x
  match Q:gn rs x,e,h with
  |[u],e,h=>exact h.stay (e u (by simp)) D H
  |[],_,h=>exact h.same D H (λk C=>by cases C) (λp A=>by cases A) (λp A=>by cases A)
  |u1::R::S,e,h=>exact h.same D H (λk C=>by cases C) (λp A=>by cases A) (λp A=>by cases A)
 match rs,x,h,gen with
 |[.nb t m],x,h,gen=>
  obtain⟨b,N,y⟩:=h;exact⟨b,N,BH D ⟨λb j y _=>(F b _ y).1,λb j _ C=>absurd trivial C,λb j y=>(F b _ y).2⟩ yx y⟩
 |[],x,h,gen=>exact gen h
 |[.val q],x,h,gen=>exact gen h
 |.val q::P::rs,x,h,gen=>exact gen h
 |.nb t m::P::rs,x,h,gen=>exact gen h
section
def CX(C:Cx)(f:Nat)(e:List TV)(q:Rt)(u:dh):Prop:=∃c,C.fn f (wB e)=some c/\((((c.tn=false/\∃x∈e,∃j,MV j x/\(gp j).1=q)\/∃n,q=.cC n)/\¬ kE q u)\/∃k,q=.box k/\k∈l6 c.ps e)
def zg(j e:Nat->G):Nat->G:=λb=>match j b with|.at q p=>.at q p|_=>e b
section
variable{P:Program}{C:Cx}{E:Env}{nt:Nat}{o:Oper}{s:TS}{g:Gs}{a:Act}{w:World}{R:Type}{r:R}{K:TS->Option R}
theorem Wn(h:Rel C E s g w){e:Nat->G}(u:∀b,g.γ b=.im->e b=.im):zw C.gl C.gb e w:=⟨λi=>(h.gl i).same (λb y=>⟨u b y,rfl⟩) (λ_ _ h=>by simp at h) (λk A=>absurd A ((h.kM i).2 k)) (λp j=>absurd j ((h.kM i).1 p)) (λp j=>absurd j.mv ((h.kM i).1 p)),λi o x=>⟨u i (h.gb i o x).1,(h.gb i o x).2⟩⟩
theorem abU(hF:qG P C)(h:Rel C E s g w)(l:eb nt g a)(hd:gN nt o.dst){vs:List TV}{vals:List Value}{f:Nat}(hl:vals.length=vs.length)(ha:∀(j:Nat)tv v,vs[j]?=some tv->vals[j]?=some v->qH (g.rc C w) (0+j) tv v)
  (aa:Enters P f->(execOp a.eval o).run P w=.ok (.enter f vals.toArray) w)(J:Cp C f vs s o.dst K=some r):
  ∃U,K U=some r/\u2 P o a w (λa' w'=>∃g',Out C E nt (CX C f vs) o.dst (λk=>o.dst=some k) g w U a' w' g'):=by
 simp only[Cp] at J;cases hc:C.fn f (wB vs) with
 |none=>rw[hc] at J;simp at J
 |some c=>
  rw[hc] at J;obtain⟨H,Y⟩:=dM.1 J;clear J;obtain⟨ah,N⟩:=hF.ok _ _ _ hc;have ai:∀{s3:TS}{y:c.X}{U:TS},xd C o.dst c.rs (c.back y).1 s3=some U->∀{I:Nat->G}{w':World}{v:Value},Rel C E s3 {g with γ:=I} w'->qT (dQ I w') c.ps.length c.rs (c.back y).1 v->dA (CX C f vs) g.γ w I w'->
    ∃g',Out C E nt (CX C f vs) o.dst (λk=>o.dst=some k) g w U (a.put o.dst v) w' g':=λ{s3 y U}D{I w' v}h3 hR u=>by
   obtain⟨g',h4,h5,h6,h7⟩:=ae1 (g:={g with γ:=I}) h3 hR D
   refine⟨g',h4,?_,(u.trans h7).mono λq p hx=>?_,λk J=>?_,λk J=>by rw[h6 k J]⟩
   ·have l1:eb nt {g with γ:=I} a:=l.same rfl;exact(l1.put hd (v:=v)).same h5
   ·rcases hx with hx|hx
    ·exact hx
    ·refine⟨c,hc,.inl ⟨.inr ⟨_,hx⟩,?_⟩⟩;rintro⟨⟨k,J⟩,_⟩;rw[hx] at J;cases J
   ·rw[h5];exact Kb {g with γ:=I} o.dst v k J
  have ad:∀{q:Rt}{π:dh},(∃n,q=.cC n)->¬ kE q π:=λ{q π}⟨n,hn⟩⟨⟨k,J⟩,_⟩=>by rw[hn] at J;cases J
  cases S:c.tn with
  |true=>
   rw[S] at Y;simp only[OG,S,cL] at H;obtain⟨ak,am⟩:qC c.rs=true/\pT c.ps=true:=by
    cases hq:qC c.rs with
    |true=>rw[hq,cL] at H;exact⟨rfl,H⟩
    |false=>rw[hq] at H;simp at H
   obtain⟨x,bk,ae,an,ao⟩:=RR h c.ps vs vals 0 am hl ha Y;obtain⟨y,hy,F⟩:=eM.1 ae;rw[an] at F;cases D:xd C o.dst c.rs (c.back y).1 s with
   |none=>rw[D] at F;simp at F
   |some U=>
    rw[D] at F;refine⟨U,F,λnext Q hq=>?_⟩;have af:=N (jo g.γ) w vals (λ_=>undef) x y (λb A=>SV (h.cI.new b A)) (Wn h λb A=>BG A) (ao _) hy;unfold Oper.wp;rw[aa ah,Oper.upon_enter];refine af.mono λe w' hw=>?_;obtain⟨v,M,rfl,u,hR,_⟩:=hw;refine hq _ _ ?_;have aw:∀b q p,g.γ b=.at q p->b<w.heap.size:=λb q p A=>Db λhn=>by rw[h.cI.new b hn] at A;cases A
    have ab:dA (λq _=>∃n,q=.cC n) g.γ w (zg g.γ M) w':=by
     refine⟨λb A=>?_,λb q p A _=>?_,λb ap A=>?_,u.size,λb A=>?_,u.tape,u.os,u.output⟩
     ·obtain⟨h1,h2⟩:=u.im b (BG A);exact⟨by simp only[zg,A];exact h1,h2⟩
     ·obtain⟨h1,h2⟩:=u.im b (EO A);exact⟨by simp only[zg,A],h2⟩
     ·obtain⟨h1,h2⟩:=u.fr b ap (SV A);exact⟨by simp only[zg,A];exact h1,h2⟩
     ·have Z:w.heap.size<=b:=zO u.size A;have:=h.cI.new b Z;simp only[zg,this];exact u.new b A
    have h3:=h.grow ab (λq p hx=>hx);refine ai D h3 (hR.fresh ak λb π A=>⟨?_,rfl⟩) (ab.mono λq p hx=>⟨c,hc,.inl ⟨.inr hx,ad hx⟩⟩);have Z:M b=.at (.cC c.ps.length) π:=A;show zg g.γ M b=_;unfold zg;split
    ·rename_i q p hg;exfalso;have:=(u.im b (EO hg)).1;rw[Z] at this;cases this
    ·exact Z
  |false=>
   rw[S] at Y;have aq:rN c.ps=false:=by
    simp only[OG,S,cN] at H
    cases hq:rN c.ps with
    |true=>rw[hq] at H;simp at H
    |false=>rfl
   obtain⟨x,bk,s1,aj,au,ae,h1,h2,h3,h4,h5,h6⟩:=S2 c.ps vs vals 0 h aq hl ha Y;obtain⟨y,hy,F⟩:=eM.1 ae;cases D:xd C o.dst c.rs (c.back y).1 (bk (c.back y).2 s1) with
   |none=>rw[D] at F;simp at F
   |some U=>
    rw[D] at F;refine⟨U,F,λnext Q hq=>?_⟩;have af:=N aj w vals au x y h1.cI.new (Wn h1 λb A=>A) h2 hy;unfold Oper.wp;rw[aa ah,Oper.upon_enter];refine af.mono λe w' hw=>?_;obtain⟨v,M,rfl,u,hR,hO⟩:=hw;refine hq _ _ ?_;have h7:Rel C E s1 {g with γ:=M} w':=h1.grow (g:={g with γ:=aj}) u (λq p hx=>hx);obtain⟨I,h8,h9,av⟩:=h6 (c.back y).2 s1 M w' h7 (λb k A=>(u.at' b _ _ A (by simp)).2) hO;refine ai D h8 (hR.xu (λb A=>⟨h9.im b A,rfl⟩) λb π A=>⟨h9.cC b _ π (by simp) A,rfl⟩) ?_;refine((h4.trans u).trans av).mono λq p hx=>⟨c,hc,?_⟩;rcases hx with(hx|hx)|hx
    ·rcases hx with⟨hx,A⟩|hx
     ·refine .inl ⟨?_,A⟩;rcases hx with hx|hx
      ·exact .inl ⟨S,hx⟩
      ·exact .inr hx
     ·exact .inr hx
    ·exact .inl ⟨.inr hx,ad hx⟩
    ·exact .inl ⟨.inr hx,ad hx⟩
theorem jX{k:Nat}:∀{l:List Nat},fJ k l=true↔k∈l
 |[]=>by simp[fJ]
 |x::l=>by
  simp only[fJ,eo];cases hx:Nat.beq k x with
  |true=>simp[gw hx]
  |false=>
   have:k≠x:=λe=>by subst e;simp at hx
   simp only[cN,this,false_or];exact jX
theorem Ns{k:Nat}:∀{xs:List Operand},k∈opsL xs↔.tmp k∈xs
 |[]=>by simp[opsL]
 |x::xs=>by cases x<;>simp[opsL,Ns (xs:=xs)]
theorem Ra{t:TS}{k:Nat}(h:whole (t.slot k)=true):ir t (.tmp k)=t:=by
 simp only[ir];split<;>simp_all [whole]
theorem adJ{t:TS}{x:Operand}{j:Nat}(h:x≠.tmp j):(ir t x).slot j=t.slot j:=by
 cases x with
 |tmp k=>
  have:j≠k:=λe=>h (by rw[e]);simp only[ir];split<;>first|rfl|exact ra _ _ this
 |_=>rfl
theorem BJ{t:TS}{x:Operand}(h:∀k,x=.tmp k->t.slot k=s.slot k):cZ C t x=cZ C s x:=by
 cases x with
 |tmp k=>simp only[cZ,h k rfl]
 |_=>rfl
theorem S3(hC:fK P C):∀(xs:List Operand)(i:Nat){t:TS}{g:Gs},Rel C E t g w->eb nt g a->(∀x∈xs,fe nt x=true)->(∀k,.tmp k∈xs->t.slot k=s.slot k)->uX s xs=false->
  ∃A,Rel C E (O7 t xs) {g with γ:=A} w/\(∀(j:Nat)x,xs[j]?=some x->qH (Gs.rc C {g with γ:=A} w) (i+j) (cZ C s x) (a.eval x))/\jF (λj=>i<=j) g.γ A/\FK (λq=>∃x∈xs,qR x q) g.γ A
 |[],i,t,g,h,l,_,_,_=>⟨g.γ,h,by simp,.refl _ _,.refl _⟩
 |x::xs,i,t,g,h,l,hx,Q,e=>by
  obtain⟨γ1,h1,h2,h3⟩:=CI (n:=i) h l hC.gl (hx x (by simp));have hv:cZ C t x=cZ C s x:=BJ λk u=>Q k (by simp[u]);have I:uX s xs=false/\∀k,x=.tmp k->whole (s.slot k)=true\/.tmp k∉xs:=by
   cases x with
   |tmp k=>
    simp only[uX] at e
    cases J:whole (s.slot k) with
    |true=>rw[J,cL] at e;exact⟨e,λk' D=>by cases D;exact .inl J⟩
    |false=>
     rw[J,cN] at e
     cases S:fJ k (opsL xs) with
     |true=>rw[S] at e;simp at e
     |false=>
      rw[S,cN] at e
      refine⟨e,λk' D=>.inr ?_⟩
      cases D
      intro M
      rw[jX.2 (Ns.2 M)] at S
      cases S
   |_=>exact⟨by simpa[uX] using e,λk u=>by cases u⟩
  have U:∀k,.tmp k∈xs->(ir t x).slot k=s.slot k:=λk u=>by
   by_cases N:x=.tmp k
   ·subst N;rcases I.2 k rfl with J|hn
    ·have Y:whole (t.slot k)=true:=by rw[Q k (by simp)];exact J
     rw[Ra Y];exact Q k (by simp)
    ·exact absurd u hn
   ·rw[adJ N];exact Q k (by simp[u])
  obtain⟨Z,k1,k2,k3,k4⟩:=S3 hC xs (i+1) (t:=ir t x) (g:={g with γ:=γ1}) h1 (l.same rfl) (λy F=>hx y (by simp[F])) U I.1;have e1:jF (λ_=>False) g.γ γ1:=jF.fk h3 _ (λj hj=>by obtain⟨k,_,u⟩:=hj;cases u);refine⟨Z,k1,λj y F=>?_,(e1.mono (λ_ h=>h.elim)).trans (k3.mono λj hj=>by omega),(h3.mono λq H=>?_).trans (k4.mono λq H=>?_)⟩
  ·cases j with
   |zero=>
    simp only[qp,cW] at F;subst F;rw[hv] at h2;have:=SU h2 (Ic hC.gl);exact this.xu (g:={g with γ:=γ1}) k3 (by omega)
   |succ j=>
    have:=k2 j y (by simpa using F);rwa[show i+1+j=i+(j+1) by omega] at this
  ·obtain⟨k,u,H⟩:=H;exact⟨x,by simp,k,u,H⟩
  ·obtain⟨y,F,H⟩:=H;exact⟨y,by simp[F],H⟩
theorem UD{e:TV}(h:pq e=true):gf e=true/\dC e=false:=by cases e<;>first|exact⟨rfl,rfl⟩|(simp[pq] at h)
def uT(C:Cx)(s:TS)(o:Oper)(q:Rt)(j:dh):Prop:=∃c x f e,o.op=.call c/\c.callee=.value x/\cZ C s x=.fn f e/\((∃y∈c.args.toList,qR y q)/\¬ kE q j\/CX C f (c.args.toList.map (cZ C s)++e) q j)
theorem UE(hC:fK P C)(hF:qG P C)(h:Rel C E s g w)(l:eb nt g a)(ab:nS P C nt o=true){c:Call}{x:Operand}(S:o.op=.call c)(u:c.callee=.value x)(M:Ev.step C o s K=some r):
  ∃s',K s'=some r/\u2 P o a w (λa' w'=>∃g',Out C E nt (uT C s o) o.dst (λk=>o.dst=some k) g w s' a' w' g'):=by
 obtain⟨hd,U⟩:=uh ab;simp only[Ev.step,S,u] at M;split at M
 ·rename_i f Y Z;cases A:uX s c.args.toList with
  |true=>rw[A] at M;simp at M
  |false=>
   rw[A,cN] at M;have ad:fe nt x=true:=U x (by simp[S,Op.operands,Call.operands,u]);have ae:∀y∈c.args.toList,fe nt y=true:=λy hy=>U y (by simp only[S,Op.operands,Call.operands,u,G1];exact eB.2 (.inr hy));have H:=iF h l ad;rw[Z] at H;obtain⟨af,h1,h2,h3,h4⟩:=S3 (s:=s) hC c.args.toList 0 h l ae (λ_ _=>rfl) A;generalize ah:a.eval x=fv at H;generalize iK x=gm at H;cases H with
   |fn _ _ _ cv ai aj ak=>
    have am:=abU (g:={g with γ:=af}) (vs:=c.args.toList.map (cZ C s)++Y) (vals:=c.args.toList.map a.eval++cv.toList) hF h1 (l.same rfl) hd (by simp[aj]) (λj tv v D J=>?_) (λan=>?_) M
    ·obtain⟨s',ao,ap⟩:=am;refine⟨s',ao,ap.mono λa' w'⟨g',F⟩=>⟨g',F.rel,F.CV,?_,F.tm,F.bx⟩⟩;refine((h4.gi h.cI.new).trans F.gi).mono λq p hx=>⟨c,x,f,Y,S,u,Z,?_⟩;rcases hx with hx|hx
     ·exact .inl hx
     ·exact .inr hx
    ·by_cases I:j<c.args.toList.length
     ·rw[oB (by simpa using I)] at D;rw[oB (by simpa using I)] at J;rw[hV] at D J;cases hy:c.args.toList[j]? with
      |none=>rw[hy] at D;simp at D
      |some y=>
       rw[hy] at D J;simp only[jc,cW] at D J;subst D;subst J;exact h2 j y hy
     ·rw[pG (by simpa using I)] at D;rw[pG (by simpa using I)] at J;simp only[oC] at D J;have hr:=ak _ tv v D (by rw[<-lG];exact J);have N:=ai tv (eT D);have:qH (g.rc C w) (0+j) tv v:=SU (hr.lift _) (.inr (.inr (UD N).1));refine⟨?_,λQ=>hr.same (λb hb=>⟨h3.im b hb,rfl⟩) (λ_ _ h=>by simp at h) (λ_ _=>rfl) (λp Q=>absurd Q (Jr N p)) (λp Q=>absurd Q.mv (Jr N p)),this.ep⟩;obtain⟨xs,m1,m2,m3⟩:=this.cells;refine⟨xs,m1,λj' aq v' aa ax=>?_,m3⟩;have au:∀cs,tv≠.agg cs:=λcs he=>by subst he;simp[pq] at N
      have av:cellsOf tv=[tv]:=by cases tv<;>first|rfl|exact absurd rfl (au _)
      rw[av] at aa;have aw:aq=tv:=by
       have:=eT aa
       simpa using this
      subst aw;exact⟨λp t he=>by subst he;simp[pq] at N,λp t lo hi he=>by subst he;simp[pq] at N,λQ=>by rw[(UD N).2] at Q;cases Q⟩
    ·simp only[execOp,S];have:(resolve a.eval c o.type)=pure {target:=.fn (.func f) cv,args:=#[]++c.args.map a.eval}:=by
      simp only[resolve,u,ah,Deferred.ofValue]
     rw[this];simp only[pure_bind,invoke];have e:(#[]++Array.map a.eval c.args++cv)=(List.map a.eval c.args.toList++cv.toList).toArray:=by
      apply Array.ext'
      simp
     rw[e];exact aax an _ _
 ·simp at M
end
end
section
def GA(C:Cx)(s:TS)(o:Oper)(q:Rt)(e:dh):Prop:=(qD o=true/\(XZ (xf s o) q e\/zE C s o q e))\/uT C s o q e
def gX(C:Cx)(s:TS)(o:Oper)(q:Rt)(e:dh):Prop:=GA C s o q e\/((∃n,q=.cC n)/\¬ kE q e)
def iR(nt:Nat)(g e:Gs):Prop:=∀k,nt<=k->e.tm k=g.tm k/\e.bx k=g.bx k
theorem iR.refl{nt:Nat}{g:Gs}:iR nt g g:=λ_ _=>⟨rfl,rfl⟩
theorem iR.trans{nt:Nat}{g u Xh:Gs}(h:iR nt g u)(k:iR nt u Xh):iR nt g Xh:=λj e=>⟨(k j e).1.trans (h j e).1,(k j e).2.trans (h j e).2⟩
theorem iR.γ{nt:Nat}{g:Gs}{e:Nat->G}:iR nt g {g with γ:=e}:=λ_ _=>⟨rfl,rfl⟩
section
variable{P:Program}{C:Cx}{E:Env}{nt:Nat}{o:Oper}{s:TS}{g:Gs}{a:Act}{w:World}{R:Type}{r:R}{K:TS->Option R}
theorem Out.jq{X:Rt->dh->Prop}{d:Option Nat}{j:TS}{u:Act}{x:World}{g':Gs}(h:Out C E nt X d (λk=>d=some k) g w j u x g')(y:gN nt d):iR nt g g':=λk A=>by
 have:d≠some k:=λe=>by subst e;exact absurd (show k<nt from y) (by omega)
 exact⟨h.tm k this,h.bx k this⟩
theorem adK{q:Rt}(h:oZ s o q):xf s o q:=by
 unfold oZ at h;split at h
 ·rename_i x e;exact⟨x,by simp[e,Op.operands],dU.z h⟩
 ·exact h
theorem ES{k:Nat}(h:k∈l8 o):o.dst=some k:=by
 have e:∀{d:Option Nat},k∈dx d->d=some k:=λ{d}h=>by
  cases d with
  |none=>simp[dx] at h
  |some d=>simp[dx] at h;rw[h]
 unfold l8 at h;split at h
 ·exact e h
 ·exact e h
 ·split at h
  ·exact e h
  ·simp at h
 ·simp at h
theorem abV(hC:fK P C)(U:qG P C)(h:Rel C E s g w)(l:eb nt g a)(y:nS P C nt o=true)(F:Ev.step C o s K=some r):
  ∃u,K u=some r/\u2 P o a w (λH I=>∃A,Out C E nt (GA C s o) o.dst (λk=>o.dst=some k) g w u H I A):=by
 cases e:qD o with
 |true=>
  obtain⟨u,J,M⟩:=step_ok hC h l y e F;exact⟨u,J,M.mono λH I⟨A,N⟩=>⟨A,N.mono (λq p Q=>.inl ⟨e,Q.imp (λS=>⟨S.1.imp (adK) id,S.2⟩) id⟩) (λk h=>ES h)⟩⟩
 |false=>
  cases D:o.op with
  |call c=>
   cases j:c.callee with
   |value x=>
    obtain⟨u,J,M⟩:=UE hC U h l y D j F;exact⟨u,J,M.mono λH I⟨A,N⟩=>⟨A,N.mono (λq p Q=>.inr Q) (λ_ h=>h)⟩⟩
   |invoke x m=>simp[Ev.step,D,j] at F
   |builtin b=>simp[qD,D,j] at e
  |_=>simp[qD,D] at e
theorem UF(h:Rel C E s g w)(l:eb nt g a)(j:gN nt o.dst){nb:Nat->Prop}:∃g',Out C E nt (λq u=>(∃n,q=.cC n)/\¬ kE q u) o.dst nb g w (dZ C s o.dst (.eY [])) (a.put o.dst undef) w g':=by
 have x:Rd (g.rc C w) (some (.cC 0,[])) (.eY []) undef:=.eY _ _ _ (by simp) rfl (by simp);obtain⟨e,y,A⟩:=h.put (d:=o.dst) x;refine⟨_,y,(l.same (g':={g with γ:=e}) rfl).put j,?_,λk D=>Kb _ _ _ k D,λk _=>by rw[FE]⟩;rw[FD];exact(A.gi h.cI.new).mono λq p hx=>⟨⟨0,hx.1⟩,hx.2⟩
def Cv(P:Program)(e:Array Oper)(i:Nat)(a:Act)(w:World)(x:Act->World->Prop):Prop:=∀(next:Act->World->Prop)(Q:Exit->Act->World->Prop),(∀j u,x j u->next j u)->wpOp P e Q i next a w
theorem Cv.mono{ops:Array Oper}{i:Nat}{u Ψ:Act->World->Prop}(h:Cv P ops i a w u)(x:∀e j,u e j->Ψ e j):Cv P ops i a w Ψ:=λnext Q y=>h next Q λe j A=>y e j (x e j A)
theorem Nt:∀(l:List Oper)(j:Nat),nU l j=(l[j]?).bind (·.dst)
 |[],j=>by simp[nU]
 |o::l,0=>by simp[nU]
 |o::l,j+1=>by simp[nU,Nt l j]
theorem Zq{D:Type}(z:D):∀(t:Tr D)(i j:Nat)(v:D),t.get z i=v->v≠z->(t.set i v).get z j=t.get z j
 |.lf,i,j,v,h,F=>absurd h.symm (by simpa[Tr.get] using F)
 |.nd l x r,i,j,v,h,F=>by
  by_cases A:i=j
  ·subst A;rcases xT z v (.nd l x r) i with e|e
   ·rw[e,h]
   ·exfalso;have H:∀(t:Tr D)(i:Nat),t.get z i=v->(t.set i v).get z i=v:=by
     intro t
     induction t with
     |lf=>intro i h;exact absurd h.symm (by simpa[Tr.get] using F)
     |nd l x r I J=>
      intro i h
      rw[ml] at h
      rw[Eg]
      by_cases y:i=0
      ·rw[cJ y,ml,cJ y]
      ·rw[cK y] at h;rw[cK y]
       by_cases u:i % 2=1
       ·rw[cJ u] at h;rw[cJ u,ml,cK y,cJ u];exact I _ h
       ·rw[cK u] at h;rw[cK u,ml,cK y,cK u];exact J _ h
    rw[H _ _ h] at e;exact F e
  ·exact vA _ _ _ _ _ A
theorem S4{k:Nat}{v:TV}(h:s.slot k=v)(e:v≠.un)(j:Nat):(s.raw k v).slot j=s.slot j:=by
 have u:s.t.get .un k=v:=h;exact Zq .un s.t k j v u e
theorem abW{s e:TS}(h:∀j,e.slot j=s.slot j):GA C e o=GA C s o:=by
 have u:∀x,cZ C e x=cZ C s x:=λx=>BJ λk _=>h k;have y:∀x,dU e x=dU s x:=λx=>by funext q;simp only[dU,h]
 have A:cZ C e=cZ C s:=funext u;have D:xf e o=xf s o:=by funext q;simp only[xf,y]
 funext q F;simp only[GA,zE,uT,A,D]
theorem abX(hC:fK P C)(hF:qG P C)(h:Rel C E s g w)(l:eb nt g a){ops:Array Oper}(Y:∀o∈ops.toList,nS P C nt o=true){i:Nat}(M:ops[i]?=some o)(e:O8 C ops.toList o s K=some r):
  ∃J,K J=some r/\Cv P ops i a w (λa' w'=>∃N,Out C E nt (gX C s o) o.dst (λk=>o.dst=some k) g w J a' w' N):=by
 have ae:o∈ops.toList:=by rw[<-lG] at M;exact eT M
 have aa:=Y o ae;have hd:=(uh aa).1;have go:Region.wanted o (yielded ops a.tmps)=true->∀{Z:TS},(∀j,Z.slot j=s.slot j)->Rel C E Z g w->Ev.step C o Z K=some r->∃J,K J=some r/\Cv P ops i a w (λa' w'=>∃N,Out C E nt (gX C s o) o.dst (λk=>o.dst=some k) g w J a' w' N):=λhw{Z}af h1 e=>by
  obtain⟨J,h2,h3⟩:=abV hC hF h1 l aa e
  refine⟨J,h2,λnext Q hq=>?_⟩
  unfold wpOp
  simp only[M,hw,gr]
  refine .inl (h3 next Q λa' w'⟨N,h4⟩=>hq a' w' ⟨N,h4.mono (λq p hx=>.inl ?_) (λ_ h=>h)⟩)
  rw[<-abW af];exact hx
 have no:Region.wanted o (yielded ops a.tmps)=false->∀{Z:TS},Rel C E Z g w->K (dZ C Z o.dst (.eY []))=some r->∃J,K J=some r/\Cv P ops i a w (λa' w'=>∃N,Out C E nt (gX C s o) o.dst (λk=>o.dst=some k) g w J a' w' N):=λhw{Z}h1 e=>by
  obtain⟨N,h2⟩:=UF (o:=o) (nb:=λk=>o.dst=some k) h1 l hd
  refine⟨_,e,λnext Q hq=>?_⟩
  unfold wpOp
  simp only[M,hw,iN,iD]
  exact hq _ _ ⟨N,h2.mono (λq p hx=>.inr hx) (λ_ h=>h)⟩
 unfold O8 at e;cases hg:o.guard with
 |none=>
  rw[hg] at e;exact go (by simp[Region.wanted,hg]) (λ_=>rfl) h e
 |some jw=>
  obtain⟨j,wv⟩:=jw;rw[hg] at e;simp only[] at e;cases D:nU ops.toList j with
  |none=>rw[D] at e;simp at e
  |some H=>
   rw[D] at e;simp only[] at e;rw[Nt,lG] at D;have ab:H<nt:=by
    cases S:ops[j]? with
    |none=>rw[S] at D;simp at D
    |some oj=>
     rw[S] at D
     simp only[pC] at D
     have:=(uh (Y oj (by rw[<-lG] at S;exact eT S))).1
     rw[D] at this
     exact this
   have ad:a.tmps[H]?=some (g.tm H):=by
    have h1:=l.tm H ab
    have h2:H<a.tmps.size:=by rw[l.sz];exact ab
    rw[ju h2]
    rw[tX,ju h2] at h1
    simpa using h1
   have I:=h.fD H;split at e
   ·rename_i x hx;rw[hx] at I;have F:g.tm H=.bool x:=I.oS;have hy:yielded ops a.tmps j=some x:=by simp[yielded,D,ad,F]
    have hw:Region.wanted o (yielded ops a.tmps)=(x==wv):=by
     simp only[Region.wanted,hg,hy]
     cases x<;>cases wv<;>rfl
    have U:∀y,x=y->Rel C E (s.raw H (.b y)) g w:=λy hy=>by subst hy;exact h.Jw (by rw[F];exact .b _ _)
    have rs:∀y,x=y->∀j,(s.raw H (.b y)).slot j=s.slot j:=λy hy=>by subst hy;exact S4 hx (by simp)
    cases wv with
    |true=>
     simp only[] at e;rcases BA.1 e with⟨A,e⟩|⟨A,e⟩
     ·exact go (by rw[hw,A];rfl) (rs true A) (U true A) e
     ·exact no (by rw[hw,A];rfl) (U false A) e
    |false=>
     simp only[] at e;rcases BA.1 e with⟨A,e⟩|⟨A,e⟩
     ·exact no (by rw[hw,A];rfl) (U true A) e
     ·exact go (by rw[hw,A];rfl) (rs false A) (U false A) e
   ·rename_i hx;rw[hx] at I;have F:∃vs,g.tm H=.tuple vs:=by
     generalize g.tm H=u at I
     cases I with
     |eY _ _ vs _ _ _=>exact⟨vs,rfl⟩
    obtain⟨vs,F⟩:=F;have hy:yielded ops a.tmps j=none:=by simp[yielded,D,ad,F]
    exact no (by simp[Region.wanted,hg,hy]) h e
   ·simp at e
theorem S5(hC:fK P C)(M:qG P C){ops:Array Oper}(u:∀o∈ops.toList,nS P C nt o=true){Q:Exit->Act->World->Prop}{g0:Gs}(N:∀D y F H,K D=some r->Rel C E D y H->eb nt y F->iR nt g0 y->Q .normal F H):
  ∀(e:List Oper)(i:Nat){s:TS}{g:Gs}{a:Act}{w:World},(∀j,e[j]?=ops[i+j]?)->KA C ops.toList e s K=some r->Rel C E s g w->eb nt g a->iR nt g0 g->wpOps P ops Q (List.range' i e.length) a w
 |[],i,s,g,a,w,_,A,h,l,kp=>N s g a w A h l kp
 |o::e,i,s,g,a,w,S,A,h,l,kp=>by
  have x:ops[i]?=some o:=by simpa using(S 0).symm
  simp only[KA] at A;obtain⟨D,U,Y⟩:=abX hC M h l u x A;simp only[fY,P4];rw[wpOps_cons];refine Y _ _ λF H⟨y,I⟩=>?_;have J:o∈ops.toList:=by rw[<-lG] at x;exact eT x
  exact S5 hC M u N e (i+1) (λj=>by have:=S (j+1);simpa[oA,vr 1 j] using this) U I.rel I.CV (kp.trans (I.jq (uh (u o J)).1))
end
end
section
def lv(P:Program)(C:Cx)(nt:Nat):Code->Bool|.region _ e _=>e.toList.all (nS P C nt)|.seq a b=>lv P C nt a&&lv P C nt b|.cond c a b=>fe nt c&&lv P C nt a&&lv P C nt b|.block _ (.loop _)=>true|.block _ c=>lv P C nt c|.ret=>true|.exit _=>true|.skip=>true|_=>false
def FJ(P:Program)(C:Cx)(nt:Nat):Prop:=∀(E:Env)(R:Type)(r:R)(e:Array Oper)(s:TS)(K:TS->Option R)(g:Gs)(a:Act)(w:World)(Q:Exit->Act->World->Prop),(∀o∈e.toList,nS P C nt o=true)->oK C e.toList e.toList [] s K=some r->Rel C E s g w->eb nt g a->(∀u j x y,K u=some r->Rel C E u j y->eb nt j x->iR nt g j->Q .normal x y)->wpAny P .any e Q e.size (Array.replicate e.size false) a w
section
variable{P:Program}{R:Type}{r:R}{D:Ctx R}{E:Env}{nt:Nat}
def KK(D:Ctx R)(E:Env)(nt:Nat)(r:R)(g:Gs)(K:Ex->TS->Option R)(Q:Exit->Act->World->Prop):Prop:=(∀e a j u,K .normal e=some r->Rel D.c E e a u->eb nt a j->iR nt g a->Q .normal j u)/\(∀i e a j u,K (.exit i) e=some r->Rel D.c E e a u->eb nt a j->iR nt g a->Q (.exit i) j u)/\(∀e a j u,D.CC e=some r->Rel D.c E e a u->eb nt a j->iR nt g a->Q .ret j u)
def VK(P:Program)(D:Ctx R)(nt:Nat)(id:Nat)(c:Code):Prop:=∀e,D.loops id=some e->∀(E:Env)(v:e.si.V)(k:e.so.V->Option R)(r:R)(g:Gs)(a:Act)(w:World)(Q:Exit->Act->World->Prop),e.L v k=some r->Rel D.c E (e.si.enc v) g w->eb nt g a->(∀o j u x,k o=some r->Rel D.c E (e.so.enc o) j x->eb nt j u->iR nt g j->Q .normal u x)->(∀y j u x,D.CC y=some r->Rel D.c E y j x->eb nt j u->iR nt g j->Q .ret u x)->(Code.block id (.loop c)).wp P Q a w
def sT(P:Program)(D:Ctx R)(nt:Nat):Code->Prop|.seq a b=>sT P D nt a/\sT P D nt b|.cond _ a b=>sT P D nt a/\sT P D nt b|.block id (.loop c)=>VK P D nt id c|.block _ c=>sT P D nt c|_=>True
theorem KK.jq{g A:Gs}{K:Ex->TS->Option R}{Q:Exit->Act->World->Prop}(h:KK D E nt r g K Q)(k:iR nt g A):KK D E nt r A K Q:=⟨λs2 g2 a e j u x y=>h.1 s2 g2 a e j u x (k.trans y),λi s2 g2 a e j u x y=>h.2.1 i s2 g2 a e j u x (k.trans y),λs2 g2 a e j u x y=>h.2.2 s2 g2 a e j u x (k.trans y)⟩
theorem abY{id:Nat}{c:Code}{s:TS}{K:Ex->TS->Option R}(a:∀j,c≠.loop j):ev D (.block id c) s K=ev D c s λe s'=>match e with|.normal=>K .normal s'|.exit i=>bif Nat.beq i id then K .normal s' else K (.exit i) s':=by
 cases c<;>first|rfl|exact absurd rfl (a _)
theorem zh(Z:P.follows .mixedOrders=true)(hC:fK P D.c)(hF:qG P D.c)(J:FJ P D.c nt):∀(c:Code){s:TS}{K:Ex->TS->Option R}{g:Gs}{a:Act}{w:World}{Q:Exit->Act->World->Prop},ev D c s K=some r->lv P D.c nt c=true->sT P D nt c->Rel D.c E s g w->eb nt g a->KK D E nt r g K Q->c.wp P Q a w
 |.region id S aa,s,K,g,a,w,Q,j,u,_,h,l,y=>by
  have M:∀o∈S.toList,nS P D.c nt o=true:=by simp only[lv,jh] at u;exact u
  simp only[ev] at j;obtain⟨s1,I,j,h1⟩:=RG _ h j;cases aa with
  |false=>
   refine wp_region ?_;have:=S5 (Q:=Q) (g0:=g) hC hF M (λH A C F j h l kp=>y.1 H A C F j h l kp) S.toList 0 (by simp) j h1 (l.same rfl) iR.γ;rw[YJ];simpa using this
  |true=>
   refine wp_region_any Z ?_;have hw:Rel D.c E s1 {g with γ:=I} {w with drawn:=w.drawn+1}:=by
    have ad:dA (λ_ _=>False) I w I {w with drawn:=w.drawn+1}:=⟨λ_ h=>⟨h,rfl⟩,λ_ _ _ h _=>⟨h,rfl⟩,λ_ _ h=>⟨h,rfl⟩,hY _,λb hb=>h1.cI.new b hb,rfl,rfl,rfl⟩
    exact h1.grow (g:={g with γ:=I}) ad (λ_ _ h=>h.elim)
   exact J E R r S s1 (K .normal) {g with γ:=I} a _ Q M j hw (l.same rfl) (λH A C F j h l kp=>y.1 H A C F j h l (iR.γ.trans kp))
 |.seq c1 c2,s,K,g,a,w,Q,j,u,N,h,l,y=>by
  simp only[lv,du] at u;simp only[ev] at j;refine wp_seq (zh Z hC hF J c1 j u.1 N.1 h l ⟨λH A C F j h l kp=>?_,λi H A C F j h l kp=>y.2.1 i H A C F j h l kp,λH A C F j h l kp=>y.2.2 H A C F j h l kp⟩);exact zh Z hC hF J c2 j u.2 N.2 h l (y.jq kp)
 |.cond x c1 c2,s,K,g,a,w,Q,j,u,N,h,l,y=>by
  simp only[lv,du] at u;simp only[ev] at j;split at j
  ·rename_i b hb;have U:=iF h l u.1.1;rw[hb] at U;have U:=U.oS;rcases BA.1 j with⟨rfl,j⟩|⟨rfl,j⟩
   ·exact wp_cond_true U (zh Z hC hF J c1 j u.1.2 N.1 h l y)
   ·exact wp_cond_false U (zh Z hC hF J c2 j u.2 N.2 h l y)
  ·simp at j
 |.block id c,s,K,g,a,w,Q,j,u,N,h,l,y=>by
  by_cases hc:∃c',c=.loop c'
  ·obtain⟨c',rfl⟩:=hc;simp only[ev,Wd] at j;split at j
   ·rename_i ae hs;split at j
    ·rename_i v U;obtain⟨I,h1,_⟩:=MM h U;exact N ae hs E v _ r {g with γ:=I} a w Q j h1 (l.same rfl) (λo A C F j h l kp=>y.1 _ A C F j h l (iR.γ.trans kp)) (λH A C F j h l kp=>y.2.2 H A C F j h l (iR.γ.trans kp))
    ·simp at j
   ·simp at j
  ·have Y:∀c',c≠.loop c':=λc' e=>hc ⟨c',e⟩;rw[abY Y] at j;have ab:lv P D.c nt c=true:=by
    cases c<;>first|exact u|exact absurd rfl (Y _)
   have af:sT P D nt c:=by
    cases c<;>first|exact N|exact absurd rfl (Y _)
   refine wp_block (zh Z hC hF J c j ab af h l ⟨λH A C F j h l kp=>y.1 H A C F j h l kp,λi H A C F j h l kp=>?_,λH A C F j h l kp=>y.2.2 H A C F j h l kp⟩);simp only[Exit.inBlock];simp only[] at j
   by_cases hi:i=id
   ·rw[cJ hi];rw[hi] at j;simp only[Nat.beq_refl,cL] at j;exact y.1 H A C F j h l kp
   ·rw[cK hi];have:Nat.beq i id=false:=by
     cases hb:Nat.beq i id with
     |false=>rfl
     |true=>exact absurd (gw hb) hi
    rw[this,cN] at j;exact y.2.1 i H A C F j h l kp
 |.ret,s,K,g,a,w,Q,j,_,_,h,l,y=>wp_ret (y.2.2 s g a w j h l .refl)
 |.exit i,s,K,g,a,w,Q,j,_,_,h,l,y=>wp_exit (y.2.1 i s g a w j h l .refl)
 |.skip,s,K,g,a,w,Q,j,_,_,h,l,y=>wp_skip (y.1 s g a w j h l .refl)
 |.loop _,_,_,_,_,_,_,j,u,_,_,_,_=>by simp[lv] at u
 |.rangeFunc _ _ _ _,_,_,_,_,_,_,j,u,_,_,_,_=>by simp[lv] at u
 |.scope _,_,_,_,_,_,_,j,u,_,_,_,_=>by simp[lv] at u
 |.label _,_,_,_,_,_,_,j,u,_,_,_,_=>by simp[lv] at u
 |.goto _,_,_,_,_,_,_,j,u,_,_,_,_=>by simp[lv] at u
 |.refuse _,_,_,_,_,_,_,j,u,_,_,_,_=>by simp[lv] at u
def Li(P:Program)(c:Code)(Q:Exit->Act->World->Prop)(a:Act)(w:World):Prop:=∀(b:Frame)(k:List Item)(j:List Frame),∃e u x,Q e u x/\Arrives P (lone (b.at a (.code c::.inLoop c::k)) j w) b k j e u x
theorem aaC{c:Code}{Q:Exit->Act->World->Prop}{a:Act}{w:World}(h:Li P c Q a w):(Code.loop c).wp P Q a w:=λb k u=>by
 obtain⟨e,x,y,A,j⟩:=h b k u;exact⟨e,x,y,A,.of_steps (.one step_loop) j⟩
theorem abZ{c:Code}{Q:Exit->Act->World->Prop}{a:Act}{w:World}(h:c.wp P (Exit.then (Li P c Q) Q) a w):Li P c Q a w:=by
 intro b k M;obtain⟨e,u,y,F,j⟩:=h b (.inLoop c::k) M;cases e with
 |normal=>
  obtain⟨H,I,J,C,A⟩:=F b k M;exact⟨H,I,J,C,.of_steps (Steps.trans j (.one step_inLoop)) A⟩
 |exit id=>exact⟨_,u,y,F,.pass (x:=.inLoop c) rfl (λ_ _=>.inl (by simp)) j⟩
 |goto l=>exact⟨_,u,y,F,.pass (x:=.inLoop c) rfl (λ_ _=>.inl (by simp)) j⟩
 |ret=>exact⟨_,u,y,F,.pass (x:=.inLoop c) rfl (λ_ _=>.inl (by simp)) j⟩
 |panic N=>exact⟨_,u,y,F,.pass (x:=.inLoop c) rfl (λ_ _=>.inl (by simp)) j⟩
 |outgrown=>exact⟨_,u,y,F,.pass (x:=.inLoop c) rfl (λ_ _=>.inl (by simp)) j⟩
def FL(D:Ctx R)(id:Nat)(c:Code)(a j:Live)(L:a.V->(j.V->Option R)->Option R)(v:a.V)(k:j.V->Option R):Option R:=
 ev D c (a.enc v) λe s=>
  match e with
  |.normal=>(match a.dec s with|some u=>L u k|none=>none)
  |.exit i=>bif Nat.beq i id then(match j.dec s with|some o=>k o|none=>none) else none
theorem adL(hm:P.follows .mixedOrders=true)(hC:fK P D.c)(hF:qG P D.c)(F:FJ P D.c nt){id n:Nat}{c:Code}{u H:Live}{L:Nat->u.V->(H.V->Option R)->Option R}(hD:D.loops id=some ⟨u,H,L n⟩)
  (h0:∀v k,L 0 v k=none)(hS:∀m v k,L (m+1) v k=FL D id c u H (L m) v k)(I:lv P D.c nt c=true)(J:sT P D nt c):VK P D nt id c:=by
 intro aa hs E v k r g a w Q e h l hn hr;rw[hD] at hs;cases hs;refine wp_block (aaC ?_);have M:∀(m:Nat)(v:u.V)(x:Gs)(C:Act)(w1:World),L m v k=some r->Rel D.c E (u.enc v) x w1->eb nt x C->iR nt g x->Li P c (Exit.inBlock id Q) C w1:=by
  intro m
  induction m with
  |zero=>intro v x C w1 e;rw[h0] at e;simp at e
  |succ m ih=>
   intro v x C w1 e h l kp
   rw[hS] at e
   refine abZ (zh hm hC hF F c e I J h l ⟨λN S y A e h l j=>?_,λi N S y A e h l j=>?_,λN S y A e h l j=>hr N S y A e h l (kp.trans j)⟩)
   ·simp only[] at e;split at e
    ·rename_i v' U;obtain⟨Y,Z,_⟩:=MM h U;exact ih v' _ y A e Z (l.same rfl) ((kp.trans j).trans iR.γ)
    ·simp at e
   ·simp only[] at e
    by_cases hi:i=id
    ·subst hi;simp only[Nat.beq_refl,cL] at e;split at e
     ·rename_i o U;obtain⟨Y,Z,_⟩:=MM h U;have:=hn o _ y A e Z (l.same rfl) ((kp.trans j).trans iR.γ);simpa[Exit.then,Exit.inBlock] using this
     ·simp at e
    ·have:Nat.beq i id=false:=by
       cases hb:Nat.beq i id with
       |false=>rfl
       |true=>exact absurd (gw hb) hi
     rw[this] at e;simp at e
 exact M n v g a w e h l .refl
end
end
section
def OO(nt i:Nat):dL->Option Rt|.val _=>some (.slot i)|.pb _ _ _=>some (.box (nt+i))|.bd=>some (.box (nt+i))|.pr _=>some (.slot (nt+i))|.mu _=>some (.slot (nt+i))|.rp _=>none|.fn _ _=>none
def n7(ps:List dL)(nt:Nat)(γ:Nat->G):Nat->G:=λb=>
 match γ b with
 |.im=>.im
 |.at (.cC i) p=>match(ps[i]?).bind (OO nt i) with|some q=>.at q p|none=>.fr
 |_=>.fr
def afZ:Value->Nat|.pointer (some a)=>a.block|_=>0
def j2(ps:List dL)(nt:Nat)(γ:Nat->G)(vals:List Value)(hds:Nat->Value):Gs:=
 ⟨n7 ps nt γ,λk=>afZ (vals.getD (k-nt) undef),λk=>if k<nt then vals.getD k undef else hds (k-nt)⟩
def rQ(C:Cx)(nt:Nat):Nat->List dL->Bool|_,[]=>true|i,.pr _::ps=>C.vs (nt+i)&&rQ C nt (i+1) ps|i,.mu _::ps=>C.vs (nt+i)&&rQ C nt (i+1) ps|i,_::ps=>rQ C nt (i+1) ps
section
variable{C:Cx}{g:Gs}{w:World}{γ:Nat->G}{ps:List dL}{nt:Nat}{vals:List Value}{hds:Nat->Value}
theorem Fk{b:Nat}(h:γ b=.im):n7 ps nt γ b=.im:=by simp only[n7,h]
theorem Ob{b:Nat}(h:γ b=.fr):n7 ps nt γ b=.fr:=by simp only[n7,h]
theorem adM{b i:Nat}{π:dh}{p:dL}{q:Rt}(h:γ b=.at (.cC i) π)(a:ps[i]?=some p)(e:OO nt i p=some q):n7 ps nt γ b=.at q π:=by simp only[n7,h,a,pC,e]
theorem Nu{b:Nat}{q:Rt}{a:dh}(h:γ b=.at q a)(e:∀n,q≠.cC n):n7 ps nt γ b=.fr:=by
 cases q with
 |cC n=>exact absurd rfl (e n)
 |_=>simp only[n7,h]
def zi(c:Rc)(a:Nat->Value)(s:TS):Prop:=(∀k,Rd c (some (.slot k,[])) (s.slot k) (a k))/\∀k,tw c k (s.box k)
theorem zi.raw{c:Rc}{tm:Nat->Value}{s:TS}{k:Nat}{tv:TV}(h:zi c tm s)(u:Rd c (some (.slot k,[])) tv (tm k)):zi c tm (s.raw k tv):=by
 refine⟨λj=>?_,h.2⟩
 by_cases a:j=k
 ·subst a;rcases vJ s j tv with e|e<;>rw[e]
  ·exact u
  ·exact .un _ _
 ·rw[ra s tv a];exact h.1 j
theorem zi.bx{c:Rc}{tm:Nat->Value}{s:TS}{k:Nat}{u:BC}(h:zi c tm s)(x:tw c k u):zi c tm (s.bx k u):=by
 refine⟨h.1,λj=>?_⟩
 by_cases a:j=k
 ·subst a;rcases uj s j u with e|e<;>rw[e]
  ·exact x
  ·trivial
 ·rw[ui s u a];exact h.2 j
theorem Rd.af0{c a:Rc}{q e:Rt}{p j:dh}{u:TV}{v:Value}(h:Rd c (some (q,p)) u v)(x:gZ u=true)(H:jS c a)(A:Tn c a (λ_=>True) q p e j):Rd a (some (e,j)) u v:=
 h.mono _ H (λJ M D=>by
  simp only[cW,eE] at D
  obtain⟨rfl,rfl⟩:=D
  exact⟨e,j,rfl,λb E F=>⟨A.jq b E F trivial,A.heap b E F⟩⟩) (λk I=>absurd I (BX x k)) (λr y=>absurd y (rC x r)) (λr y=>absurd y.mv (rC x r))
theorem yX:jS (dQ γ w) (Gs.rc C (j2 ps nt γ vals hds) w):=λb a=>⟨Fk a,rfl⟩
theorem FM{i:Nat}{p:dL}{q:Rt}(a:ps[i]?=some p)(e:OO nt i p=some q):Tn (dQ γ w) (Gs.rc C (j2 ps nt γ vals hds) w) (λ_=>True) (.cC i) [] q []:=⟨λb j u _=>adM u a e,λb j _ x=>absurd trivial x,λ_ _ _=>rfl⟩
theorem ae2{i:Nat}{v:Value}(a:i<nt)(e:vals[i]?=some v):(j2 ps nt γ vals hds).tm i=v:=by
 simp only[j2];rw[cJ a,iE,e];rfl
theorem Fm{i:Nat}:(j2 ps nt γ vals hds).tm (nt+i)=hds i:=by
 simp only[j2];rw[cK (by omega),YK]
theorem OP{i b:Nat}(a:vals[i]?=some (nX b)):(j2 ps nt γ vals hds).bx (nt+i)=b:=by
 simp only[j2];rw[YK,iE,a];rfl
theorem UG(N:vals.length<=nt):∀(a:List dL)(i:Nat){x:og a}{y:List Value},qd (dQ γ w) hds i a x y->(∀j,a[j]?=ps[i+j]?)->(∀j,y[j]?=vals[i+j]?)->rQ C nt i a=true->
  zi (Gs.rc C (j2 ps nt γ vals hds) w) (j2 ps nt γ vals hds).tm (pins nt i a x)
 |[],i,x,y,_,_,_,_=>⟨λk=>by
    have:(pins nt i [] x).slot k=.un:=Mc k
    rw[this];exact .un _ _,λk=>by
    have:(pins nt i [] x).box k=.none:=Mq k
    rw[this];trivial⟩
 |p::a,i,x,[],h,_,_,_=>h.elim
 |p::a,i,x,v::y,h,P,Q,H=>by
  have R:ps[i]?=some p:=by simpa using(P 0).symm
  have U:vals[i]?=some v:=by simpa using(Q 0).symm
  have hi:i<nt:=by
   have:=(eF.1 U).1
   omega
  have S:rQ C nt (i+1) a=true:=by cases p<;>simp_all [rQ]
  have I:=UG N a (i+1) h.2 (λj=>by have:=P (j+1);simpa[oA,vr 1 j] using this) (λj=>by have:=Q (j+1);simpa[oA,vr 1 j] using this) S;have A:=ae2 (ps:=ps) (γ:=γ) (hds:=hds) hi U;have J:=h.1;have e:pins nt i (p::a) x=Xe nt i p x.1 (pins nt (i+1) a x.2):=rfl;rw[e];cases p with
  |val q=>
   refine I.raw ?_;rw[A];exact Rd.af0 J (B5 q x.1).1 yX (FM R rfl)
  |pb t m m'=>
   obtain⟨b,D,M⟩:=J;have E:=OP (ps:=ps) (nt:=nt) (γ:=γ) (hds:=hds) (by rw[U,D]);refine(I.bx (k:=nt+i) (u:=.cells (je m (enc false t x.1))) ?_).raw ?_
   ·have:=BH (c':=Gs.rc C (j2 ps nt γ vals hds) w) yX (FM R rfl) yx M;show ta _ (.box (nt+i)) _ _;rw[show(Gs.rc C (j2 ps nt γ vals hds) w).bx (nt+i)=b from E];exact this
   ·rw[A,D];have:=Rd.ptr (c:=Gs.rc C (j2 ps nt γ vals hds) w) (some (.slot i,[])) (nt+i) 0;rwa[show(Gs.rc C (j2 ps nt γ vals hds) w).bx (nt+i)=b from E] at this
  |bd=>
   obtain⟨b,D,M⟩:=J;have E:=OP (ps:=ps) (nt:=nt) (γ:=γ) (hds:=hds) (by rw[U,D]);refine(I.bx (k:=nt+i) (u:=.iy x.1) ?_).raw ?_
   ·have:=BI (c':=Gs.rc C (j2 ps nt γ vals hds) w) yX (FM R rfl) M;show wV _ (.box (nt+i)) _ _;rw[show(Gs.rc C (j2 ps nt γ vals hds) w).bx (nt+i)=b from E];exact this
   ·rw[A,D];have:=Rd.ptr (c:=Gs.rc C (j2 ps nt γ vals hds) w) (some (.slot i,[])) (nt+i) 0;rwa[show(Gs.rc C (j2 ps nt γ vals hds) w).bx (nt+i)=b from E] at this
  |pr t=>
   obtain⟨Y,b,o,Z,aa,ab,h2,h3,h4⟩:=J;have F:C.vs (nt+i)=true:=by simp only[rQ,du] at H;exact H.1
   refine(I.raw (k:=nt+i) (tv:=.own true t x.1.1) ?_).raw ?_
   ·rw[Fm];exact Y.all rfl yX (FM R rfl)
   ·rw[A,h4];refine Rd.ep _ (.slot (nt+i)) t x.1.2 0 b o Z aa trivial ?_ h2 h3;show va C.vs (j2 ps nt γ vals hds).tm (j2 ps nt γ vals hds).bx w (.slot (nt+i))=_;simp only[va];rw[cJ F,Fm,ab]
  |mu t=>
   obtain⟨Y,h4⟩:=J;have F:C.vs (nt+i)=true:=by simp only[rQ,du] at H;exact H.1
   refine(I.raw (k:=nt+i) (tv:=.own true t x.1) ?_).raw ?_
   ·rw[Fm];exact Y.all rfl yX (FM R rfl)
   ·rw[A,h4];refine Rd.vw _ (.slot (nt+i)) t _ trivial ?_;show va C.vs (j2 ps nt γ vals hds).tm (j2 ps nt γ vals hds).bx w (.slot (nt+i))=_;simp only[va];rw[cJ F,Fm]
  |rp t=>
   refine I.raw ?_;rw[A];exact(EP (.inr ⟨t,x.1,rfl⟩) yX J).lift _
  |fn gg ts=>
   refine I.raw ?_;rw[A];exact(EP (.inl ⟨gg,ts,x.1,rfl⟩) yX J).lift _
theorem aaD(u:vals.length<=nt){x:og ps}(h:qd (dQ γ w) hds 0 ps x vals)(F:∀b,w.heap.size<=b->γ b=.fr)(e:zw C.gl C.gb γ w)(a:∀i,(∀p,¬ MV p (C.gl i))/\∀k,¬ MB k (C.gl i))(y:rQ C nt 0 ps=true):
  Rel C ⟨w.heap.size,n7 ps nt γ,w⟩ (pins nt 0 ps x) (j2 ps nt γ vals hds) w:=by
 have D:=UG (C:=C) (ps:=ps) u ps 0 h (by simp) (by simp) y;refine⟨D.1,D.2,⟨rfl,rfl,rfl,hY _,λb _ j=>⟨j,rfl⟩,λb _ j=>⟨j,rfl⟩,λb j=>Ob (F b j)⟩,λi=>?_,a,λi o E=>⟨Fk (e.2 i o E).1,(e.2 i o E).2⟩⟩;exact(e.1 i).same (λb j=>⟨Fk j,rfl⟩) (λ_ _ h=>by simp at h) (λk H=>absurd H ((a i).2 k)) (λp A=>absurd A ((a i).1 p)) (λp A=>absurd A.mv ((a i).1 p))
theorem aaE(a:vals.length<=nt):eb nt (j2 ps nt γ vals hds) {tmps:=vals.toArray++Array.replicate (nt-vals.toArray.size) undef,defers:=[]} where
 df:=rfl
 sz:=by simp;omega
 tm k hk:=by
  simp only[j2];rw[cJ hk,tX,iE]
  by_cases e:k<vals.length
  ·rw[P0 (by simpa using e)];simp
  ·rw[Array.getElem?_append_right (by simpa using e),mY (by omega)];simp only[LM,P5];rw[cJ (by omega)];rfl
theorem S6{c:Rc}:∀{ps:List dL}{i:Nat}{x:og ps}{a:List Value},qd c hds i ps x a->a.length=ps.length
 |[],_,_,_,h=>by simp[qd] at h;simp[h]
 |_::_,_,_,[],h=>h.elim
 |p::ps,i,x,v::a,h=>by simp[S6 h.2]
end
end
section
structure Claim where
 q:Rt
 pre:dh
 n:Nat
 pre2:dh
 K:dh->Prop
open Classical in
noncomputable def wK:List Claim->Rt->dh->G
 |[],_,_=>.fr
 |c::cs,q,p=>if q=c.q then(if c.pre<+:p then(if c.K (p.drop c.pre.length) then .at (.cC c.n) (c.pre2++p.drop c.pre.length) else .im) else .fr) else wK cs q p
theorem Ms{c:Claim}{π:dh}:∀{cs:List Claim},cs.Pairwise (λa b=>a.q≠b.q)->c∈cs->(c.K π->wK cs c.q (c.pre++π)=.at (.cC c.n) (c.pre2++π))/\(¬ c.K π->wK cs c.q (c.pre++π)=.im)
 |[],_,h=>by simp at h
 |c0::cs,y,h=>by
  rcases eo.1 h with rfl|h
  ·have j:List.drop c.pre.length (c.pre++π)=π:=YI;simp only[wK,gr,qZ];rw[j];exact⟨λu=>by rw[cJ u],λu=>by rw[cK u]⟩
  ·have x:=(zT.1 y).1 c h;simp only[wK];rw[cK (λe=>x e.symm)];exact Ms (zT.1 y).2 h
def sj:fh->dh->Prop|.val q=>om q|.nb t m=>sg (.st t m)
def l9(s:TS)(r:fh)(v:ResultVar)(n:Nat)(e:dh):List Claim:=
 match v with
 |.tmp k=>
  match s.slot k with
  |.vw (.slot j) _=>
   match s.slot j with
   |.own ..=>[⟨.slot j,[],n,e,sj r⟩]
   |_=>[]
  |.own ..=>[⟨.slot k,[],n,e,sj r⟩]
  |.agg _=>[⟨.slot k,[],n,e,sj r⟩]
  |.ptr j _=>[⟨.box j,[],n,e,sj r⟩]
  |_=>[]
 |.cell a _=>
  match s.slot a with
  |.ptr j _=>[⟨.box j,(match s.box j with|.cells [_]=>[(0,0)]|_=>[]),n,e,sj r⟩]
  |_=>[]
def code:Rt->Nat|.slot k=>2*k|.box k=>2*k+1|.cC _=>0
theorem RU(s:TS)(r:fh)(v:ResultVar)(n:Nat)(e:dh):(l9 s r v n e).map (λc=>code c.q)=Pb s v/\∀c∈l9 s r v n e,c.n=n:=by
 unfold l9 Pb;cases v with
 |tmp k=>
  simp only[];cases u:s.slot k with
  |vw p t=>
   cases p with
   |slot j=>
    simp only[];cases s.slot j<;>first|exact⟨rfl,by simp⟩|exact⟨rfl,by simp⟩
   |_=>exact⟨rfl,by simp⟩
  |_=>first|exact⟨rfl,by simp⟩|exact⟨rfl,by simp⟩
 |cell a t=>
  simp only[];cases s.slot a<;>exact⟨rfl,by simp⟩
def u3(nt i:Nat):dL->List Claim|.pb t _ a=>[⟨.box (nt+i),[],i,[],sg (.st t a)⟩]|.bd=>[⟨.box (nt+i),[],i,[],λ_=>True⟩]|.pr _=>[⟨.slot (nt+i),[],i,[],λ_=>True⟩]|.mu _=>[⟨.slot (nt+i),[],i,[],λ_=>True⟩]|_=>[]
def zj(s:TS)(n:Nat)(one:Bool):Nat->List fh->List ResultVar->List Claim
 |j,r::a,v::e=>l9 s r v n (if one then[] else[(0,j)])++zj s n one (j+1) a e
 |_,_,_=>[]
def tc(nt:Nat):Nat->List dL->List Claim|_,[]=>[]|i,p::ps=>u3 nt i p++tc nt (i+1) ps
theorem Rb(s:TS)(n:Nat)(one:Bool):∀(j:Nat)(e:List fh)(a:List ResultVar),e.length=a.length->(zj s n one j e a).map (λc=>code c.q)=FA s a
 |j,[],[],_=>rfl
 |j,[],_::_,h=>by simp at h
 |j,_::_,[],h=>by simp at h
 |j,r::e,v::a,h=>by
  simp only[zj,FA,mG];rw[(RU _ _ _ _ _).1,Rb s n one (j+1) e a (by simpa using h)]
theorem MO{nt:Nat}{c:Claim}:∀{ps:List dL}{i:Nat},c∈tc nt i ps->∃j,i<=j/\(c.q=.slot (nt+j)\/c.q=.box (nt+j))
 |[],_,h=>by simp[tc] at h
 |p::ps,i,h=>by
  simp only[tc,eB] at h;rcases h with h|h
  ·cases p<;>simp[u3] at h<;>subst h<;>exact⟨i,hY _,by simp⟩
  ·obtain⟨j,e,a⟩:=MO h;exact⟨j,by omega,a⟩
theorem S7{nt:Nat}:∀(ps:List dL)(i:Nat),(tc nt i ps).Pairwise (λa b=>a.q≠b.q)
 |[],_=>List.Pairwise.nil
 |p::ps,i=>by
  simp only[tc];refine zU.2 ⟨by cases p<;>simp[u3],S7 ps (i+1),λa u b x=>?_⟩;obtain⟨j,y,e⟩:=MO x;cases p<;>simp[u3] at u<;>subst u<;>rcases e with e|e<;>rw[e]<;>simp<;>omega
theorem QL:∀{l:List Nat}{m:Nat},FB m l=true->l.Pairwise (·≠·)/\∀k∈l,k<m
 |[],_,_=>⟨List.Pairwise.nil,by simp⟩
 |k::r,m,h=>by
  simp only[FB] at h;cases a:fJ k r with
  |true=>rw[a] at h;simp at h
  |false=>
   rw[a,cN] at h;cases j:Nat.blt k m with
   |false=>rw[j] at h;simp at h
   |true=>
    rw[j,cL] at h;obtain⟨u,y⟩:=QL h;have A:k<m:=by simpa[sB] using j
    refine⟨zT.2 ⟨λx hx e=>?_,u⟩,λx hx=>?_⟩
    ·subst e;rw[jX.2 hx] at a;cases a
    ·rcases eo.1 hx with rfl|hx
     ·exact A
     ·exact y x hx
def Kf(s:TS)(nt n:Nat)(a:List fh)(e:List ResultVar)(ps:List dL):List Claim:=zj s n (a.length==1) 0 a e++tc nt 0 ps
theorem aaF{s:TS}{nt n:Nat}{u:List fh}{x:List ResultVar}{ps:List dL}(E:u.length=x.length)(h:FB (2*nt) (FA s x)=true):(Kf s nt n u x ps).Pairwise (λa b=>a.q≠b.q):=by
 obtain⟨A,D⟩:=QL h;rw[<-Rb s n (u.length==1) 0 u x E] at A D;refine zU.2 ⟨?_,S7 ps 0,λa F b H e=>?_⟩
 ·rw[List.pairwise_map] at A;exact A.imp λI e=>I (by rw[e])
 ·have:=D (code a.q) (gR.2 ⟨a,F,rfl⟩);obtain⟨j,_,y⟩:=MO H;rw[e] at this;rcases y with y|y<;>rw[y] at this<;>simp only[code] at this<;>omega
open Classical in
noncomputable def n8(γ:Nat->G)(e:Nat)(a:Nat->G)(cs:List Claim):Nat->G:=λb=>
 let t:=match a b with|.at q p=>wK cs q p|x=>x
 match γ b with
 |.im=>.im
 |.at (.cC _) _=>t
 |.at q p=>.at q p
 |.fr=>if b<e then .fr else t
section
variable{C:Cx}{g':Gs}{w w':World}{γ:Nat->G}{ps:List dL}{nt:Nat}{cs:List Claim}
theorem UH(j:xq ⟨w.heap.size,n7 ps nt γ,w⟩ g'.γ w')(D:∀b,w.heap.size<=b->γ b=.fr)(b:Nat)(A:g'.γ b≠.fr):
  (γ b=.im/\g'.γ b=.im)\/n8 γ w.heap.size g'.γ cs b=(match g'.γ b with|.at q p=>wK cs q p|x=>x):=by
 have e:∀x,γ b=x->x≠.fr->b<w.heap.size:=λx hx u=>Db λy=>u (by rw[<-hx];exact D b y);cases a:γ b with
 |im=>exact .inl ⟨rfl,(j.im b (e _ a (by simp)) (Fk a)).1⟩
 |fr=>
  right
  simp only[n8,a]
  by_cases h:b<w.heap.size
  ·exact absurd (j.fr b h (Ob a)).1 A
  ·rw[cK h]
 |_=>
  rename_i q p;cases q with
  |cC n=>right;simp only[n8,a]
  |_=>exact absurd (j.fr b (e _ a (by simp)) (Nu a (by simp))).1 A
theorem adN(j:xq ⟨w.heap.size,n7 ps nt γ,w⟩ g'.γ w')(u:∀b,w.heap.size<=b->γ b=.fr):jS (Gs.rc C g' w') (dQ (n8 γ w.heap.size g'.γ cs) w'):=λb x=>by
 refine⟨?_,rfl⟩;have a:g'.γ b=.im:=x;rcases UH (cs:=cs) j u b (by rw[a];simp) with⟨e,_⟩|e
 ·show n8 γ w.heap.size g'.γ cs b=.im;simp only[n8,e]
 ·show n8 γ w.heap.size g'.γ cs b=.im;rw[e,a]
theorem adO(E:xq ⟨w.heap.size,n7 ps nt γ,w⟩ g'.γ w')(F:∀b,w.heap.size<=b->γ b=.fr)(u:cs.Pairwise (λa b=>a.q≠b.q)){c:Claim}(D:c∈cs):
  Tn (Gs.rc C g' w') (dQ (n8 γ w.heap.size g'.γ cs) w') c.K c.q c.pre (.cC c.n) c.pre2:=by
 have x:∀b e,g'.γ b=.at c.q (c.pre++e)->n8 γ w.heap.size g'.γ cs b=wK cs c.q (c.pre++e):=λb e j=>by
  rcases UH (cs:=cs) E F b (by rw[j];simp) with⟨_,y⟩|y
  ·rw[j] at y;cases y
  ·rw[y,j]
 exact⟨λb e j A=>(x b e j).trans ((Ms u D).1 A),λb e j A=>(x b e j).trans ((Ms u D).2 A),λ_ _ _=>rfl⟩
theorem ab0(e:xq ⟨w.heap.size,n7 ps nt γ,w⟩ g'.γ w')(A:∀b,w.heap.size<=b->γ b=.fr):dA (λq _=>∃n,q=.cC n) γ w (n8 γ w.heap.size g'.γ cs) w':=by
 have j:∀b x,γ b=x->x≠.fr->b<w.heap.size:=λb x hx u=>Db λy=>u (by rw[<-hx];exact A b y);refine⟨λb a=>⟨by simp only[n8,a],(e.im b (j b _ a (by simp)) (Fk a)).2⟩,λb q p a hx=>?_,λb D a=>⟨by simp only[n8,a];rw[cJ D],(e.fr b D (Ob a)).2⟩,e.size,λb a=>?_,e.tape,e.os,e.output⟩
 ·cases q with
  |cC n=>exact absurd ⟨n,rfl⟩ hx
  |slot k=>exact⟨by simp only[n8,a],(e.fr b (j b _ a (by simp)) (Nu a (by simp))).2⟩
  |box k=>exact⟨by simp only[n8,a],(e.fr b (j b _ a (by simp)) (Nu a (by simp))).2⟩
 ·have E:=A b (zO e.size a);have F:=e.new b a;have I:=e.size;have H:¬ b<w.heap.size:=by
   have:w.heap.size<=w'.heap.size:=e.size
   omega
  simp only[n8,E,F];rw[cK H]
end
end
section
theorem Cj{q:VS}{j:TV}{x:q.T}(e:q.dec j=some x):(∃u,j=.agg u)\/gZ j=true:=by
 cases q with
 |el t m=>
  rcases BE e with⟨u,rfl,_⟩|⟨y,e,_⟩
  ·exact .inl ⟨u,rfl⟩
  ·right
   obtain⟨H,A⟩:=(sN false e).get;cases t<;>simp[Ev.gk] at y
   all_goals
    have D:=A 0 j _ rfl rfl;rcases D with rfl|⟨_,_,_,F⟩
    ·rfl
    ·simp[sc] at F
 |sl f t=>
  obtain⟨_,e⟩:=EN e
  right
  rcases rj e with rfl|rfl|⟨d,rfl⟩|⟨rfl,_⟩|⟨rfl,_⟩<;>rfl
 |fE t=>have:=Em e;subst this;exact .inr rfl
 |vec t=>have:=Bs e;subst this;exact .inr rfl
 |er=>rcases BF e with rfl|⟨rfl,_⟩<;>exact .inr rfl
open Classical in
theorem Kg{c D:Rc}{m F:Option Gp}{q:VS}{j:TV}{v:Value}{x:q.T}(M:jS c D)(H:q.dec j=some x)(I:gf j=true)(h:Rd c m j v)(N:F.isSome=true):Rd D F (q.enc x) v:=by
 have y:gZ j=true:=by
  rcases Cj H with⟨S,rfl⟩|h
  ·simp[gf] at I
  ·exact h
 have Q:Rd {c with γ:=λb=>if c.γ b=.im then .im else .fr} none j v:=(h.anyM I none).stay y (λb e=>⟨by simp[e],rfl⟩) (λ_ _ h=>by simp at h);obtain⟨⟨U,Y⟩,rfl⟩:=ah5.1 N;have A:∀b r p,({c with γ:=λb=>if c.γ b=.im then .im else .fr}:Rc).γ b≠.at r p:=λb r p=>by
  simp only[];split<;>simp
 refine rF (c:={c with γ:=λb=>if c.γ b=.im then .im else .fr}) (r:=.cC 0) (p:=[]) (λb e=>?_) ⟨λb J e=>absurd e (A b _ _),λb J e=>absurd e (A b _ _),λb J e=>absurd e (A b _ _)⟩ H (Q.lift _);have u:(if c.γ b=.im then G.im else .fr)=.im:=e;split at u
 ·rename_i R;exact M b R
 ·cases u
def CK(v:ResultVar)(e:Array Value):Sem Value:=
 match v with
 |.tmp t=>pure (e.getD t undef)
 |.cell a t=>do loadVar t (<-asAddr (e.getD a undef))
def CM(nt:Nat):ResultVar->Bool|.tmp k=>Nat.blt k nt|.cell a _=>Nat.blt a nt
def OQ(e:List (Nat×TI))(s:TS):ResultVar->Prop|.tmp _=>True|.cell a t=>∃k j,s.slot a=.ptr k j/\(lx e t).var=true/\((∃u,s.box k=.cells u/\(lx e t).sz=u.length/\((lx e t).ag=true/\u.length≠1\/(lx e t).ag=false/\u.length=1))\/∃x,∃y:List (El x),s.box k=.vec x y/\(lx e t).ag=true/\y.length=(lx e t).sz)
theorem Ik{R:Type}{r:R}{D:List (Nat×TI)}{s:TS}:∀{rv:List ResultVar}{K:Option R},CH D s rv K=some r->K=some r/\∀v∈rv,OQ D s v
 |[],K,h=>⟨h,by simp⟩
 |.tmp k::rv,K,h=>by
  obtain⟨F,I⟩:=Ik (rv:=rv) (K:=K) h;refine⟨F,λv A=>?_⟩;rcases eo.1 A with rfl|A
  ·trivial
  ·exact I v A
 |.cell a t::rv,K,h=>by
  simp only[CH] at h;split at h
  ·rename_i k j S;split at h
   ·rename_i U M;obtain⟨x,F⟩:=dM.1 h;obtain⟨I,N⟩:=Ik F;refine⟨I,λv A=>?_⟩;rcases eo.1 A with rfl|A
    ·rw[wD] at x;cases y:(lx D t).var with
     |false=>rw[y] at x;simp at x
     |true=>
      rw[y,cL] at x;cases H:Nat.beq (lx D t).sz U.length with
      |false=>rw[H] at x;simp at x
      |true=>
       rw[H,cL] at x;refine⟨k,j,S,y,.inl ⟨U,M,gw H,?_⟩⟩;cases J:(lx D t).ag with
       |true=>
        rw[J,cL] at x;refine .inl ⟨rfl,λe=>?_⟩;rw[e] at x;simp at x
       |false=>
        rw[J,cN] at x;exact .inr ⟨rfl,gw x⟩
    ·exact N v A
   ·rename_i Z Y M;obtain⟨x,F⟩:=dM.1 h;obtain⟨u,Q,F⟩:=eM.1 F;have Q:=lR.1 Q;obtain⟨I,N⟩:=Ik F;refine⟨I,λv A=>?_⟩;rcases eo.1 A with rfl|A
    ·cases y:(lx D t).var with
     |false=>rw[y] at x;simp at x
     |true=>
      rw[y,cL] at x;refine⟨k,j,S,y,.inr ⟨Z,Y,M,x,?_⟩⟩;have h9:((Y.length:Nat):Int)=((lx D t).sz:Nat):=fj Q;omega
    ·exact N v A
   ·simp at h
  ·simp at h
section
variable{P:Program}{C:Cx}{E:Env}{s:TS}{g:Gs}{w:World}{nt:Nat}{a:Act}
def PQ(c:Rc)(n:Nat)(e:dh):(r:fh)->r.T->Value->Prop|.val q,x,u=>Rd c (some (.cC n,e)) (q.enc x) u|.nb t m,x,u=>e=[]->∃b,u=nX b/\ta c (.cC n) b (je m (enc false t x))
theorem RV{b:Nat}{u:Array Value}{e:TypeId}{fr:Nat×Nat}(A:w.heap[b]?=some (.cells u e fr))(D:uY u.size fr):∀(j:Nat)v,u.toList[j]?=some v->cellAt w b (0+j)=some v:=λj v x=>by
 rw[lG] at x;show w.cell? ⟨b,0+j,none⟩=some v;have y:=(YH.1 x).1;simp only[World.cell?,A,ia];have:=D j y;simp[this,x]
theorem ZS(e:Addr):(asAddr (.pointer (some e))).run P w=.ok e w:=by simp[asAddr,go_sem]
theorem adP(hC:fK P C)(h:Rel C E s g w)(l:eb nt g a){c':Rc}{n:Nat}{pre2:dh}{r:fh}{v:ResultVar}{x:r.T}(hI:jS (g.rc C w) c')(hT:∀cl∈l9 s r v n pre2,Tn (g.rc C w) c' cl.K cl.q cl.pre (.cC n) pre2)(hv:CM nt v=true)(ai:OQ C.ty s v)(y:CG r (p6 s v) s=some x):
  ∃u,(CK v a.tmps).run P w=.ok u w/\PQ c' n pre2 r x u:=by
 cases v with
 |tmp k=>
  have hk:k<nt:=by simpa[CM,sB] using hv
  refine⟨g.tm k,by simp only[CK];rw[l.tm k hk];rfl,?_⟩;have I:=h.fD k;cases r with
  |val q=>
   have y:q.dec (Ev.look s (s.slot k))=some x:=y;show Rd c' (some (.cC n,pre2)) (q.enc x) (g.tm k);cases D:s.slot k with
   |vw p t=>
    rw[D] at y I;cases p with
    |slot j=>
     simp only[Ev.look] at y;have ae:(g.rc C w).va (.slot j)=some (g.tm k):=by
      generalize g.tm k=u at I
      cases I with
      |vw _ _ _ _ _ ae=>exact ae
     obtain⟨_,af⟩:=N8 ae;have N:=h.fD j;rw[af] at N;cases R:s.slot j with
     |own d t' xs=>
      rw[R] at y N;have A:(⟨.slot j,[],n,pre2,om q⟩:Claim)∈l9 s (.val q) (.tmp k) n pre2:=by simp only[l9,D,R,sj,fM]
      exact rF hI (hT _ A) y N
     |dT t' xs=>
      rw[R] at y N;exact Kg hI y rfl N rfl
     |_=>rw[R] at y;simp only[] at y;rcases Cj y with⟨cs,J⟩|J<;>first|(cases J;done)|exact Kg hI y rfl (.un (some (.cC 0,[])) _) rfl
    |_=>
     rcases Cj y with⟨cs,J⟩|J
     ·simp[Ev.look] at J
     ·simp[Ev.look,gZ,fy,dC] at J
   |own d t xs=>
    rw[D] at y I;have A:(⟨.slot k,[],n,pre2,om q⟩:Claim)∈l9 s (.val q) (.tmp k) n pre2:=by simp only[l9,D,sj,fM]
    exact rF hI (hT _ A) y I
   |agg cs=>
    rw[D] at y I;have A:(⟨.slot k,[],n,pre2,om q⟩:Claim)∈l9 s (.val q) (.tmp k) n pre2:=by simp only[l9,D,sj,fM]
    exact rF hI (hT _ A) y I
   |j4 t xs r0 c0=>
    rw[D] at y;rcases Cj y with⟨cs,J⟩|J<;>simp[Ev.look,gZ,fy,dC] at J
   |eY cs=>
    rw[D] at y;rcases Cj y with⟨cs,J⟩|J<;>simp[Ev.look,gZ,fy,dC] at J
   |_=>rw[D] at y I;exact Kg hI y rfl I rfl
  |nb t m=>
   intro hp;subst hp;have y:CG (.nb t m) (Ev.look s (s.slot k)) s=some x:=y;cases D:s.slot k with
   |ptr j i=>
    rw[D] at y I;cases i with
    |succ i=>have:(none:Option (El t))=some x:=y;simp at this
    |zero=>
     have ap:p5 (.st t m) (s.box j)=some x:=by
      have:(match s.box j with|.cells cs=>bif okF m cs then Ev.dec t cs else none|_=>none:Option (El t))=some x:=y
      cases S:s.box j with
      |cells cs=>rw[S] at this;exact this
      |_=>rw[S] at this;simp at this
     have A:(⟨.box j,[],n,[],sg (.st t m)⟩:Claim)∈l9 s (.nb t m) (.tmp k) n []:=by simp only[l9,D,sj,fM]
     refine⟨g.bx j,?_,JC hI (hT _ A) ap (uB.1 (h.boxes j))⟩;generalize g.tm k=u at I;cases I;rfl
   |vw p t'=>
    rw[D] at y;cases p with
    |slot j=>
     simp only[Ev.look] at y;cases R:s.slot j<;>rw[R] at y<;>(have:(none:Option (El t))=some x:=y;simp at this)
    |_=>have:(none:Option (El t))=some x:=y;simp at this
   |_=>rw[D] at y;have:(none:Option (El t))=some x:=y;simp at this
 |cell Y U=>
  have hk:Y<nt:=by simpa[CM,sB] using hv
  obtain⟨k,j,D,aj,aq⟩:=ai;have I:=h.fD Y;rw[D] at I;have af:g.tm Y=.pointer (some ⟨g.bx k,j,none⟩):=by
   generalize g.tm Y=u at I
   cases I;rfl
  have N:j=0:=by
   cases j with
   |zero=>rfl
   |succ j=>
    exfalso
    have hr:p6 s (.cell Y U)=.un:=by simp only[p6,D]
    rw[hr] at y
    cases r with
    |val q=>rcases Cj (show q.dec .un=some x from y) with⟨cs,J⟩|J<;>first|(cases J;done)|skip
            cases q with
            |el t m=>
             rcases BE (show(VS.el t m).dec .un=some x from y) with⟨cs,Z,_⟩|⟨M,y,_⟩
             ·cases Z
             ·cases t<;>simp[Ev.gk,Ev.dec] at M y
            |sl f t=>obtain⟨_,Z⟩:=EN (show(VS.sl f t).dec .un=some x from y);simp[eZ] at Z
            |fE t=>have:=Em (show(VS.fE t).dec .un=some x from y);cases this
            |vec t=>have:=Bs (show(VS.vec t).dec .un=some x from y);cases this
            |er=>rcases BF (show VS.er.dec .un=some x from y) with Z|⟨Z,_⟩<;>cases Z
    |nb t m=>have:(none:Option (El t))=some x:=y;simp at this
  subst N;have aa:∀{vs:List Value},vs.length=(C.cX U).sz->(∀(j:Nat)v,vs[j]?=some v->cellAt w (g.bx k) (0+j)=some v)->(CK (.cell Y U) a.tmps).run P w=.ok (if(C.cX U).ag=true then .agg vs.toArray else vs[0]?.getD undef) w:=λhl hc=>by
   simp only[CK]
   rw[l.tm Y hk,af]
   have h1:=run_load hC aj hl hc
   simp only[go_sem,ZS]
   exact h1
  have Q:=uB.1 (h.boxes k);rcases aq with⟨cs,S,ah,ak⟩|⟨t',xs,S,M,ah⟩
  ·rw[S] at Q;obtain⟨vs,e,fr,h1,h2,h3,h4,h5,h6⟩:=Q;refine⟨_,aa (vs:=vs.toList) (by simp only[C7];rw[h4];exact ah.symm) (RV h1 h2),?_⟩;rcases ak with⟨M,F⟩|⟨M,F⟩
   ·have H:(C.cX U).ag=true:=M;rw[cJ H];have ab:p6 s (.cell Y U)=.agg cs:=by
     simp only[p6,D,S]
     match cs,F with
     |[c],F=>simp at F
     |[],_=>rfl
     |_::_::_,_=>rfl
    rw[ab] at y;cases r with
    |nb t m=>have:(none:Option (El t))=some x:=y;simp at this
    |val q=>
     have y:q.dec (.agg cs)=some x:=y;have au:∀tv∈cs,kg tv=true:=λtv av=>by
      cases q with
      |el t m=>
       rcases BE y with⟨ay,he,_,_,y⟩|⟨_,_,hn⟩
       ·cases he;obtain⟨j,N⟩:=G3.1 av;obtain⟨hl,hc⟩:=(sN false y).get;have az:=(eF.1 N).1;have am:(enc false t x)[j]?=some ((enc false t x)[j]'(by omega)):=eA _;exact Br (Nk (hc j tv _ N am) (fN am))
       ·exact absurd rfl (hn cs)
      |sl f t=>obtain⟨_,Z⟩:=EN y;simp[eZ] at Z
      |fE t=>have:=Em y;cases this
      |vec t=>have:=Bs y;cases this
      |er=>rcases BF y with Z|⟨Z,_⟩<;>cases Z
     have aw:Rd (g.rc C w) (some (.box k,[])) (.agg cs) (.agg vs.toList.toArray):=by
      rw[Array.toArray_toList]
      exact .agg _ _ _ au h4 (λj tv v N hv=>(h6 j tv v N hv).1) (λj tv v N hv=>by simpa[kK] using(h6 j tv v N hv).2)
     have A:(⟨.box k,[],n,pre2,om q⟩:Claim)∈l9 s (.val q) (.cell Y U) n pre2:=by
      simp only[l9,D,S,sj,fM]
      congr 1
      match cs,F with
      |[c],F=>simp at F
      |[],_=>rfl
      |_::_::_,_=>rfl
     exact rF hI (hT _ A) y aw
   ·have H:¬ (C.cX U).ag=true:=by
      have:(C.cX U).ag=false:=M
      simp[this]
    rw[cK H]
    match cs,F,S,h4,h5,h6 with
    |[c],_,S,h4,h5,h6=>
     have an:vs[0]?=some (vs[0]'(by rw[h4];simp)):=ju _;have hu:vs.toList[0]?.getD undef=vs[0]'(by rw[h4];simp):=by rw[lG,an];rfl
     rw[hu];have ab:p6 s (.cell Y U)=c:=by simp only[p6,D,S]
     rw[ab] at y;cases r with
     |nb t m=>
      have ax:=h5 c (by simp);cases c<;>first|(have:(none:Option (El t))=some x:=y;simp at this;done)|simp[jy,fy,dC] at ax
     |val q=>
      have A:(⟨.box k,[(0,0)],n,pre2,om q⟩:Claim)∈l9 s (.val q) (.cell Y U) n pre2:=by simp only[l9,D,S,sj,fM]
      exact rF hI (hT _ A) y (h6 0 c _ rfl an).2
  ·rw[S] at Q;obtain⟨vs,e,fr,h1,h2,h3,ao,h4⟩:=Q;refine⟨_,aa (vs:=vs.toList) (by rw[h4,oC];exact ah) (RV h1 h2),?_⟩;have H:(C.cX U).ag=true:=M;rw[cJ H,h4];have ab:p6 s (.cell Y U)=.vec t' xs:=by simp only[p6,D,S]
   rw[ab] at y;cases r with
   |nb t m=>have:(none:Option (El t))=some x:=y;simp at this
   |val q=>exact Kg hI (show q.dec (.vec t' xs)=some x from y) rfl (.vec (some (.cC 0,[])) _ _ ao) rfl
end
end
section
def zF(c:Rc)(n:Nat)(one:Bool):Nat->(e:List fh)->jQ e->List Value->Prop
 |_,[],_,y=>y=[]
 |_,_::_,_,[]=>False
 |j,r::e,x,u::y=>PQ c n (if one then[] else[(0,j)]) r x.1 u/\zF c n one (j+1) e x.2 y
section
variable{P:Program}{C:Cx}{E:Env}{s:TS}{g:Gs}{w:World}{nt:Nat}{a:Act}
theorem S8(hC:fK P C)(h:Rel C E s g w)(l:eb nt g a){c':Rc}{n:Nat}{one:Bool}(hI:jS (g.rc C w) c'):∀(F:List fh)(D:List ResultVar)(j:Nat){x:jQ F},
  (∀y∈zj s n one j F D,Tn (g.rc C w) c' y.K y.q y.pre (.cC y.n) y.pre2)->(∀v∈D,CM nt v=true)->(∀v∈D,OQ C.ty s v)->oQ F D s=some x->
  ∃N,(D.mapM λv=>CK v a.tmps).run P w=.ok N w/\zF c' n one j F x N
 |[],[],j,x,_,_,_,A=>⟨[],by simp[go_sem],rfl⟩
 |[],_::_,_,x,_,_,_,A=>by simp[oQ] at A
 |_::_,[],_,x,_,_,_,A=>by simp[oQ] at A
 |r::F,v::D,j,x,hT,hv,hf,A=>by
  have R:∃J I,CG r (p6 s v) s=some J/\oQ F D s=some I/\x=(J,I):=by
   simp only[oQ] at A
   cases M:CG r (p6 s v) s with
   |none=>rw[M] at A;simp at A
   |some J=>
    cases Q:oQ F D s with
    |none=>rw[M,Q] at A;simp at A
    |some I=>rw[M,Q] at A;exact⟨J,I,rfl,rfl,(gA A).symm⟩
  obtain⟨J,I,M,Q,rfl⟩:=R;have S:=(RU s r v n (if one then[] else[(0,j)])).2;have U:∀y∈l9 s r v n (if one then[] else[(0,j)]),y.pre2=(if one then[] else[(0,j)]):=by
   intro y e
   unfold l9 at e
   cases v with
   |tmp k=>
    simp only[] at e
    split at e
    ·split at e
     ·simp only[fM] at e;subst e;rfl
     ·simp at e
    ·simp only[fM] at e;subst e;rfl
    ·simp only[fM] at e;subst e;rfl
    ·simp only[fM] at e;subst e;rfl
    ·simp at e
   |cell a t=>
    simp only[] at e;split at e
    ·simp only[fM] at e;subst e;rfl
    ·simp at e
  obtain⟨u,hu,hr⟩:=adP hC h l (c':=c') (n:=n) (pre2:=if one then[] else[(0,j)]) hI (λy e=>by
   have:=hT y (by simp only[zj];exact eB.2 (.inl e))
   rwa[S y e,U y e] at this) (hv v (by simp)) (hf v (by simp)) M;obtain⟨N,Y,Z⟩:=S8 hC h l hI F D (j+1) (x:=I) (λy e=>hT y (by simp only[zj];exact eB.2 (.inr e))) (λv H=>hv v (by simp[H])) (λv H=>hf v (by simp[H])) Q;refine⟨u::N,?_,hr,Z⟩;rw[List.mapM_cons];simp[go_sem,hu,Y]
theorem UI{c:Rc}{n:Nat}{one:Bool}:∀{e:List fh}{j:Nat}{x:jQ e}{y:List Value},zF c n one j e x y->y.length=e.length
 |[],_,_,_,h=>by simp[zF] at h;simp[h]
 |_::_,_,_,[],h=>h.elim
 |r::e,j,x,u::y,h=>by simp[UI h.2]
theorem S9:∀{rs:List fh}{x:jQ rs}{c:Rc}{n j:Nat}{A:List Value},zF c n false j rs x A->∀(i:Nat)e u,(gn rs x)[i]?=some e->A[i]?=some u->Rd c (some (.cC n,[(0,j+i)])) e u
 |[],_,_,_,_,_,_,i,e,u,h,_=>by simp[gn] at h
 |_::_,_,_,_,_,[],h,_,_,_,_,_=>h.elim
 |r::rs,x,c,n,j,H::A,h,i,e,u,y,D=>by
  cases i with
  |zero=>
   simp only[qp,cW] at D;subst D;have F:=h.1;cases r with
   |val q=>
    simp only[gn,qp,cW] at y;subst y;simpa[PQ] using F
   |nb t m=>
    simp only[gn,qp,cW] at y;subst y;exact .un _ _
  |succ i=>
   have I:=S9 (rs:=rs) h.2 i e u (by cases r<;>simpa[gn] using y) (by simpa using D);rwa[show j+(i+1)=j+1+i by omega]
theorem Nv:∀{rs:List fh}{x:jQ rs},(gn rs x).length=rs.length
 |[],_=>rfl
 |.val q::rs,x=>by simp[gn,Nv (rs:=rs)]
 |.nb t m::rs,x=>by simp[gn,Nv (rs:=rs)]
theorem adQ:∀(j:List fh)(x:jQ j)u,u∈gn j x->gZ u=true:=by
 intro j;induction j with
 |nil=>intro x u e;simp[gn] at e
 |cons r j y=>
  intro x u e;cases r with
  |val q=>
   simp only[gn,eo] at e;rcases e with rfl|e
   ·exact(B5 q x.1).1
   ·exact y _ _ e
  |nb t m=>
   simp only[gn,eo] at e;rcases e with rfl|e
   ·rfl
   ·exact y _ _ e
theorem adR{c:Rc}{n:Nat}{e:List fh}{x:jQ e}{us:List Value}(h:zF c n (e.length==1) 0 e x us):qT c n e x (if h:us.toArray.size=1 then us.toArray[0] else .tuple us.toArray):=by
 have y:=UI h
 match e,x,us,h,y with
 |[],x,[],h,_=>exact .eY _ _ _ (by simp[gn]) rfl (by simp[gn])
 |[.val q],x,[u],h,_=>exact h.1
 |[.nb t m],x,[u],h,_=>exact h.1 rfl
 |r1::A::e,x,us,h,y=>
  have D:¬ us.toArray.size=1:=by simp at y⊢;omega
  rw[dif_neg D];have J:zF c n false 0 (r1::A::e) x us:=h;have F:Rd c (some (.cC n,[])) (.eY (gn (r1::A::e) x)) (.tuple us.toArray):=by
   refine .eY _ _ _ (λH I=>adQ _ _ H I) (by simp[Nv] at y⊢;exact y) (λj H v M N=>?_)
   have:=S9 J j H v M (by simpa using N)
   simpa[kK] using this
  cases r1<;>(cases A<;>exact F)
theorem Ta(h:Rel C E s g w){c':Rc}(hI:jS (g.rc C w) c'){Q:Nat->Value}{vals:List Value}(R:∀i,g.tm (nt+i)=Q i)(S:∀i b,vals[i]?=some (nX b)->g.bx (nt+i)=b){ad:Nat->G}{w0:World}:
  ∀(A:List dL)(i:Nat){o:nE A}{x:og A}{u:List Value},(∀cl∈tc nt i A,Tn (g.rc C w) c' cl.K cl.q cl.pre (.cC cl.n) cl.pre2)->qd (dQ ad w0) Q i A x u->(∀j,u[j]?=vals[i+j]?)->ze nt i A s=some o->zv c' Q i A o u
 |[],i,o,x,u,_,_,_,_=>trivial
 |p::A,i,o,x,[],_,hp,_,_=>hp.elim
 |p::A,i,o,x,v::u,hT,hp,aa,U=>by
  have ae:∃o1 o2,PC nt i p s=some o1/\ze nt (i+1) A s=some o2/\o=(o1,o2):=by
   simp only[ze] at U
   cases M:PC nt i p s with
   |none=>rw[M] at U;simp at U
   |some o1=>
    cases h2:ze nt (Nat.succ i) A s with
    |none=>rw[M,h2] at U;simp at U
    |some o2=>rw[M,h2] at U;exact⟨o1,o2,rfl,rfl,(gA U).symm⟩
  obtain⟨o1,o2,M,h2,rfl⟩:=ae;have hv:vals[i]?=some v:=by simpa using(aa 0).symm
  refine⟨?_,Ta h hI R S A (i+1) (λcl Y=>hT cl (by simp only[tc];exact eB.2 (.inr Y))) hp.2 (λj=>by have:=aa (j+1);simpa[oA,vr 1 j] using this) h2⟩;have J:∀cl∈u3 nt i p,Tn (g.rc C w) c' cl.K cl.q cl.pre (.cC cl.n) cl.pre2:=λcl Y=>hT cl (by simp only[tc];exact eB.2 (.inl Y));have ab:=hp.1;cases p with
  |val q=>trivial
  |rp t=>trivial
  |fn gg ts=>trivial
  |pb t m m'=>
   obtain⟨b,D,_⟩:=ab;have F:=S i b (by rw[hv,D]);have af:p5 (.st t m') (s.box (nt+i))=some o1:=by
    have:(match s.box (nt+i) with|.cells cs=>bif okF m' cs then Ev.dec t cs else none|_=>none:Option (El t))=some o1:=M
    cases H:s.box (nt+i) with
    |cells cs=>rw[H] at this;exact this
    |_=>rw[H] at this;simp at this
   have I:=JC hI (J ⟨.box (nt+i),[],i,[],sg (.st t m')⟩ (by simp[u3])) af (uB.1 (h.boxes (nt+i)));refine⟨b,D,?_⟩;have e:(g.rc C w).bx (nt+i)=b:=F;rw[e] at I;exact I
  |bd=>
   obtain⟨b,D,_⟩:=ab;have F:=S i b (by rw[hv,D]);have N:=uB.1 (h.boxes (nt+i));have hs:s.box (nt+i)=.iy o1:=by
    have:(match s.box (nt+i) with|.iy x=>some x|_=>none:Option cq)=some o1:=M
    cases H:s.box (nt+i) with
    |iy y=>rw[H] at this;exact congrArg BC.iy (gA this)
    |_=>rw[H] at this;simp at this
   rw[hs] at N;have I:=BI hI (J ⟨.box (nt+i),[],i,[],λ_=>True⟩ (by simp[u3])) N;refine⟨b,D,?_⟩;have e:(g.rc C w).bx (nt+i)=b:=F;rw[e] at I;exact I
  |pr t=>
   have hs:s.slot (nt+i)=.own true t o1:=by
    have:(match s.slot (nt+i) with|.own true Z xs=>if h:Z=t then some (jL h xs) else none|_=>none:Option (List (El t)))=some o1:=M
    cases H:s.slot (nt+i) with
    |own d Z xs=>
     rw[H] at this
     cases d with
     |false=>simp at this
     |true=>
      simp only[] at this
      split at this
      ·rename_i ht;subst ht;exact congrArg (TV.own true Z) (gA this)
      ·simp at this
    |_=>rw[H] at this;simp at this
   have h0:=h.fD (nt+i);rw[hs,R] at h0;exact h0.all rfl hI (J ⟨.slot (nt+i),[],i,[],λ_=>True⟩ (by simp[u3]))
  |mu t=>
   have hs:s.slot (nt+i)=.own true t o1:=by
    have:(match s.slot (nt+i) with|.own true Z xs=>if h:Z=t then some (jL h xs) else none|_=>none:Option (List (El t)))=some o1:=M
    cases H:s.slot (nt+i) with
    |own d Z xs=>
     rw[H] at this
     cases d with
     |false=>simp at this
     |true=>
      simp only[] at this
      split at this
      ·rename_i ht;subst ht;exact congrArg (TV.own true Z) (gA this)
      ·simp at this
    |_=>rw[H] at this;simp at this
   have h0:=h.fD (nt+i);rw[hs,R] at h0;exact h0.all rfl hI (J ⟨.slot (nt+i),[],i,[],λ_=>True⟩ (by simp[u3]))
theorem RW:∀{e:List fh}{j:List ResultVar}{x:jQ e},oQ e j s=some x->e.length=j.length
 |[],[],_,_=>rfl
 |[],_::_,_,h=>by simp[oQ] at h
 |_::_,[],_,h=>by simp[oQ] at h
 |r::e,v::j,x,h=>by
  simp only[oQ] at h;cases u:CG r (p6 s v) s with
  |none=>rw[u] at h;simp at h
  |some A=>
   cases y:oQ e j s with
   |none=>rw[u,y] at h;simp at h
   |some D=>simp[RW y]
theorem af1(hm:P.follows .mixedOrders=true){f:Nat}{u:Func}{code:Code}(hf:P.funcs[f]?=some u)(hb:u.body=some code)(am:u.ntmps=nt)(Q:u.name≠ "runtime.NumGoroutine"){c:gq}(D:Ctx c.X)(hC:fK P D.c)(hF:qG P D.c)(an:FJ P D.c nt)
  (Y:∀i,(∀p,¬ MV p (D.c.gl i))/\∀k,¬ MB k (D.c.gl i)){g0:jQ c.rs×nE c.ps->c.X}(Z:D.CC=OH D.c.ty nt u.results.toList c.ps c.rs g0)(ao:∀y,c.back (g0 y)=y)(ap:lv P D.c nt code=true)(M:sT P D nt code)(aa:rQ D.c nt 0 c.ps=true)
  (ab:c.ps.length<=nt)(aq:∀v∈u.results.toList,CM nt v=true)(au:∀a y,c.f a=some y->Gv D nt code c.ps a=some y):Enters P f/\FI P D.c.gl D.c.gb f c:=by
 refine⟨⟨u,hf,Q,by rw[hb];rfl⟩,λγ w vals hds x y hn av R hy=>?_⟩;have ad:vals.length<=nt:=by rw[S6 R];exact ab
 have ae:=aaD ad R hn av Y aa;have af:=aaE (ps:=c.ps) (γ:=γ) (hds:=hds) ad;have ah:=au x y hy;unfold Gv at ah;refine calls_of_wp hf hb ?_;rw[am];have done:∀F N I H,D.CC F=some y->Rel D.c ⟨w.heap.size,n7 c.ps nt γ,w⟩ F N H->eb nt N I->iR nt (j2 c.ps nt γ vals hds) N->
   I.defers=[]/\∃v,(results u I.tmps).run P H=.ok v H/\∃U A,Ending.returned v=.returned U/\dA (λq _=>∃n,q=.cC n) γ w A H/\qT (dQ A H) c.ps.length c.rs (c.back y).1 U/\zv (dQ A H) hds 0 c.ps (c.back y).2 vals:=by
  intro F N I H j h l kp
  refine⟨l.df,?_⟩
  rw[Z] at j
  unfold OH at j
  obtain⟨aw,j⟩:=dM.1 j
  obtain⟨j,ai⟩:=Ik j
  cases hx:oQ c.rs u.results.toList F with
  |none=>rw[hx] at j;simp at j
  |some xr=>
   cases ho:ze nt 0 c.ps F with
   |none=>rw[hx,ho] at j;simp at j
   |some ou=>
    rw[hx,ho] at j
    have ax:g0 (xr,ou)=y:=gA j
    have S:c.back y=(xr,ou):=by rw[<-ax];exact ao _
    rw[S]
    have ay:=aaF (nt:=nt) (n:=c.ps.length) (ps:=c.ps) (RW hx) aw
    have aj:=adN (C:=D.c) (cs:=Kf F nt c.ps.length c.rs u.results.toList c.ps) h.cI hn
    have ak:=λ{cl:Claim}(J:cl∈Kf F nt c.ps.length c.rs u.results.toList c.ps)=>adO (C:=D.c) h.cI hn ay J
    obtain⟨us,az,aA⟩:=S8 hC h l (n:=c.ps.length) (one:=c.rs.length==1) aj c.rs u.results.toList 0 (λcl J=>ak (eB.2 (.inl J))) aq ai hx
    refine⟨_,?_,_,_,rfl,ab0 (cs:=Kf F nt c.ps.length c.rs u.results.toList c.ps) h.cI hn,adR aA,?_⟩
    ·have e:results u I.tmps=(do let vs<-u.results.mapM (λv=>CK v I.tmps);pure (if h:vs.size=1 then vs[0] else .tuple vs)):=by
       unfold results
       congr 2
     rw[e,Array.mapM_eq_mapM_toList];simp[go_sem,az]
    ·exact Ta h aj (vals:=vals) (λi=>by rw[(kp (nt+i) (by omega)).1];exact Fm) (λi b hv=>by rw[(kp (nt+i) (by omega)).2];exact OP hv) c.ps 0 (λcl J=>ak (eB.2 (.inr J))) R (by simp) ho
 refine zh hm hC hF an code ah ap M ae af ⟨λF N I H j h l kp=>?_,λi F N I H j h l kp=>by simp at j,λF N I H j h l kp=>?_⟩
 ·obtain⟨h1,v,h2,U,A,he,h3⟩:=done F N I H j h l kp;exact⟨h1,v,h2,U,A,he,h3⟩
 ·obtain⟨h1,v,h2,U,A,he,h3⟩:=done F N I H j h l kp;exact⟨h1,v,h2,U,A,he,h3⟩
end
end
section
section
variable{P:Program}{C:Cx}{E:Env}{nt n:Nat}{o:Oper}{s A:TS}{g g1:Gs}{a:Act}{w u:World}{R:Type}{r:R}{K:TS->Option R}
theorem aaG{k:Nat}{v:TV}(h:whole v=true):gf (mU C k v)=true:=by
 cases v<;>simp_all [whole,mU,gf]<;>cases C.vs k<;>rfl
theorem Zr(hC:fK P C)(h:Rel C E s g w)(l:eb nt g a)(U:gN nt o.dst){x:Operand}(M:o.op=.assign x)(hx:fe nt x=true)
  (J:o.dst=none\/(∃d,o.dst=some d/\C.al d=true)\/((∀p t,cZ C s x≠.vw p t)/\∀p t N hi,cZ C s x≠.sl p t N hi))(F:Ev.step C o s K=some r):gx P C E nt o g a w K r (λ_=>False):=by
 have y:(∀d,o.dst=some d->C.al d=true)->gx P C E nt o g a w K r (λ_=>False):=λY=>
  (RN h l U M hx hC.gl F).mono λq⟨_,d,e,H⟩=>by rw[Y d e] at H;cases H
 cases j:o.dst with
 |none=>exact y λd e=>by rw[j] at e;cases e
 |some d=>
  cases D:C.al d with
  |true=>exact y λZ e=>by rw[j] at e;cases e;exact D
  |false=>
   have J:(∀p t,cZ C s x≠.vw p t)/\∀p t N hi,cZ C s x≠.sl p t N hi:=by
    rcases J with e|⟨Z,e,H⟩|h3
    ·rw[j] at e;cases e
    ·rw[j] at e;cases e;rw[D] at H;cases H
    ·exact h3
   have I:(execOp a.eval o).run P w=.ok (.value (a.eval x)) w:=by simp[execOp,M]
   have Q:=iF h l hx;have S:=Ic (s:=s) hC.gl (x:=x);simp only[Ev.step,M] at F;generalize cZ C s x=v at*;clear y;cases v<;>simp only[j,D,cN,cv] at F<;>first
    |exact absurd rfl (J.1 _ _)
    |exact absurd rfl (J.2 _ _ _ _)
    |exact j8 h l U Q rfl I (by rw[j];exact F)
    |(exfalso;rcases S with⟨_,e⟩|⟨_,e⟩|e<;>first|(simp at e;done)|(simp[gf] at e;done))
    |(simp at F;done)
    |skip
theorem adS(hC:fK P C)(h:Rel C E s g w)(l:eb nt g a)(Z:nS P C nt o=true)(F:nV C s o=true)(ad:nw s o=[])(I:Ev.step C o s K=some r):gx P C E nt o g a w K r (λ_=>False):=by
 obtain⟨M,hx⟩:=uh Z;have S:=Z;simp only[nS,du] at S;have H:=S.2;simp only[nV] at F;cases D:o.op with
 |move x=>
  have N:=hx x (by simp[D,Op.operands]);rw[D] at F;have ae:ir s x=s->gf (cZ C s x)=true->gx P C E nt o g a w K r (λ_=>False):=λe1 U=>by
   simp only[Ev.step,D,e1] at I
   exact j8 h l M (iF h l N) U (by simp[execOp,D]) I
  cases x with
  |tmp k=>exact ae (Ra F) (aaG F)
  |const v=>
   refine(Jx hC h l M D N I).mono λq⟨k,e,_⟩=>by cases e
  |global i=>exact(Jx hC h l M D N I).mono λq⟨k,e,_⟩=>by cases e
  |func i=>exact(Jx hC h l M D N I).mono λq⟨k,e,_⟩=>by cases e
 |assign x=>
  have N:=hx x (by simp[D,Op.operands]);refine Zr hC h l M D N ?_ I;rw[D] at F;cases x with
  |tmp k=>
   simp only[] at F;cases aa:o.dst with
   |none=>exact .inl rfl
   |some d=>
    refine .inr ?_;cases ab:C.al d with
    |true=>exact .inl ⟨d,rfl,ab⟩
    |false=>
     refine .inr ?_;simp only[aa,ab] at F;simp only[cZ];generalize s.slot k=v at F;cases v<;>first
      |(simp at F;done)
      |(exact⟨λp t=>by simp[mU],λp t lo hi=>by simp[mU]⟩)
  |const v=>
   refine .inr (.inr ⟨λp t e=>?_,λp t lo hi e=>?_⟩)
   ·obtain⟨k,U,_⟩:=uG (C:=C) (s:=s) (λi=>(h.kM i).1) (p:=p) (x:=.const v) (by rw[e];exact .vw _);cases U
   ·obtain⟨k,U,_⟩:=uG (C:=C) (s:=s) (λi=>(h.kM i).1) (p:=p) (x:=.const v) (by rw[e];exact .sl _ _ _);cases U
  |global i=>
   refine .inr (.inr ⟨λp t e=>?_,λp t lo hi e=>?_⟩)
   ·exact(h.kM i).1 p (by simp only[cZ] at e;rw[e];exact .vw _)
   ·exact(h.kM i).1 p (by simp only[cZ] at e;rw[e];exact .sl _ _ _)
  |func i=>exact .inr (.inr ⟨λp t e=>by simp[cZ] at e,λp t lo hi e=>by simp[cZ] at e⟩)
 |load t x=>exact Um hC h l M D (hx x (by simp[D,Op.operands])) I
 |nilCheck x=>exact QE h l M D (hx x (by simp[D,Op.operands])) I
 |binOp op t x y t'=>
  rw[D] at H;exact SK hC h l M D (hx x (by simp[D,Op.operands])) (hx y (by simp[D,Op.operands])) H I
 |unOp op t x=>exact Uk h l M D (hx x (by simp[D,Op.operands])) I
 |makeInterface t x=>
  rw[D] at H;exact Qr hC h l M D I (λhb=>by simp[hb] at H)
 |makeFunc f first af=>
  cases f with
  |func fi=>
   rw[D] at H;have hf:first=#[]:=by simpa using H
   exact QF h l M D hf (λz hz=>hx z (by simp only[D,Op.operands,G1];exact eB.2 (.inr hz))) I
  |_=>simp[Ev.step,D] at I
 |slice t x lo hi mx=>
  have hb:∀z:Option Operand,(∀y,z=some y->y∈o.op.operands.toList)->CJ nt z=true:=λz hz=>by
   cases z with
   |none=>rfl
   |some y=>exact hx y (hz y rfl)
  exact SO hC h l M D (hx x (by simp[D,Op.operands])) (hb lo λy hy=>by simp[D,Op.operands,hy]) (hb hi λy hy=>by simp[D,Op.operands,hy]) (hb mx λy hy=>by simp[D,Op.operands,hy]) I
 |fieldAddr t x j=>exact Qv hC h l M D (hx x (by simp[D,Op.operands])) I
 |indexAddr t x i=>exact Qw hC h l M D (hx x (by simp[D,Op.operands])) (hx i (by simp[D,Op.operands])) I
 |index t x i=>exact SL hC h l M D (hx x (by simp[D,Op.operands])) (hx i (by simp[D,Op.operands])) I
 |extract x i=>
  rw[D] at F;cases x with
  |tmp k=>
   refine(Q4 h l M D (hx _ (by simp[D,Op.operands])) I).mono λq⟨_,vs,e1,U⟩=>?_;simp only[e1,U] at F;simp at F
  |_=>simp[Ev.step,D] at I
 |call c=>
  obtain⟨Q,args,Y⟩:=c;rw[D] at F;cases Q with
  |value f=>simp at F
  |invoke f m=>simp at F
  |builtin b=>
   rw[D] at H;have J:∀x∈args.toList,fe nt x=true:=λx N=>hx x (by simp[D,Op.operands,Call.operands];simpa using N);obtain⟨args⟩:=args;obtain⟨Y⟩:=Y;cases b with
   |len=>
    match args,Y,D,H,J with
    |[x],t::ts,D,H,J=>exact Vz hC h l M D (J x (by simp)) I
    |[],_,D,H,_=>simp at H
    |_::_::_,_,D,H,_=>simp at H
    |[_],[],D,H,_=>simp[Ev.step,D] at I
   |append=>simp only[ad,Wc] at F;cases F
   |min=>
    match args,D,H,J with
    |[x,y],D,H,J=>exact Vx h l M D (J x (by simp)) (J y (by simp)) I
    |[],D,H,_=>simp at H
    |[_],D,H,_=>simp at H
    |_::_::_::_,D,H,_=>simp at H
   |max=>
    match args,D,H,J with
    |[x,y],D,H,J=>exact Vy h l M D (J x (by simp)) (J y (by simp)) I
    |[],D,H,_=>simp at H
    |[_],D,H,_=>simp at H
    |_::_::_::_,D,H,_=>simp at H
   |_=>simp at F
 |_=>rw[D] at F;simp at F
end
end
section
section
variable{α:Type}
def eV:Tr α->Nat->Bool
 |.lf,_=>false
 |.nd l _ r,n=>if n=0 then true else if n % 2=1 then eV l (n/2) else eV r (n/2-1)
theorem yY(v:α):∀(t:Tr α)(i:Nat),eV (t.set i v)=eV t
 |.lf,_=>rfl
 |.nd l x r,i=>by
  rw[Eg];funext n;split
  ·rfl
  ·split
   ·simp only[eV,yY v l]
   ·simp only[eV,yY v r]
theorem wE(f:α->α):∀(t:Tr α),eV (t.map f)=eV t
 |.lf=>rfl
 |.nd l x r=>by
  funext n;simp only[Tr.map,eV,wE f l,wE f r]
theorem Nw(z:α):∀(n i:Nat),i+1<2^n->eV (Tr.full z n) i=true
 |0,i,h=>by simp at h
 |n+1,i,h=>by
  simp only[Tr.full,eV];split
  ·rfl
  ·rw[tZ] at h;split
   ·exact Nw z n _ (by omega)
   ·exact Nw z n _ (by omega)
theorem sU(z:α):∀(t:Tr α)(i:Nat),eV t i=false->t.get z i=z
 |.lf,_,_=>rfl
 |.nd l x r,i,h=>by
  rw[ml];simp only[eV] at h;split at h
  ·simp at h
  ·rename_i e;rw[cK e];split at h
   ·rename_i a;rw[cJ a];exact sU z l _ h
   ·rename_i a;rw[cK a];exact sU z r _ h
theorem DS(z v:α):∀(t:Tr α)(i:Nat),eV t i=true->(t.set i v).get z i=v
 |.lf,_,h=>by simp[eV] at h
 |.nd l x r,i,h=>by
  simp only[eV] at h;rw[Eg];split at h
  ·rename_i a;rw[cJ a,ml,cJ a]
  ·rename_i a;rw[cK a];split at h
   ·rename_i e;rw[cJ e,ml,cK a,cJ e];exact DS z v l _ h
   ·rename_i e;rw[cK e,ml,cK a,cK e];exact DS z v r _ h
theorem Eo(f:Nat->α)(t:Tr α):∀(l:List Nat),eV (l.foldr (λk t=>t.set k (f k)) t)=eV t
 |[]=>rfl
 |k::l=>by simp only[G4];rw[yY,Eo f t l]
theorem yE(z:α)(f:Nat->α)(t:Tr α)(j:Nat):∀(l:List Nat),(l.foldr (λk t=>t.set k (f k)) t).get z j=if fJ j l=true/\eV t j=true then f j else t.get z j
 |[]=>by simp[fJ]
 |k::l=>by
  simp only[G4]
  by_cases a:k=j
  ·subst a
   by_cases e:eV t k=true
   ·rw[DS _ _ _ _ (by rw[Eo];exact e),cJ ⟨by simp[fJ],e⟩]
   ·rw[sU _ _ _ (by rw[yY,Eo];simpa using e),cK (λh=>e h.2),sU _ _ _ (by simpa using e)]
  ·rw[vA _ _ _ _ _ a,yE z f t j l];have:fJ j (k::l)=fJ j l:=by
    simp only[fJ]
    cases u:Nat.beq j k with
    |true=>exact absurd (gw u).symm a
    |false=>rfl
   rw[this]
end
def kA(I O:TV->Bool):TV->TV
 |.agg a=>.agg (a.map λc=>if I c=true then .un else c)
 |v=>if O v=true then .un else v
theorem td{I O:TV->Bool}{v:TV}(h:∀a,v≠.agg a):kA I O v=if O v=true then .un else v:=by
 cases v<;>first|rfl|exact absurd rfl (h _)
theorem wW(I O j u:TV->Bool)(v:TV):kA I O (kA j u v)=kA (λv=>I v||j v) (λv=>O v||u v) v:=by
 by_cases a:∃cs,v=.agg cs
 ·obtain⟨cs,rfl⟩:=a;simp only[kA,Dc,TV.agg.injEq];refine xK λc _=>?_;simp only[P6]
  by_cases x:j c=true<;>simp[x]
 ·have a:∀cs,v≠.agg cs:=λcs e=>a ⟨cs,e⟩;rw[td a,td a];cases x:u v with
  |true=>simp only[gr,Bool.or_true];simp[kA]
  |false=>simp only[iN,iD,G5];exact td a
theorem BK{I O a e:TV->Bool}(j:∀v,I v=a v)(u:∀v,O v=e v)(v:TV):kA I O v=kA a e v:=by
 rw[funext j,funext u]
theorem adT(I O a e:TV->Bool)(v:TV):kA I O (kA a e v)=kA a e (kA I O v):=by
 rw[wW,wW];exact BK (λv=>Bool.or_comm _ _) (λv=>Bool.or_comm _ _) v
theorem KL(I O:TV->Bool):kA I O .un=.un:=by simp[kA]
theorem FN{I O:TV->Bool}{v:TV}(h:∀cs,v=.agg cs->∀c∈cs,I c=false)(j:(∀cs,v≠.agg cs)->O v=false):kA I O v=v:=by
 by_cases a:∃cs,v=.agg cs
 ·obtain⟨cs,rfl⟩:=a;simp only[kA,TV.agg.injEq]
  conv=>rhs;rw[<-P7 cs]
  refine xK λc u=>?_;rw[h cs rfl c u];simp
 ·have a:∀cs,v≠.agg cs:=λcs e=>a ⟨cs,e⟩;rw[td a,j a];simp
def kn:TV->Bool|.agg a=>CT a|v=>xo v
theorem UJ:∀{u:List TV},CT u=true->∀c∈u,c≠.un
 |[],_,c,a=>by simp at a
 |v::x,h,c,a=>by
  simp only[CT] at h;cases j:xo v with
  |false=>rw[j] at h;simp at h
  |true=>
   rw[j,cL] at h;rcases eo.1 a with rfl|a
   ·intro e;subst e;simp[xo] at j
   ·exact UJ h c a
theorem UK:∀{x:List TV},xp x=true->∀c∈x,kn c=true
 |[],_,c,j=>by simp at j
 |v::C,h,c,j=>by
  have u:kn v=true/\xp C=true:=by
   unfold xp at h
   split at h
   ·rename_i a;simp at a
   ·rename_i x y a;simp only[lF] at a;obtain⟨rfl,rfl⟩:=a;cases j:CT x with
    |false=>rw[j] at h;simp at h
    |true=>rw[j] at h;exact⟨j,h⟩
   ·rename_i D y A a;simp only[lF] at a;obtain⟨rfl,rfl⟩:=a;have e:kn v=xo v:=by cases v<;>first|rfl|exact absurd rfl (A _)
    rw[e];cases j:xo v with
    |false=>rw[j] at h;simp at h
    |true=>rw[j] at h;exact⟨rfl,h⟩
  rcases eo.1 j with rfl|j
  ·exact u.1
  ·exact UK u.2 c j
theorem af2{I O:TV->Bool}{v u:TV}(h:kA I O v=u)(j:kn u=true):v=u:=by
 by_cases a:∃cs,v=.agg cs
 ·obtain⟨cs,rfl⟩:=a;simp only[kA] at h;subst h;have:=UJ j
  congr 1
  conv=>lhs;rw[<-P7 cs]
  refine xK λc y=>?_
  by_cases x:I c=true
  ·exact absurd rfl (this .un (gR.2 ⟨c,y,by simp[x]⟩))
  ·simp[x]
 ·have a:∀cs,v≠.agg cs:=λcs e=>a ⟨cs,e⟩;rw[td a] at h;split at h
  ·subst h;simp[kn,xo] at j
  ·exact h
def fF(a:Pl->Bool):TV->Bool|.vw p _=>a p|.pa p _ _=>a p|.sl p _ _ _=>a p|.ep p _ _ _=>a p|_=>false
def mC(d:Nat):TV->Bool|.ptr k _=>Nat.beq k d|.pe k _=>Nat.beq k d|.fn _ a=>nn d a|_=>false
def ld(a:Pl->Bool):TV->Bool|.pa p _ _=>a p|_=>false
theorem Oc{α:Type}(b:Bool)(x y:α):(bif b then x else y)=if b=true then x else y:=by cases b<;>rfl
theorem Tb(a:Pl->Bool)(v:TV):j9 a v=if fF a v=true then .un else v:=by
 cases v<;>simp only[j9,fF,Oc]<;>first|rfl|simp
theorem JE(j:Pl->Bool)(v:TV):Ev.kill j v=kA (fF j) (fF j) v:=by
 by_cases a:∃cs,v=.agg cs
 ·obtain⟨cs,rfl⟩:=a;simp only[Ev.kill,kA,TV.agg.injEq];exact xK λc _=>Tb j c
 ·have a:∀cs,v≠.agg cs:=λcs e=>a ⟨cs,e⟩;rw[td a,<-Tb];cases v<;>first|rfl|exact absurd rfl (a _)
theorem ab1(d:Nat)(v:TV):Ev.fS d v=kA (λ_=>false) (mC d) v:=by
 cases v<;>simp only[Ev.fS,kA,mC,Oc]<;>first|rfl|simp
theorem Tc(a:Pl->Bool)(v:TV):Ev.qB a v=kA (λ_=>false) (ld a) v:=by
 cases v<;>simp only[Ev.qB,kA,ld,Oc]<;>first|rfl|simp
def kb(f w:Acc)(n:List Nat)(p:Pl):Bool:=o6 f w p||p.iB ⟨[],n⟩
def mc(f w:Acc)(n:List Nat)(v:TV):Bool:=fF (kb f w n) v
def kN(f w:Acc)(n:List Nat)(a:List Pl)(v:TV):Bool:=fF (kb f w n) v||n.any (λd=>mC d v)||ld (rT a) v
def kl(f w:Acc)(n:List Nat)(a:List Pl):TV->TV:=kA (mc f w n) (kN f w n a)
theorem Nx:∀(p:Pl)(d:Nat)(n:List Nat),p.iB ⟨[],d::n⟩=(p.gK d||p.iB ⟨[],n⟩)
 |.slot k,d,n=>by simp[Pl.iB,Pl.gK,fJ]
 |.cell k c,d,n=>by
  simp only[Pl.iB,Pl.gK,fJ];cases h:Nat.beq k d with
  |true=>have:=gw h;subst this;simp
  |false=>
   have:Nat.beq d k=false:=by
    cases a:Nat.beq d k with
    |false=>rfl
    |true=>have:=gw a;subst this;rw[h] at a;cases a
   rw[this];rfl
 |.sub p t r c,d,n=>by simp only[Pl.iB,Pl.gK];exact Nx p d n
theorem UL:∀(p:Pl),p.iB ⟨[],[]⟩=false
 |.slot k=>rfl
 |.cell k c=>rfl
 |.sub p t r c=>by simp only[Pl.iB];exact UL p
theorem VL(a b:Pl->Bool)(v:TV):(fF a v||fF b v)=fF (λp=>a p||b p) v:=by cases v<;>rfl
theorem RX(f w:Acc):kb f w []=o6 f w:=by
 funext p;simp only[kb,UL,G5]
theorem Re(f w:Acc)(s:TS)(k:Nat):∀(n:List Nat),(qF f w n s).slot k=kA (mc f w n) (kN f w n []) (s.slot k)
 |[]=>by
  simp only[qF,List.foldr_nil];rw[qv,JE];refine BK (λv=>?_) (λv=>?_) _
  ·simp only[mc,RX]
  ·have:ld (rT []) v=false:=by cases v<;>rfl
   simp only[kN,RX,G5,List.any_nil,this]
 |d::n=>by
  have a:=Re f w s k n;simp only[qF,G4] at a⊢;rw[A9,a,JE,ab1,wW,wW];refine BK (λv=>?_) (λv=>?_) _
  ·simp only[mc,YL];rw[VL];cases v<;>simp only[fF]<;>first|rfl|(simp only[kb,Nx];cases Pl.gK d _<;>simp)
  ·have:ld (rT []) v=false:=by cases v<;>rfl
   simp only[kN,List.any_cons,this,G5];have e:fF (kb f w (d::n)) v=(fF (Pl.gK d) v||fF (kb f w n) v):=by
    rw[VL]
    cases v<;>simp only[fF]<;>first|rfl|(simp only[kb,Nx];cases Pl.gK d _<;>simp)
   rw[e];cases mC d v<;>cases fF (Pl.gK d) v<;>cases fF (kb f w n) v<;>cases n.any (λd=>mC d v)<;>rfl
theorem Ep(f w:Acc)(s:TS):∀(n:List Nat),(qF f w n s).h=s.h
 |[]=>rfl
 |d::n=>by have:=Ep f w s n;simp only[qF,G4] at this⊢;exact this
theorem Td(q:Pl)(a:List Pl)(v:TV):ld (rT (q::a)) v=(ld q.ji v||ld (rT a) v):=by
 cases v<;>simp only[ld]<;>first|rfl|(simp only[rT];cases Pl.ji q _<;>rfl)
theorem Hs(s:TS)(k:Nat){f w:Acc}{n:List Nat}:∀(a:List Pl),(s5 a (qF f w n s)).slot k=kl f w n a (s.slot k)
 |[]=>Re f w s k n
 |p::a=>by
  have e:=Hs s k (f:=f) (w:=w) (n:=n) a;simp only[s5];rw[yv,e,Tc];simp only[kl];rw[wW];refine BK (λv=>rfl) (λv=>?_) _;simp only[kN,Td];cases ld p.ji v<;>cases fF (kb f w n) v<;>cases n.any (λd=>mC d v)<;>simp
theorem DT(s:TS):∀(a:List Pl),(s5 a s).h=s.h
 |[]=>rfl
 |p::a=>by simp only[s5];exact DT s a
theorem RY{d:Nat}:∀{a:List TV},nn d a=true↔d∈a.flatMap mQ
 |[]=>by simp[nn]
 |v::a=>by
  simp only[nn,List.flatMap_cons,eB];have e:ptrTo d v=true↔d∈mQ v:=by
   cases v<;>simp[ptrTo,mQ]<;>exact eq_comm
  cases h:ptrTo d v with
  |true=>simp[e.1 h]
  |false=>
   rw[h] at e;simp only[cN];rw[RY];constructor
   ·exact .inr
   ·rintro(h|h)
    ·exact absurd (e.2 h) (by simp)
    ·exact h
theorem Rf{f w:Acc}{n:List Nat}{x:List Pl}{v:TV}(h:pU f w n x v=true):mc f w n v=false/\kN f w n x v=false:=by
 have y:∀p:Pl,(bif o6 f w p then false else bif p.iB ⟨[],n⟩ then false else true)=true->kb f w n p=false:=λp h=>by
  simp only[kb]
  cases e:o6 f w p<;>cases j:p.iB ⟨[],n⟩<;>simp[e,j] at h⊢
 have D:∀k,(bif fJ k n then false else true)=true->n.any (λd=>Nat.beq k d)=false:=λk h=>by
  cases u:fJ k n with
  |true=>rw[u] at h;simp at h
  |false=>
   rw[YM]
   intro d A C
   have:=gw C
   subst this
   rw[jX.2 A] at u
   cases u
 cases v with
 |vw p t=>simp only[pU] at h;simp[mc,kN,fF,mC,ld,y p h]
 |pa p t H=>
  simp only[pU] at h;have e:kb f w n p=false:=y p (by
   cases e:o6 f w p<;>cases j:p.iB ⟨[],n⟩<;>simp[e,j] at h⊢);have j:rT x p=false:=by
   cases e:o6 f w p<;>cases j:p.iB ⟨[],n⟩<;>cases E:rT x p<;>simp[e,j,E] at h⊢
  simp[mc,kN,fF,mC,ld,e,j]
 |sl p t a b=>simp only[pU] at h;simp[mc,kN,fF,mC,ld,y p h]
 |ep p t a b=>simp only[pU] at h;simp[mc,kN,fF,mC,ld,y p h]
 |ptr k c=>simp only[pU] at h;have:=D k h;simp[mc,kN,fF,mC,ld] at this⊢;exact this
 |pe k c=>simp only[pU] at h;have:=D k h;simp[mc,kN,fF,mC,ld] at this⊢;exact this
 |fn g F=>
  simp only[pU] at h;refine⟨rfl,?_⟩;simp only[kN,fF,ld,YL,G5];rw[YM];intro d A C;have u:meets n (F.flatMap mQ)=true:=by
   simp only[meets,List.any_eq_true]
   exact⟨d,A,d,RY.1 (by simpa[mC] using C),by simp⟩
  rw[u] at h;simp at h
 |_=>simp[mc,kN,fF,mC,ld]
theorem RZ{f w:Acc}{n:List Nat}{e:List Pl}:∀{j:List TV},FX f w n e j=true->∀v∈j,pU f w n e v=true
 |[],_,v,a=>by simp at a
 |u::j,h,v,a=>by
  simp only[FX] at h;cases x:pU f w n e u with
  |false=>rw[x] at h;simp at h
  |true=>
   rw[x,cL] at h;rcases eo.1 a with rfl|a
   ·exact x
   ·exact RZ h v a
theorem MQ{f w:Acc}{n:List Nat}{y:List Pl}:∀{E:List TV},oO f w n y E=true->∀v∈E,kl f w n y v=v
 |[],_,v,A=>by simp at A
 |u::E,h,v,A=>by
  have C:kl f w n y u=u/\oO f w n y E=true:=by
   unfold oO at h
   split at h
   ·rename_i a;simp at a
   ·rename_i H F a;simp only[lF] at a;obtain⟨rfl,rfl⟩:=a;cases j:FX f w n y H with
    |false=>rw[j] at h;simp at h
    |true=>
     rw[j] at h;refine⟨FN (λD e c I=>?_) (λx=>absurd rfl (x _)),h⟩;cases e;exact(Rf (RZ j c I)).1
   ·rename_i J F x a;simp only[lF] at a;obtain⟨rfl,rfl⟩:=a;cases j:pU f w n y u with
    |false=>rw[j] at h;simp at h
    |true=>
     rw[j] at h;exact⟨FN (λD e=>absurd e (x D)) (λ_=>(Rf j).2),h⟩
  rcases eo.1 A with rfl|A
  ·exact C.1
  ·exact MQ C.2 v A
abbrev FS:=(Nat->TV)×(Nat->BC)
def fs(s:TS):FS:=(s.slot,s.box)
structure Rec where
 W:Nat->Bool
 B:Nat->Bool
 kl:TV->TV
 o:Nat->TV
 ob:Nat->BC
def Rec.app(ρ:Rec)(S:FS):FS:=(λk=>if ρ.W k=true then ρ.o k else ρ.kl (S.1 k),λk=>if ρ.B k=true then ρ.ob k else S.2 k)
structure Comm(ρ σ:Rec):Prop where
 W:∀k,ρ.W k=true->σ.W k=true->False
 B:∀k,ρ.B k=true->σ.B k=true->False
 o:∀k,ρ.W k=true->σ.kl (ρ.o k)=ρ.o k
 o':∀k,σ.W k=true->ρ.kl (σ.o k)=σ.o k
 kl:∀v,ρ.kl (σ.kl v)=σ.kl (ρ.kl v)
theorem Comm.app{ρ j:Rec}(h:Comm ρ j)(S:FS):ρ.app (j.app S)=j.app (ρ.app S):=by
 refine C9 (funext λk=>?_) (funext λk=>?_)
 ·simp only[Rec.app]
  by_cases a:ρ.W k=true<;>by_cases e:j.W k=true
  ·exact(h.W k a e).elim
  ·simp only[a,e,gr,iD,iN];exact(h.o k a).symm
  ·simp only[a,e,gr,iD,iN];exact h.o' k e
  ·simp only[a,e,iD,iN];exact h.kl _
 ·simp only[Rec.app]
  by_cases a:ρ.B k=true<;>by_cases e:j.B k=true
  ·exact(h.B k a e).elim
  ·simp only[a,e,gr,iD,iN]
  ·simp only[a,e,gr,iD,iN]
  ·simp only[a,e,iD,iN]
def run(a:Nat->Rec):Nat->(Nat->Bool)->FS->FS
 |0,_,S=>S
 |n+1,A,S=>if A n=true then(a n).app (run a n A S) else run a n A S
theorem vY{a:Nat->Rec}{A A':Nat->Bool}{S:FS}:∀{n:Nat},(∀k,k<n->A k=A' k)->run a n A S=run a n A' S
 |0,_=>rfl
 |n+1,h=>by
  simp only[run];rw[h n (by omega),vY (n:=n) λk e=>h k (by omega)]
theorem Ny{a:Nat->Rec}{A:Nat->Bool}{S:FS}{m:Nat}:∀{n:Nat},m<=n->(∀k,m<=k->k<n->A k=false)->run a n A S=run a m A S
 |0,h,_=>by rw[Nat.le_zero.1 h]
 |n+1,h,e=>by
  by_cases j:m=n+1
  ·rw[j]
  ·simp only[run];rw[e n (by omega) (by omega)];simp only[iN,iD];exact Ny (by omega) λk u x=>e k u (by omega)
def xg(A:Nat->Bool)(i:Nat):Nat->Bool:=λk=>if k=i then true else A k
theorem Od{ρ:Nat->Rec}{A:Nat->Bool}{S:FS}{i:Nat}(u:A i=false):∀{n:Nat},i<n->(∀j,i<j->j<n->A j=true->Comm (ρ i) (ρ j))->(ρ i).app (run ρ n A S)=run ρ n (xg A i) S
 |0,h,_=>by omega
 |n+1,h,x=>by
  by_cases y:n=i
  ·subst y;simp only[run];rw[u];simp only[iN,iD,xg,gr]
   congr 1
   exact vY λk F=>by simp only[xg];rw[cK (by omega)]
  ·have C:=Od (ρ:=ρ) (S:=S) u (n:=n) (by omega) λj D H E=>x j D (by omega) E;simp only[run];have e:xg A i n=A n:=by simp only[xg];rw[cK y]
   rw[e]
   by_cases a:A n=true
   ·rw[cJ a,cJ a,(x n (by omega) (by omega) a).app,C]
   ·rw[cK a,cK a,C]
structure ql(R:Acc)(S T:FS):Prop where
 sl:∀k∈R.sl,S.1 k=T.1 k
 bx:∀k∈R.bx,S.2 k=T.2 k
structure tL(ρ:Rec)(R:Acc)(T:FS):Prop where
 sl:∀k∈R.sl,ρ.W k=true->False
 bx:∀k∈R.bx,ρ.B k=true->False
 kl:∀k∈R.sl,ρ.kl (T.1 k)=T.1 k
 kn:∀k∈R.sl,∀v,ρ.kl v=T.1 k->v=T.1 k
theorem tL.iff{ρ:Rec}{R:Acc}{T S:FS}(h:tL ρ R T):ql R (ρ.app S) T↔ql R S T:=by
 constructor
 ·intro k;refine⟨λj a=>?_,λj a=>?_⟩
  ·have:=k.sl j a;simp only[Rec.app] at this;rw[cK (λe=>h.sl j a e)] at this;exact h.kn j a _ this
  ·have:=k.bx j a;simp only[Rec.app] at this;rwa[cK (λe=>h.bx j a e)] at this
 ·intro k;refine⟨λj a=>?_,λj a=>?_⟩
  ·simp only[Rec.app];rw[cK (λe=>h.sl j a e),k.sl j a,h.kl j a]
  ·simp only[Rec.app];rw[cK (λe=>h.bx j a e),k.bx j a]
theorem Te{a:Nat->Rec}{A Q:Nat->Bool}{S T:FS}{R:Acc}{n:Nat}(F:∀k,Q k=true->A k=true)
  (H:∀k,k<n->A k=true->Q k=false->tL (a k) R T/\∀j,k<j->j<n->Q j=true->Comm (a k) (a j)):ql R (run a n A S) T↔ql R (run a n Q S) T:=by
 have C:∀m,m<=n->(ql R (run a n (λk=>Q k||(decide (k<m)&&A k)) S) T↔ql R (run a n Q S) T):=by
  intro m
  induction m with
  |zero=>
   intro _
   rw[vY (A':=Q) λk _=>by simp]
  |succ m I=>
   intro U
   rw[<-I (by omega)]
   by_cases x:A m=true/\Q m=false
   ·obtain⟨J,M⟩:=H m (by omega) x.1 x.2;have e:run a n (λk=>Q k||(decide (k<m+1)&&A k)) S=(a m).app (run a n (λk=>Q k||(decide (k<m)&&A k)) S):=by
     rw[Od (by simp[x.2]) (by omega) (λj N D y=>M j N D (by
      simp only[xL,du,dF] at y
      rcases y with y|y
      ·exact y
      ·omega))]
     refine vY λk _=>?_
     simp only[xg]
     by_cases u:k=m
     ·subst u;rw[cJ rfl];simp[x.1]
     ·rw[cK u];have:decide (k<m+1)=decide (k<m):=by
       apply G6.2
       simp only[dF]
       omega
      rw[this]
    rw[e];exact J.iff
   ·rw[vY (A':=λk=>Q k||(decide (k<m)&&A k))];intro k _
    by_cases u:k=m
    ·subst u;cases E:Q k with
     |true=>rfl
     |false=>
      cases P:A k with
      |true=>exact absurd ⟨P,E⟩ x
      |false=>simp
    ·have:decide (k<m+1)=decide (k<m):=by
       apply G6.2
       simp only[dF]
       omega
     rw[this]
 have:=C n (hY n);rw[<-this,vY (A':=λk=>Q k||(decide (k<n)&&A k))];intro k u;have:decide (k<n)=true:=by simpa using u
 rw[this];cases E:Q k with
 |true=>simp[F k E]
 |false=>simp
end
section
def oT(e j:Nat->Bool)(w f:Acc)(n:List Nat)(ps:List Pl)(out:TS):Rec:=⟨λk=>fJ k w.sl&&e k,λk=>fJ k w.bx&&j k,kl f w n ps,out.slot,out.box⟩
theorem MR(f w:Acc)(s:TS):∀(n:List Nat),eV (qF f w n s).t=eV s.t
 |[]=>wE _ _
 |d::n=>by
  have:=MR f w s n;simp only[qF,G4] at this⊢;rw[<-this];exact wE _ _
theorem Mt(s:TS):∀(ps:List Pl),eV (s5 ps s).t=eV s.t
 |[]=>rfl
 |p::ps=>by
  rw[<-Mt s ps];exact wE _ _
section
variable(w f:Acc)(n:List Nat)(ps:List Pl)(out s:TS)
theorem VM:eV (jO w f n ps out s).t=eV s.t:=by
 simp only[jO,merge];rw[Eo,Mt,MR]
theorem VN:eV (jO w f n ps out s).h=eV s.h:=by
 simp only[jO,merge];rw[Eo,DT,Ep]
theorem Fo:fs (jO w f n ps out s)=(oT (eV s.t) (eV s.h) w f n ps out).app (fs s):=by
 refine C9 (funext λk=>?_) (funext λk=>?_)
 ·simp only[fs,Rec.app,oT,TS.slot,jO,merge];rw[yE,Mt,MR];have:=Hs (f:=f) (w:=w) (n:=n) s k ps;simp only[TS.slot] at this;rw[this];simp only[du]
 ·simp only[fs,Rec.app,oT,TS.box,jO,merge];rw[yE,DT,Ep];simp only[du]
end
theorem ae3{on:Pl->Bool}{v:TV}{p:Pl}(h:MV p v)(e:∀j,v≠.agg j):fF on v=on p:=by
 cases h<;>first|rfl|exact absurd rfl (e _)
section
variable{f w:Acc}{n:List Nat}{ps:List Pl}{v:TV}{p:Pl}{k:Nat}
theorem Wo(h:MV p (kl f w n ps v)):MV p v/\kb f w n p=false:=by
 by_cases j:∃cs,v=.agg cs
 ·obtain⟨cs,rfl⟩:=j;simp only[kl,kA] at h;cases h with
  |agg _ t y=>
   obtain⟨c,A,x⟩:=gR.1 y;split at x
   ·cases x
   ·rename_i u;subst x;exact⟨.agg _ _ A,by simpa[mc,fF] using u⟩
 ·have j:∀cs,v≠.agg cs:=λcs e=>j ⟨cs,e⟩;simp only[kl] at h;rw[td j] at h;split at h
  ·cases h
  ·rename_i u;refine⟨h,?_⟩;have:=ae3 (on:=kb f w n) h j;rw[<-this];simp only[kN,xL,Da,pH] at u;exact u.1.1
theorem af3(h:MB k (kl f w n ps v)):MB k v/\k∉n:=by
 by_cases u:∃cs,v=.agg cs
 ·obtain⟨cs,rfl⟩:=u;simp only[kl,kA] at h;cases h
 ·have u:∀cs,v≠.agg cs:=λcs e=>u ⟨cs,e⟩;simp only[kl] at h;rw[td u] at h;split at h
  ·cases h
  ·rename_i x;refine⟨h,λy=>?_⟩;simp only[kN,xL,Da,pH] at x;have:=YM.1 x.1.2 k y;cases h with
   |ptr j=>simp[mC] at this
   |pe j=>simp[mC] at this
   |fn g cs j A=>
    simp only[mC,pH] at this;exact ME this j A
theorem af4(h:MP p (kl f w n ps v)):MP p v:=by
 by_cases j:∃cs,v=.agg cs
 ·obtain⟨cs,rfl⟩:=j;simp only[kl,kA] at h;cases h
 ·have j:∀cs,v≠.agg cs:=λcs e=>j ⟨cs,e⟩;simp only[kl] at h;rw[td j] at h;split at h
  ·cases h
  ·exact h
end
theorem Rd.kA{c:Rc}{m:Option Gp}{x:TV}{v:Value}(h:Rd c m x v)(I O:TV->Bool):Rd c m (Sd.kA I O x) v:=by
 by_cases u:∃cs,x=.agg cs
 ·obtain⟨cs,rfl⟩:=u;cases h with
  |agg _ _ vs F H J M=>
   refine .agg _ _ _ (λx A=>?_) (by simpa using H) (λj x v D u=>?_) (λj x v D u=>?_)
   ·simp only[gR] at A;obtain⟨a,y,rfl⟩:=A;split
    ·rfl
    ·exact F a y
   all_goals
    rw[hV] at D;cases y:cs[j]? with
    |none=>simp[y] at D
    |some a=>
     simp only[y,jc,cW] at D;subst D
     first
      |exact J j a v y u
      |(split
        ·exact .un _ _
        ·exact M j a v y u)
 ·have u:∀cs,x≠.agg cs:=λcs e=>u ⟨cs,e⟩;rw[td u];split
  ·exact .un _ _
  ·exact h
theorem yZ{a:Acc}:∀{p:Pl},p.iB a=true↔(∃k,(gp p).1=.slot k/\k∈a.sl)\/∃k,(gp p).1=.box k/\k∈a.bx
 |.slot k=>by simp[Pl.iB,gp,jX]
 |.cell k c=>by simp[Pl.iB,gp,jX]
 |.sub p t r c=>by simp only[Pl.iB,gp];exact yZ
theorem I6:∀(p:Pl),(∀k,(gp p).1=.slot k->k∈p.root.sl)/\∀k,(gp p).1=.box k->k∈p.root.bx
 |.slot k=>by simp[Pl.root,gp]
 |.cell k c=>by simp[Pl.root,gp]
 |.sub p t r c=>by simp only[Pl.root,gp];exact I6 p
theorem aaH{v:TV}{p:Pl}(h:MV p v)(e:∀j,v≠.agg j):KB v=p.root:=by
 cases h<;>first|rfl|exact absurd rfl (e _)
theorem Il{p:Pl}{t:Ty}:∀{j:List TV},TV.vw p t∈j->(∀k∈p.root.sl,k∈(FW j).sl)/\∀k∈p.root.bx,k∈(FW j).bx
 |[],h=>by simp at h
 |c::j,h=>by
  simp only[FW,Acc.add];rcases eo.1 h with rfl|h
  ·exact⟨λk e=>eB.2 (.inl e),λk e=>eB.2 (.inl e)⟩
  ·exact⟨λk e=>eB.2 (.inr ((Il h).1 k e)),λk e=>eB.2 (.inr ((Il h).2 k e))⟩
theorem Im{v:TV}{p:Pl}(h:MV p v):(∀k,(gp p).1=.slot k->k∈(rO v).sl)/\∀k,(gp p).1=.box k->k∈(rO v).bx:=by
 by_cases j:∃cs,v=.agg cs
 ·obtain⟨cs,rfl⟩:=j;cases h with
  |agg _ t x=>
   simp only[rO];exact⟨λk u=>(Il x).1 k ((I6 p).1 k u),λk u=>(Il x).2 k ((I6 p).2 k u)⟩
 ·have j:∀cs,v≠.agg cs:=λcs e=>j ⟨cs,e⟩;have:rO v=KB v:=by cases v<;>first|rfl|exact absurd rfl (j _)
  rw[this,aaH h j];exact I6 p
theorem Io{v:TV}:∀{j:List TV},v∈j->(∀k∈(rO v).sl,k∈(looks j).sl)/\∀k∈(rO v).bx,k∈(looks j).bx
 |[],h=>by simp at h
 |c::u,h=>by
  simp only[looks,Acc.add];rcases eo.1 h with rfl|h
  ·exact⟨λk e=>eB.2 (.inl e),λk e=>eB.2 (.inl e)⟩
  ·exact⟨λk e=>eB.2 (.inr ((Io h).1 k e)),λk e=>eB.2 (.inr ((Io h).2 k e))⟩
theorem BL{nr:Bool}{s:TS}{k:Nat}:∀{u:List Operand},.tmp k∈u->k∈(tu nr s u).sl/\
  (nr=false->(∀j∈KR (s.slot k),j∈(tu nr s u).bx)/\(∀j∈(rO (s.slot k)).sl,j∈(tu nr s u).sl)/\∀j∈(rO (s.slot k)).bx,j∈(tu nr s u).bx)
 |[],h=>by simp at h
 |x::u,h=>by
  rcases eo.1 h with rfl|h
  ·simp only[tu,Acc.add];refine⟨by simp,λD=>?_⟩;subst D;simp only[cN,eB];exact⟨λj e=>.inl e,λj e=>.inr (.inl e),λj e=>.inr (.inl e)⟩
  ·obtain⟨y,A⟩:=BL (nr:=nr) (s:=s) h;cases x with
   |tmp J=>
    simp only[tu,Acc.add,eB];refine⟨.inr (.inr y),λD=>?_⟩;obtain⟨F,H,I⟩:=A D;exact⟨λj e=>.inr (.inr (F j e)),λj e=>.inr (.inr (H j e)),λj e=>.inr (.inr (I j e))⟩
   |const v=>exact⟨y,A⟩
   |global v=>exact⟨y,A⟩
   |func v=>exact⟨y,A⟩
theorem adU(v:Value)(k:Nat):¬ MB k (xk v):=by
 have u:∀v,¬ MB k (qh v):=λv h=>by unfold qh at h;split at h<;>cases h
 by_cases x:∃j,v=.agg j
 ·obtain⟨j,rfl⟩:=x;intro h;simp only[xk] at h;cases h
 ·rw[FC v λj e=>x ⟨j,e⟩];exact u v
structure u4(X:Rt->dh->Prop)(W F:Acc):Prop where
 sl:∀k p,X (.slot k) p->k∈W.sl
 bx:∀k p,X (.box k) p->k∈W.bx
 top:∀k,X (.box k) []->k∈F.bx
theorem u4.mono{X Y:Rt->dh->Prop}{W F:Acc}(h:u4 X W F)(e:∀q p,Y q p->X q p):u4 Y W F:=⟨λk p hx=>h.sl k p (e _ _ hx),λk p hx=>h.bx k p (e _ _ hx),λk hx=>h.top k (e _ _ hx)⟩
theorem ab2(W F:Acc):u4 (XZ λ_=>False) W F:=⟨λk p hx=>by rcases hx.1 with h|⟨n,h⟩<;>simp at h,λk p hx=>by rcases hx.1 with h|⟨n,h⟩<;>simp at h,λk hx=>(hx.2 ⟨⟨k,rfl⟩,rfl⟩).elim⟩
section
variable{C:Cx}{s t:TS}{o:Oper}
theorem af5{j:List Nat}{d:Option Nat}{a:Acc}:(∀k∈a.sl,k∈((Acc.mk (dx d) []).add ((Acc.mk [] j).add a)).sl)/\∀k∈a.bx,k∈((Acc.mk (dx d) []).add ((Acc.mk [] j).add a)).bx:=by
 simp only[Acc.add,eB];exact⟨λk e=>.inr (.inr e),λk e=>.inr (.inr e)⟩
theorem ab3(N:∀i,(∀p,¬ MV p (C.gl i))/\∀k,¬ MB k (C.gl i))(hc:uQ C s o=none)(D:nV C s o=false):u4 (λq p=>XZ (oZ s o) q p\/zE C s o q p) (gJ C s o) (l7 C s o):=by
 have hW:gJ C s o=(Acc.mk (dx o.dst) []).add (zt C s o):=by simp only[gJ,hc,D,cN]
 have Q:∀a:Acc,a=tu (uO C s o) s o.op.operands.toList->(∀k∈a.sl,k∈(gJ C s o).sl)/\∀k∈a.bx,k∈(gJ C s o).bx:=λa ha=>by
  rw[hW,zt,ha]
  exact af5
 obtain⟨R,s2⟩:=Q _ rfl;have S:∀x∈o.op.operands.toList,uO C s o=false->∀q,dU s x q->(∀k,q=.slot k->k∈(gJ C s o).sl)/\∀k,q=.box k->k∈(gJ C s o).bx:=λx hx I q y=>by
  obtain⟨k,rfl,y⟩:=y
  obtain⟨u,U⟩:=BL (nr:=uO C s o) (s:=s) hx
  obtain⟨h3,h4,h5⟩:=U I
  rcases y with rfl|⟨p,D,rfl⟩
  ·exact⟨λj e=>by cases e;exact R _ u,λj e=>by cases e⟩
  ·exact⟨λj e=>R _ (h4 j ((Im D).1 j e)),λj e=>s2 _ (h5 j ((Im D).2 j e))⟩
 have hz:∀q,oZ s o q->(∀k,q=.slot k->k∈(gJ C s o).sl)/\∀k,q=.box k->k∈(gJ C s o).bx:=λq y=>by
  unfold oZ at y
  split at y
  ·rename_i x J;obtain⟨k,rfl,rfl⟩:=y;exact⟨λj e=>by cases e;exact R _ (BL (by simp[J,Op.operands])).1,λj e=>by cases e⟩
  ·rename_i Y;have I:uO C s o=false:=by
    unfold uO
    split
    ·exact D
    ·rename_i Z;cases F:KS o with
     |false=>rfl
     |true=>
      exfalso;unfold KS at F;unfold nV at D;split at F
      ·rename_i x e;exact Y x e
      ·rename_i x e;exact Z x e
      all_goals first
       |(rename_i e;rw[e] at D;simp at D;done)
       |(simp at F;done)
   obtain⟨x,hx,y⟩:=y;exact S x hx I q y
 have H:∀q p,zE C s o q p->∃k,q=.box k/\k∈(gJ C s o).bx/\k∈(l7 C s o).bx:=λq p y=>by
  obtain⟨ty,ad,x,J,k,M,rfl,rfl⟩:=y
  have I:uO C s o=false:=by simp[uO,KS,J]
  have A:k∈mQ (cZ C s ad):=by
   rcases M with⟨j,e⟩|⟨j,e⟩<;>rw[e]<;>simp[mQ]
  refine⟨k,rfl,?_,?_⟩
  ·cases ad with
   |tmp j=>
    have e:mQ (cZ C s (.tmp j))=mQ (s.slot j):=by
     simp only[cZ]
     cases s.slot j<;>first|rfl|(simp only[mU];cases C.vs j<;>rfl)
    rw[e] at A;refine s2 _ (((BL (nr:=uO C s o) (s:=s) (k:=j) (by simp[J,Op.operands])).2 I).1 k ?_);revert A;cases s.slot j<;>simp[mQ,KR]
   |const v=>
    exfalso;rcases M with⟨j,e⟩|⟨j,e⟩<;>exact absurd (show MB k (xk v) by simp only[cZ] at e;rw[e];constructor) (adU v k)
   |global i=>
    exfalso;rcases M with⟨j,e⟩|⟨j,e⟩<;>exact absurd (show MB k (C.gl i) by simp only[cZ] at e;rw[e];constructor) ((N i).2 k)
   |func i=>exfalso;rcases M with⟨j,e⟩|⟨j,e⟩<;>simp[cZ] at e
  ·simp only[l7,hc,J];exact A
 refine⟨λk p hx=>?_,λk p hx=>?_,λk hx=>?_⟩
 ·rcases hx with⟨u|⟨n,u⟩,_⟩|hx
  ·exact(hz _ u).1 k rfl
  ·cases u
  ·obtain⟨j,e,_⟩:=H _ _ hx;cases e
 ·rcases hx with⟨u|⟨n,u⟩,_⟩|hx
  ·exact(hz _ u).2 k rfl
  ·cases u
  ·obtain⟨j,e,u,_⟩:=H _ _ hx;cases e;exact u
 ·rcases hx with⟨_,U⟩|hx
  ·exact(U ⟨⟨k,rfl⟩,rfl⟩).elim
  ·obtain⟨j,e,_,u⟩:=H _ _ hx;cases e;exact u
theorem aaI{c:Call}{x:Operand}{f:Nat}{u:List TV}{q:gq}(ho:o.op=.call c)(J:c.callee=.value x)(Q:cZ C s x=.fn f u)(hs:C.fn f (wB (c.args.toList.map (cZ C s)++u))=some q):
  u4 (uT C s o) (gJ C s o) (l7 C s o):=by
 have hW:uQ C s o=some ((bif q.tn then⟨[],[]⟩ else looks ((c.args.toList.map (cZ C s))++u)).add ⟨[],l6 q.ps ((c.args.toList.map (cZ C s))++u)⟩,l6 q.ps ((c.args.toList.map (cZ C s))++u)):=by
  simp only[uQ,ho,J,Q,hs]
 have sl:∀k∈(bif q.tn then(⟨[],[]⟩:Acc) else looks ((c.args.toList.map (cZ C s))++u)).sl,k∈(gJ C s o).sl:=λk D=>by
  simp only[gJ,hW,Acc.add,eB]
  exact .inr (.inl D)
 have aa:∀k,.tmp k∈c.args.toList->k∈(gJ C s o).sl:=λk D=>by
  simp only[gJ,hW,Acc.add,eB]
  refine .inl (.inr (Ns.2 ?_))
  simp only[ho,Op.operands,Call.operands,J,G1]
  exact eB.2 (.inr D)
 have bx:∀k∈(bif q.tn then(⟨[],[]⟩:Acc) else looks ((c.args.toList.map (cZ C s))++u)).bx,k∈(gJ C s o).bx:=λk D=>by
  simp only[gJ,hW,Acc.add,eB]
  exact .inr (.inl D)
 have R:∀k∈l6 q.ps ((c.args.toList.map (cZ C s))++u),k∈(gJ C s o).bx/\k∈(l7 C s o).bx:=λk D=>by
  simp only[gJ,l7,hW,Acc.add,eB]
  exact⟨.inr (.inr D),D⟩
 have M:∀H Z,uT C s o H Z->(∃k,.tmp k∈c.args.toList/\H=.slot k/\¬ kE H Z)\/((((q.tn=false/\∃I∈(c.args.toList.map (cZ C s)++u),∃F,MV F I/\(gp F).1=H)\/∃n,H=.cC n)/\¬ kE H Z)\/∃k,H=.box k/\k∈l6 q.ps (c.args.toList.map (cZ C s)++u)):=λH Z hx=>by
  obtain⟨c',x',f',ab,e1,e2,e3,hx⟩:=hx
  rw[ho] at e1
  cases e1
  rw[J] at e2
  cases e2
  rw[Q] at e3
  cases e3
  rcases hx with⟨⟨y,hy,k,rfl,rfl⟩,hb⟩|⟨q',S,hx⟩
  ·exact .inl ⟨k,hy,rfl,hb⟩
  ·rw[hs] at S;cases S;exact .inr hx
 have U:q.tn=false->∀I∈(c.args.toList.map (cZ C s)++u),∀F,MV F I->(∀k,(gp F).1=.slot k->k∈(gJ C s o).sl)/\∀k,(gp F).1=.box k->k∈(gJ C s o).bx:=λY I A F N=>by
  rw[Y] at sl bx
  exact⟨λk D=>sl k ((Io A).1 k ((Im N).1 k D)),λk D=>bx k ((Io A).2 k ((Im N).2 k D))⟩
 refine⟨λk p hx=>?_,λk p hx=>?_,λk hx=>?_⟩
 ·rcases M _ _ hx with⟨j,hj,e,_⟩|⟨⟨Y,I,A,F,N,e⟩|⟨n,e⟩,_⟩|⟨j,e,_⟩
  ·cases e;exact aa _ hj
  ·exact(U Y I A F N).1 k e
  ·cases e
  ·cases e
 ·rcases M _ _ hx with⟨j,hj,e,_⟩|⟨⟨Y,I,A,F,N,e⟩|⟨n,e⟩,_⟩|⟨j,e,h1⟩
  ·cases e
  ·exact(U Y I A F N).2 k e
  ·cases e
  ·cases e;exact(R _ h1).1
 ·rcases M _ _ hx with⟨j,hj,e,_⟩|⟨_,hb⟩|⟨j,e,h1⟩
  ·cases e
  ·exact(hb ⟨⟨k,rfl⟩,rfl⟩).elim
  ·cases e;exact(R _ h1).2
end
section
variable{P:Program}{C:Cx}{E:Env}{nt:Nat}{o:Oper}{s s':TS}{g g':Gs}{a b:Act}{w w':World}
theorem aaJ(h:Rel C E s g w){X:Rt->dh->Prop}{nb:Nat->Prop}(y:Out C E nt X o.dst nb g w s' b w' g'){W F:Acc}{n:List Nat}{ps:List Pl}{M:Pl->Bool}(S:u4 X W F)(hd:∀d,o.dst=some d->d∈W.sl/\d∈F.sl)(hn:∀k,nb k->k∈n/\k∈W.bx):
  Rel C E (jO W F n ps (s'.kill M) s) g' w':=by
 have hT:=Fo W F n ps (s'.kill M) s;have sl:∀k,(jO W F n ps (s'.kill M) s).slot k=if(fJ k W.sl&&eV s.t k)=true then Ev.kill M (s'.slot k) else kl F W n ps (s.slot k):=λk=>by
  have:=congrFun (congrArg Prod.fst hT) k
  simp only[fs,Rec.app,oT] at this
  rw[this,qv]
  rfl
 have bx:∀k,(jO W F n ps (s'.kill M) s).box k=if(fJ k W.bx&&eV s.h k)=true then s'.box k else s.box k:=λk=>by
  have:=congrFun (congrArg Prod.snd hT) k
  simp only[fs,Rec.app,oT] at this
  rw[this,SB]
  rfl
 generalize jO W F n ps (s'.kill M) s=T at sl bx;have N:Rel C E (s5 ps (qF F W n s)) g w:=h.tD (λk=>by rw[Hs];exact(h.fD k).kA _ _) (λk=>.inl (by simp only[TS.box];rw[DT,Ep]));have s1:∀k,(s5 ps (qF F W n s)).slot k=kl F W n ps (s.slot k):=λk=>Hs s k ps;have b1:∀k,(s5 ps (qF F W n s)).box k=s.box k:=λk=>by simp only[TS.box];rw[DT,Ep]
 refine N.mV y.gi (λk=>?_) (λk=>?_)
 ·rw[sl]
  by_cases A:k∈W.sl
  ·left
   rw[jX.2 A,mZ]
   by_cases x:eV s.t k=true
   ·rw[cJ x];exact(y.rel.fD k).kill M
   ·rw[cK x];have:s.slot k=.un:=sU _ _ _ (by simpa using x);rw[this];simp only[kl,KL];exact .un _ _
  ·have Q:fJ k W.sl=false:=by
     cases h:fJ k W.sl with
     |false=>rfl
     |true=>exact absurd (jX.1 h) A
   rw[Q];simp only[xM,iN,iD]
   right
   refine⟨(s1 k).symm,y.tm k (λe=>A (hd k e).1),λp hx=>A (S.sl k p hx),?_⟩;rw[s1];have U:∀p,kb F W n p=false->p.iB F=false/\(p.jn=true->p.iB W=false)/\p.iB ⟨[],n⟩=false:=λp D=>by
    simp only[kb,Bool.or_eq_false_iff,o6] at D
    obtain⟨N,h2⟩:=D
    cases h3:p.iB F with
    |true=>rw[h3] at N;simp at N
    |false=>
     rw[h3,cN] at N
     refine⟨rfl,λhs=>?_,h2⟩
     rw[hs,cL] at N
     exact N
   have J:∀p,kb F W n p=false->p.jn=true->∀π,¬ X (gp p).1 π:=λp D hs π hx=>by
    have:=(U p D).2.1 hs
    have h3:p.iB W=true:=yZ.2 (by
     cases Y:(gp p).1 with
     |slot k=>rw[Y] at hx;exact .inl ⟨k,rfl,S.sl k π hx⟩
     |box k=>rw[Y] at hx;exact .inr ⟨k,rfl,S.bx k π hx⟩
     |cC m=>exact(iV p m Y).elim)
    rw[h3] at this
    cases this
   refine⟨λj R=>y.bx j (λZ=>(af3 R).2 (hn j Z).1),λp D=>?_,λp D π=>?_⟩
   ·obtain⟨H,I⟩:=Wo D;obtain⟨o1,o2,o3⟩:=U p I;have aa:=(h.fD k).s9 H;have:=mM y.gi p aa (nO y.gi λq Y t hx=>by
     obtain⟨e1,e2⟩:=pJ Y
     rw[e1] at hx
     exact J p I e2 _ hx) (λj R _=>y.tm j (λe=>by
      have:p.iB F=true:=yZ.2 (.inl ⟨j,wj.1 R,(hd j e).2⟩)
      rw[o1] at this;cases this)) (λj R=>⟨y.bx j (λZ=>by
      have:p.iB ⟨[],n⟩=true:=yZ.2 (.inr ⟨j,yK.1 R,(hn j Z).1⟩)
      rw[o3] at this;cases this),λhx=>by
      have:p.iB F=true:=yZ.2 (.inr ⟨j,yK.1 R,S.top j hx⟩)
      rw[o1] at this;cases this⟩);exact⟨this.1,λ_=>this.2⟩
   ·have H:=af4 D;have I:=(Wo D.mv).2;refine J p I ?_ _;have hr:=h.fD k;generalize s.slot k=z at H hr;generalize g.tm k=u at hr;cases H;cases hr;assumption
 ·rw[bx]
  by_cases A:k∈W.bx
  ·left
   rw[jX.2 A,mZ]
   by_cases x:eV s.h k=true
   ·rw[cJ x];exact y.rel.boxes k
   ·rw[cK x];have:s.box k=.none:=sU _ _ _ (by simpa using x);rw[this];trivial
  ·right
   have Q:fJ k W.bx=false:=by
    cases h:fJ k W.bx with
    |false=>rfl
    |true=>exact absurd (jX.1 h) A
   rw[Q];simp only[xM,iN,iD];exact⟨(b1 k).symm,y.bx k (λZ=>A (hn k Z).2),λp hx=>A (S.bx k p hx)⟩
end
end
section
theorem Mu{e:Type}{f f':Nat->e}{t:Tr e}:∀{l:List Nat},(∀k∈l,f k=f' k)->l.foldr (λk t=>t.set k (f k)) t=l.foldr (λk t=>t.set k (f' k)) t
 |[],_=>rfl
 |k::l,h=>by
  simp only[G4];rw[Mu (l:=l) λj u=>h j (by simp[u]),h k (by simp)]
section
variable{R:Acc}{s S:TS}
theorem QM(h:ql R (fs S) (fs s)):mr R S=mr R s:=by
 simp only[mr];rw[Mu (f:=λk=>S.slot k) (f':=λk=>s.slot k) h.sl,Mu (f:=λk=>S.box k) (f':=λk=>s.box k) h.bx]
theorem Rg(k:Nat):(mr R s).slot k=if fJ k R.sl=true/\eV pQ k=true then s.slot k else .un:=by
 simp only[TS.slot,mr];rw[yE];simp only[pQ,vI];rfl
theorem aaK(k:Nat):(mr R s).box k=if fJ k R.bx=true/\eV rI k=true then s.box k else .none:=by
 simp only[TS.box,mr];rw[yE];simp only[rI,vI];rfl
theorem ZT:(∀k,(mr R s).slot k=s.slot k\/(mr R s).slot k=.un)/\∀k,(mr R s).box k=s.box k\/(mr R s).box k=.none:=by
 refine⟨λk=>?_,λk=>?_⟩
 ·rw[Rg];split
  ·exact .inl rfl
  ·exact .inr rfl
 ·rw[aaK];split
  ·exact .inl rfl
  ·exact .inr rfl
theorem ab4{k:Nat}(h:k∈R.sl)(e:k<2047):(mr R s).slot k=s.slot k:=by
 rw[Rg,cJ ⟨jX.2 h,Nw _ _ _ (by omega)⟩]
end
section
variable{C:Cx}{s t S:TS}{o:Oper}
theorem Er(j:∀k,t.slot k=S.slot k\/t.slot k=.un)(u:∀k,t.box k=S.box k\/t.box k=.none):∀(p:Pl){v:TV},fQ C t p=some v->v≠.un->fQ C S p=some v
 |.slot k,v,h,x=>by
  simp only[fQ] at h⊢;split at h
  ·rename_i A;rw[cJ A];simp only[cW] at h;rcases j k with e|e
   ·rw[<-e,h]
   ·rw[e] at h;exact absurd h.symm x
  ·simp at h
 |.cell k c,v,h,x=>by
  simp only[fQ] at h⊢;rcases u k with e|e
  ·rw[<-e];exact h
  ·rw[e] at h;simp at h
 |.sub p H i c,v,h,x=>by
  simp only[fQ] at h⊢;split at h
  ·rename_i d D F y;rw[Er j u p y (by simp)];exact h
  ·rename_i D F y;rw[Er j u p y (by simp)];exact h
  ·simp at h
theorem aaL{R:Type}{e:Ty}{y:TV}(j:flat e=true)(K:Bool->List (El e)->TS->Option R):l5 C e y s K=(l5 C e y s λd u _=>some (d,u)).bind λx=>K x.1 x.2 s:=by
 cases y with
 |vw p t=>
  simp only[l5,j,cL,nj]
  congr 1;funext v
  cases v<;>first|rfl|simp only[ng,FH]
 |sl p t0 A D=>
  simp only[l5,j,cL,nj]
  congr 1;funext v
  cases v<;>first|rfl|simp only[fa,ff,fO,ng,FH]
 |s x=>simp only[l5];unfold castLT;split<;>rfl
 |_=>first|rfl|simp only[l5,ng,FH]
theorem aaM{e:Ty}{y:TV}(A:∀k,t.slot k=S.slot k\/t.slot k=.un)(D:∀k,t.box k=S.box k\/t.box k=.none)(F:flat e=true){x:Bool×List (El e)}(h:(l5 C e y t λd u _=>some (d,u))=some x):(l5 C e y S λd u _=>some (d,u))=some x:=by
 cases y with
 |vw p H=>
  simp only[l5,F,cL,uz] at h⊢;cases j:fQ C t p with
  |none=>rw[j] at h;simp at h
  |some v=>
   rw[j,pC] at h;rw[Er A D p j (λe=>by subst e;simp at h),pC];exact h
 |sl p t0 I J=>
  simp only[l5,F,cL,uz] at h⊢;cases j:fQ C t p with
  |none=>rw[j] at h;simp at h
  |some v=>
   rw[j,pC] at h;rw[Er A D p j (λe=>by subst e;simp at h),pC];exact h
 |_=>exact h
theorem adV{e:Ty}{u:Nat}{p:Pl}{H:Ty}{y:TV}{d:Option Nat}{s':TS}(N:∀k,t.slot k=S.slot k\/t.slot k=.un)(Q:∀k,t.box k=S.box k\/t.box k=.none)(I:p.jn=true)
  (h:(xn C e u (.vw p H) y t λv A=>some (dZ C A d v))=some s'):
  ∃D,s'=dZ C (t.fW p.ji) d (.pa p e D)/\(xn C e u (.vw p H) y S λv A=>some (dZ C A d v))=some (dZ C (S.fW p.ji) d (.pa p e D)):=by
 unfold xn at h⊢;cases F:flat e with
 |false=>
  exfalso;have U:=VG (C:=C) (s:=t) e y (λd Y s=>some (d,Y,s)) λx:Bool×List (El e)×TS=>(match(TV.vw p H) with
   |.vw p _=>jN C x.2.2 p λv=>
    match v with
    |.own Z t' J=>castLT t' e J λJ=>ck (cT u J x.2.1) λD=>
     bif p.jn then(bif flat e then(λv A=>some (dZ C A d v)) (.pa p e D) (x.2.2.fW p.ji) else none) else mw x.2.2 p λs'=>(λv A=>some (dZ C A d v)) (.own (bif flat e then true else bif x.1 then Z else false) e D) s'
    |_=>none
   |_=>none:Option TS);simp only[FH,I,F,cL,cN] at U;simp only[I,F,cL,cN] at h;have h:=U.trans h;obtain⟨x,_,hx⟩:=zP.1 h;rw[uz] at hx;obtain⟨v,_,j⟩:=zP.1 hx;split at j
  ·unfold castLT at j;split at j
   ·unfold ck at j;obtain⟨z,_,M⟩:=zP.1 j;simp at M
   ·simp at j
  ·simp at j
 |true=>
  rw[aaL F] at h⊢;obtain⟨⟨d0,Y⟩,hx,h⟩:=zP.1 h;rw[aaM N Q F hx,pC];simp only[I,F,cL,uz] at h⊢;obtain⟨v,j,h⟩:=zP.1 h;rw[Er N Q p j (λe=>by subst e;simp at h),pC];split at h
  ·unfold castLT at h⊢;split at h
   ·rename_i hc;rw[LK hc];unfold ck at h⊢;obtain⟨D,M,h⟩:=zP.1 h;dsimp only;rw[M,pC];simp only[cW] at h;exact⟨D,h.symm,rfl⟩
   ·simp at h
  ·simp at h
theorem ab5(h:∀k,.tmp k∈o.op.operands.toList->t.slot k=s.slot k):oZ t o=oZ s o/\zE C t o=zE C s o/\uT C t o=uT C s o/\nV C t o=nV C s o/\nw t o=nw s o:=by
 have I:∀x∈o.op.operands.toList,cZ C t x=cZ C s x:=λx hx=>BJ λk Z=>h k (Z ▸hx);have U:∀x∈o.op.operands.toList,dU t x=dU s x:=λx hx=>by
  funext q
  refine propext ⟨λ⟨k,e,j⟩=>⟨k,e,?_⟩,λ⟨k,e,j⟩=>⟨k,e,?_⟩⟩
  ·rw[<-h k (e ▸hx)];exact j
  ·rw[h k (e ▸hx)];exact j
 have h3:xf t o=xf s o:=by
  funext q
  refine propext ⟨λ⟨x,hx,j⟩=>⟨x,hx,by rw[<-U x hx];exact j⟩,λ⟨x,hx,j⟩=>⟨x,hx,by rw[U x hx];exact j⟩⟩
 have Y:nw t o=nw s o:=by
  unfold nw
  cases F:o.op with
  |call c=>
   simp only[]
   cases M:c.callee with
   |builtin b=>
    cases b with
    |append=>
     simp only[]
     cases ha:c.args.toList with
     |nil=>rfl
     |cons x xs=>
      cases x with
      |tmp k=>simp only[];rw[h k (by simp[F,Op.operands,Call.operands,M,ha])]
      |_=>rfl
    |_=>rfl
   |_=>rfl
  |_=>rfl
 refine⟨?_,?_,?_,?_,Y⟩
 ·unfold oZ;split
  ·rfl
  ·exact h3
 ·funext q p;refine propext ⟨λ⟨N,H,x,e,j⟩=>⟨N,H,x,e,?_⟩,λ⟨N,H,x,e,j⟩=>⟨N,H,x,e,?_⟩⟩
  ·rw[<-I H (by simp[e,Op.operands])];exact j
  ·rw[I H (by simp[e,Op.operands])];exact j
 ·funext q p;have J:∀c x,o.op=.call c->c.callee=.value x->cZ C t x=cZ C s x/\c.args.toList.map (cZ C t)=c.args.toList.map (cZ C s):=λc x u A=>by
   refine⟨I x (by simp[u,Op.operands,Call.operands,A]),xK λy hy=>I y ?_⟩
   simp only[u,Op.operands,Call.operands,A,G1]
   exact eB.2 (.inr hy)
  refine propext ⟨λ⟨c,x,f,D,u,A,Q,j⟩=>⟨c,x,f,D,u,A,?_,?_⟩,λ⟨c,x,f,D,u,A,Q,j⟩=>⟨c,x,f,D,u,A,?_,?_⟩⟩
  ·rw[<-(J c x u A).1];exact Q
  ·rw[<-(J c x u A).2];exact j
  ·rw[(J c x u A).1];exact Q
  ·rw[(J c x u A).2];exact j
 ·unfold nV;rw[Y];cases F:o.op with
  |move x=>
   cases x with
   |tmp k=>simp only[];rw[h k (by simp[F,Op.operands])]
   |_=>rfl
  |assign x=>
   cases x with
   |tmp k=>simp only[];rw[h k (by simp[F,Op.operands])]
   |_=>rfl
  |extract x i=>
   cases x with
   |tmp k=>simp only[];rw[h k (by simp[F,Op.operands])]
   |_=>rfl
  |_=>rfl
end
section
variable{P:Program}{C:Cx}{E:Env}{nt:Nat}{o:Oper}{S st s':TS}{g:Gs}{a:Act}{w:World}
theorem Mv(h:qD o=true):uQ C S o=none:=by
 unfold qD at h;unfold uQ;cases e:o.op with
 |call c=>
  rw[e] at h;simp only[] at h⊢;cases j:c.callee with
  |value x=>rw[j] at h;cases h
  |_=>rfl
 |_=>rfl
theorem af6{d:Nat}(h:o.dst=some d):d∈(gJ C S o).sl/\d∈(l7 C S o).sl:=by
 constructor
 ·unfold gJ;split
  ·simp[Acc.add,h,dx]
  ·cases nV C S o<;>simp[Acc.add,h,dx]
 ·unfold l7;split
  ·simp[h,dx]
  ·split<;>simp[h,dx]
theorem VP{k:Nat}(u:nV C S o=false)(h:k∈l8 o):k∈(gJ C S o).bx:=by
 unfold gJ;split
 ·simp[Acc.add,dx,ES h]
 ·rw[u,cN];simp only[Acc.add,zt,eB];refine .inr (.inl ?_);have j:=ES h;unfold l8 at h;split at h
  ·rename_i e;first|(rw[j];simp[dx];done)|(rw[e,j];simp[dx];done)
  ·rename_i e;first|(rw[j];simp[dx];done)|(rw[e,j];simp[dx];done)
  ·rename_i c e
   first|(rw[j];simp[dx];done)|(rw[e,j];simp[dx];done)
  ·simp at h
theorem ZU{c:Call}{x:Operand}{f:Nat}{F:List TV}(H:o.op=.call c)(u:c.callee=.value x)(A:cZ C S x=.fn f F):u4 (uT C S o) (gJ C S o) (l7 C S o):=by
 cases J:C.fn f (wB (c.args.toList.map (cZ C S)++F)) with
 |some q=>exact aaI H u A J
 |none=>
  have M:uQ C S o=none:=by simp only[uQ,H,u,A,J]
  have N:nV C S o=false:=by simp only[nV,H,u]
  have D:∀Q Y,uT C S o Q Y->∃k,.tmp k∈c.args.toList/\Q=.slot k:=λQ Y hx=>by
   obtain⟨c',x',f',Z,e1,e2,e3,hx⟩:=hx
   rw[H] at e1
   cases e1
   rw[u] at e2
   cases e2
   rw[A] at e3
   cases e3
   rcases hx with⟨⟨y,hy,k,rfl,rfl⟩,hb⟩|⟨q',I,hx⟩
   ·exact⟨k,hy,rfl⟩
   ·rw[J] at I;cases I
  refine⟨λk p hx=>?_,λk p hx=>?_,λk hx=>?_⟩
  ·obtain⟨j,U,e⟩:=D _ _ hx;cases e;simp only[gJ,M,N,cN,Acc.add,zt,eB];refine .inr (.inr (BL ?_).1);simp only[H,Op.operands,Call.operands,u,G1];exact eB.2 (.inr U)
  ·obtain⟨j,U,e⟩:=D _ _ hx;cases e
  ·obtain⟨j,U,e⟩:=D _ _ hx;cases e
theorem OR{e:List Oper}{k:Nat}(h: .tmp k∈o.op.operands.toList):k∈(jr C e st o).sl:=by
 simp only[jr,zt,Acc.add,eB];exact .inr (.inr (BL h).1)
theorem Out.Pg{X:Rt->dh->Prop}{nb:Nat->Prop}{u:Act}{x:World}{g':Gs}(h:Out C E nt X o.dst nb g w s' u x g')(j:gN nt o.dst)(y:∀k,nb k->o.dst=some k):iR nt g g':=λk D=>by
 have:o.dst≠some k:=λe=>by rw[e] at j;exact absurd (show k<nt from j) (by omega)
 exact⟨h.tm k this,h.bx k λA=>this (y k A)⟩
def kW(C:Cx)(d:Option Nat):Pl->Bool:=match d with
 |some d=>if C.vs d=true then Pl.lD d elseλ_=>false
 |none=>λ_=>false
theorem Rh{d:Option Nat}{q:Pl}(h:kW C d q=true):∃k,d=some k/\q.lD k=true:=by
 cases d with
 |none=>simp[kW] at h
 |some k=>
  simp only[kW] at h;split at h
  ·exact⟨k,rfl,h⟩
  ·simp at h
theorem Ph{I O:TV->Bool}(e:∀v,I v=false)(j:∀v,O v=false)(v:TV):kA I O v=v:=FN (λ_ _ c _=>e c) λ_=>j v
theorem Bt(v:TV):fF (λ_=>false) v=false:=by cases v<;>rfl
theorem Nz(S:TS)(d:Option Nat)(v:TV):(∀k,d≠some k->(dZ C S d v).slot k=kA (fF (kW C d)) (fF (kW C d)) (S.slot k))/\
  ∀k,d=some k->(dZ C S d v).slot k=(if eV S.t k=true then kA (fF (kW C d)) (fF (kW C d)) v else .un):=by
 cases d with
 |none=>exact⟨λk _=>(Ph Bt Bt _).symm,λk h=>by cases h⟩
 |some d=>
  simp only[dZ,TS.put,kW];cases x:C.vs d with
  |true=>
   simp only[cL,gr];refine⟨λk u=>?_,λk u=>?_⟩
   ·rw[ra _ _ (λe=>u (by rw[e])),qv,JE]
   ·cases u;split
    ·rename_i j;rw[<-JE];exact DS _ _ _ _ (by simp only[TS.kill];rw[wE];exact j)
    ·rename_i j;exact sU _ _ _ (by simp only[TS.raw,TS.kill];rw[yY,wE];simpa using j)
  |false=>
   simp only[cN,iN,iD];refine⟨λk u=>?_,λk u=>?_⟩
   ·rw[ra _ _ (λe=>u (by rw[e])),Ph Bt Bt]
   ·cases u;rw[Ph Bt Bt];split
    ·rename_i j;exact DS _ _ _ _ j
    ·rename_i j;exact sU _ _ _ (by simp only[TS.raw];rw[yY];simpa using j)
theorem UM(S:TS)(d:Option Nat)(v:TV)(k:Nat):(dZ C S d v).box k=S.box k:=by
 cases d with
 |none=>rfl
 |some d=>simp only[dZ,TS.put];cases C.vs d<;>rfl
theorem ae4{t:TS}{p:Pl}{e:Ty}{x:List (El e)}{N:Gs}{w':World}{u:List Oper}(h:Rel C E (dZ C (S.fW p.ji) o.dst (.pa p e x)) N w'):
  Rel C E (jO ⟨dx o.dst,[]⟩ ⟨dx o.dst,[]⟩ [] [p] (oP C u o st (dZ C (t.fW p.ji) o.dst (.pa p e x))) S) N w':=by
 have I:=Fo ⟨dx o.dst,[]⟩ ⟨dx o.dst,[]⟩ [] [p] (oP C u o st (dZ C (t.fW p.ji) o.dst (.pa p e x))) S;refine h.tD (λk=>?_) (λk=>?_)
 ·have this:(jO ⟨dx o.dst,[]⟩ ⟨dx o.dst,[]⟩ [] [p] (oP C u o st (dZ C (t.fW p.ji) o.dst (.pa p e x))) S).slot k=if(fJ k (dx o.dst)&&eV S.t k)=true then(oP C u o st (dZ C (t.fW p.ji) o.dst (.pa p e x))).slot k else kl ⟨dx o.dst,[]⟩ ⟨dx o.dst,[]⟩ [] [p] (S.slot k):=congrFun (congrArg Prod.fst I) k
  rw[this];clear this I;have D:=h.fD k;obtain⟨Y,Z⟩:=Nz (C:=C) (S.fW p.ji) o.dst (.pa p e x)
  by_cases F:o.dst=some k
  ·rw[Z k F] at D;have e1:eV (S.fW p.ji).t k=eV S.t k:=congrFun (wE _ _) k;rw[e1] at D
   by_cases y:eV S.t k=true
   ·rw[cJ y] at D;have J:fJ k (dx o.dst)=true:=jX.2 (by simp[F,dx]);rw[J,y,mZ,cJ rfl];simp only[oP];rw[qv,(Nz (C:=C) (t.fW p.ji) o.dst (.pa p e x)).2 k F];split
    ·exact D.kill _
    ·exact .un _ _
   ·have Q:eV S.t k=false:=by simpa using y
    rw[Q,YN,cK (by simp)];have:S.slot k=.un:=sU _ _ _ Q;rw[this];simp only[kl,KL];exact .un _ _
  ·rw[Y k F,yv,Tc] at D;have J:fJ k (dx o.dst)=false:=by
    cases hm:fJ k (dx o.dst) with
    |false=>rfl
    |true=>
     have:=jX.1 hm
     cases H:o.dst with
     |none=>rw[H] at this;simp[dx] at this
     |some d=>rw[H] at this;simp[dx] at this;exact absurd (by rw[H,this]) F
   rw[J,xM,cK (by simp)];have j:=D.kA (mc ⟨dx o.dst,[]⟩ ⟨dx o.dst,[]⟩ []) (kN ⟨dx o.dst,[]⟩ ⟨dx o.dst,[]⟩ [] [p]);rw[wW,wW] at j;have U:∀v,fF (kW C o.dst) v=true->fF (kb ⟨dx o.dst,[]⟩ ⟨dx o.dst,[]⟩ []) v=true:=λv A=>by
    have one:∀q,kW C o.dst q=true->kb ⟨dx o.dst,[]⟩ ⟨dx o.dst,[]⟩ [] q=true:=λq hq=>by
     obtain⟨d,H,ho⟩:=Rh hq
     have:q.iB ⟨dx o.dst,[]⟩=true:=yZ.2 (.inl ⟨d,wC.1 ho,by simp[H,dx]⟩)
     simp only[kb,o6,this,cL,YO]
    cases v<;>simp only[fF] at A⊢<;>first|exact one _ A|(cases A;done)
   have M:kA (λv=>mc ⟨dx o.dst,[]⟩ ⟨dx o.dst,[]⟩ [] v||(fF (kW C o.dst) v||false)) (λv=>kN ⟨dx o.dst,[]⟩ ⟨dx o.dst,[]⟩ [] [p] v||(fF (kW C o.dst) v||ld p.ji v)) (S.slot k)=kl ⟨dx o.dst,[]⟩ ⟨dx o.dst,[]⟩ [] [p] (S.slot k):=by
    refine BK (λv=>?_) (λv=>?_) _
    ·simp only[mc,G5];cases A:fF (kW C o.dst) v with
     |false=>simp
     |true=>rw[U v A];rfl
    ·simp only[kN,Td];have:ld (rT []) v=false:=by cases v<;>rfl
     rw[this];cases A:fF (kW C o.dst) v with
     |false=>cases ld p.ji v<;>cases fF (kb ⟨dx o.dst,[]⟩ ⟨dx o.dst,[]⟩ []) v<;>rfl
     |true=>rw[U v A];rfl
   first
    |(rw[M] at j;exact j)
    |(rw[<-M];exact j)
    |(rw[<-M];simpa only[Bool.or_assoc] using j)
 ·left
  have:=congrFun (congrArg Prod.snd I) k;simp only[fs,Rec.app,oT] at this;rw[this,UM];simp only[fJ,xM,iN,iD];rfl
theorem adW(hC:fK P C)(hF:qG P C)(aq:nt<2047)(h:Rel C E S g w)(l:eb nt g a)(J:nS P C nt o=true){F:List Oper}(hA:ql (jr C F st o) (fs S) (fs st))(A:Ev.step C o (mr (jr C F st o) st) some=some s'):
  u2 P o a w (λY Z=>∃g',Rel C E (jO (gJ C st o) (l7 C st o) (l8 o) (nw st o) (oP C F o st s') S) g' Z/\eb nt g' Y/\iR nt g g'):=by
 obtain⟨hd,hx⟩:=uh J;rw[<-QM hA] at A;obtain⟨w1,w2⟩:=ZT (R:=jr C F st o) (s:=S);have hT:Rel C E (mr (jr C F st o) S) g w:=h.tD (λk=>by
  rcases w1 k with e|e<;>rw[e]
  ·exact h.fD k
  ·exact .un _ _) w2;have M:∀k,.tmp k∈o.op.operands.toList->(mr (jr C F st o) S).slot k=st.slot k:=λk A=>by
  have h1:=hx _ A
  have h2:k<nt:=by simpa[fe,sB] using h1
  rw[ab4 (OR A) (by omega)]
  exact hA.sl k (OR A)
 generalize mr (jr C F st o) S=t at A w1 w2 hT M;obtain⟨c1,c2,c3,c4,c5⟩:=ab5 (C:=C) M;have ab:∀{X:Rt->dh->Prop}{nb:Nat->Prop}{Y Z},(∃g',Out C E nt X o.dst nb g w s' Y Z g')->u4 X (gJ C st o) (l7 C st o)->(∀k,nb k->k∈l8 o/\k∈(gJ C st o).bx)->
   ∃g',Rel C E (jO (gJ C st o) (l7 C st o) (l8 o) (nw st o) (oP C F o st s') S) g' Z/\eb nt g' Y/\iR nt g g':=λ⟨g',D⟩hX hn=>
  ⟨g',aaJ h D hX (λd e=>af6 e) hn,D.CV,D.Pg hd λk Q=>ES (hn k Q).1⟩
 cases H:qD o with
 |false=>
  cases D:o.op with
  |call c=>
   cases j:c.callee with
   |value x=>
    obtain⟨s2,e,I⟩:=UE hC hF hT l J D j A;cases e;refine I.mono λY Z hh=>ab hh ?_ λk Q=>?_
    ·rw[c3];have ad:=A;simp only[Ev.step,D,j] at ad;split at ad
     ·rename_i f au ah;rw[BJ (s:=st) λk e=>M k (by simp[D,Op.operands,Call.operands,j,e])] at ah;exact ZU D j ah
     ·simp at ad
    ·have ai:k∈l8 o:=by simp[l8,D,j,Q,dx]
     exact⟨ai,VP (by simp only[nV,D,j]) ai⟩
   |invoke x m=>simp[Ev.step,D,j] at A
   |builtin b=>simp[qD,D,j] at H
  |_=>simp[qD,D] at H
 |true=>
  cases hp:nV C st o with
  |false=>
   obtain⟨s2,e,I⟩:=step_ok hC hT l J H A;cases e;refine I.mono λY Z hh=>ab hh ?_ λk Q=>⟨Q,VP hp Q⟩;rw[c1,c2];exact ab3 h.kM (Mv H) hp
  |true=>
   cases u:nw st o with
   |nil=>
    obtain⟨s2,e,I⟩:=adS hC hT l J (by rw[c4];exact hp) (by rw[c5];exact u) A;cases e;rw[<-u];exact I.mono λY Z hh=>ab hh (ab2 _ _) λk Q=>Q.elim
   |cons p ps=>
    have ap:=u;unfold nw at u;split at u
    ·rename_i c D;split at u
     ·rename_i j;split at u
      ·rename_i k xs ha;split at u
       ·rename_i p' τ aj;cases N:p'.jn with
        |false=>rw[N] at u;simp at u
        |true=>
         rw[N,cL] at u;simp only[lF] at u;obtain⟨rfl,rfl⟩:=u;cases xs with
         |nil=>simp[Ev.step,D,j,ha] at A
         |cons y ys=>
          cases ys with
          |cons _ _=>simp[Ev.step,D,j,ha] at A
          |nil=>
           cases U:c.argTypes.toList with
           |nil=>simp[Ev.step,D,j,ha,U] at A
           |cons ty av=>
            cases ae:C.cX ty with
            |sl e sz aw=>
             simp only[Ev.step,D,j,ha,U,ae] at A;have aa:∀k,.tmp k∈o.op.operands.toList->t.slot k=S.slot k:=λk A=>(M k A).trans (hA.sl k (OR A)).symm;have hm:∀z∈[Operand.tmp k,y],z∈o.op.operands.toList:=λz hz=>by
              rw[<-ha] at hz
              simp only[D,Op.operands,Call.operands,j]
              simpa using hz
             have ex:cZ C t (.tmp k)=.vw p' τ:=by simp only[cZ,M k (hm _ (by simp)),aj,mU]
             have ak:cZ C S (.tmp k)=.vw p' τ:=by rw[<-ex];exact(BJ λk A=>aa k (A ▸hm _ (by simp))).symm
             have am:cZ C t y=cZ C S y:=BJ λk A=>aa k (A ▸hm _ (by simp));rw[ex,am] at A;obtain⟨zs,e1,e2⟩:=adV w1 w2 N A;have an:Ev.step C o S some=some (dZ C (S.fW p'.ji) o.dst (.pa p' e zs)):=by
              simp only[Ev.step,D,j,ha,U,ae]
              rw[ak]
              exact e2
             obtain⟨s2,e3,I⟩:=step_ok hC h l J H an;cases e3;refine I.mono λY Z⟨g',af⟩=>⟨g',?_,af.CV,af.Pg hd λk Q=>ES Q⟩;have hW:gJ C st o=⟨dx o.dst,[]⟩:=by simp only[gJ,Mv H,hp,cL]
             have ao:l7 C st o=⟨dx o.dst,[]⟩:=by simp only[l7,Mv H,D]
             have hn:l8 o=[]:=by simp only[l8,D,j]
             rw[hW,ao,hn];subst e1;exact ae4 af.rel
            |_=>simp[Ev.step,D,j,ha,U,ae] at A
       ·simp at u
      ·simp at u
     ·simp at u
    ·simp at u
end
end
section
def FO(ops:List Oper)(L:Nat->Bool):Prop:=∀j o,ops[j]?=some o->L j=true->∀e∈o.after.toList,Region.binds .any e=true->L e.on=true
def Pj(ops:List Oper)(j p:Nat):Prop:=∀L,FO ops L->(∀o,ops[j]?=some o->∀e∈o.after.toList,Region.binds .any e=true->L e.on=true)->∀i,Nat.testBit p i=true->L i=true
theorem L6{done:List Nat}{i:Nat}:∀{j:List Edge},Nat.testBit (yV done j) i=true->∃e∈j,Region.binds .any e=true/\(i=e.on\/Nat.testBit (done.getD e.on 0) i=true)
 |[],h=>by simp[yV] at h
 |e::j,h=>by
  simp only[yV] at h;cases u:Region.binds .any e with
  |false=>
   rw[u,cN] at h;obtain⟨x,y,a⟩:=L6 h;exact⟨x,by simp[y],a⟩
  |true=>
   rw[u,cL] at h;have h:Nat.testBit ((Nat.shiftLeft 1 e.on|||done.getD e.on 0)|||yV done j) i=true:=h;rw[Nat.testBit_or,Nat.testBit_or,xL,xL] at h;rcases h with(h|h)|h
   ·refine⟨e,by simp,u,.inl ?_⟩;have h:Nat.testBit (1<<<e.on) i=true:=h;rw[Nat.testBit_shiftLeft] at h;simp only[du,dF] at h;have a:=h.2;cases A:i-e.on with
    |zero=>omega
    |succ m=>rw[A,Nat.testBit_succ] at a;simp at a
   ·exact⟨e,by simp,u,.inr h⟩
   ·obtain⟨x,y,a⟩:=L6 h;exact⟨x,by simp[y],a⟩
theorem Ri{ops:List Oper}:∀(y pre:List Oper)(done:List Nat),ops=pre++y->done.length=pre.length->(∀j p,done[j]?=some p->Pj ops j p)->(oN y done).length=ops.length/\∀j p,(oN y done)[j]?=some p->Pj ops j p
 |[],pre,done,e,F,D=>by simp only[oN];exact⟨by rw[F,e];simp,D⟩
 |o::y,pre,done,e,F,D=>by
  simp only[oN];refine Ri y (pre++[o]) _ (by rw[e];simp) (by simp[F]) λj p a=>?_
  by_cases H:j<done.length
  ·rw[oB H] at a;exact D j p a
  ·rw[pG (by omega)] at a;have I:j-done.length=0:=by
    cases hx:j-done.length with
    |zero=>rfl
    |succ m=>rw[hx] at a;simp at a
   rw[I] at a;simp only[qp,cW] at a;subst a;have J:ops[j]?=some o:=by
    rw[e,pG (by omega)]
    have:j-pre.length=0:=by omega
    rw[this];rfl
   intro L Q S i u;obtain⟨E,U,Y,u⟩:=L6 u;have A:=S o J E U Y;rcases u with rfl|u
   ·exact A
   ·cases x:done[E.on]? with
    |none=>
     have:done.getD E.on 0=0:=by simp[iE,x]
     rw[this] at u;simp at u
    |some q=>
     have:done.getD E.on 0=q:=by simp[iE,x]
     rw[this] at u;exact D _ q x L Q (λZ M e2 N P=>Q _ Z M A e2 N P) i u
theorem Rj{e:Nat}{y:qi}:∀{u:List qi}{i:Nat},FY e y u i=true->∀k x,u[k]?=some x->Nat.testBit e (i+k)=true\/Ce x y=true
 |[],i,_,k,x,a=>by simp at a
 |x::u,i,h,k,z,a=>by
  simp only[FY] at h;cases j:(bif Nat.testBit e i then true else Ce x y) with
  |false=>rw[j] at h;simp at h
  |true=>
   rw[j,cL] at h;cases k with
   |zero=>
    simp only[qp,cW] at a;subst a;rw[q6];cases A:Nat.testBit e i with
    |true=>exact .inl rfl
    |false=>rw[A,cN] at j;exact .inr j
   |succ k=>
    have:=Rj h k z (by simpa using a);rwa[show Nat.succ i+k=i+(k+1) by omega] at this
theorem Rk:∀{A:List Nat}{u done:List qi},uP A u done=true->∀j p y,A[j]?=some p->u[j]?=some y->∀i x,(done++u)[i]?=some x->i<done.length+j->Nat.testBit p i=true\/Ce x y=true
 |[],[],done,_,j,p,y,a,e,i,x,hx,D=>by simp at a
 |p0::A,[],done,_,j,p,y,a,e,i,x,hx,D=>by simp at e
 |[],F::u,done,h,j,p,y,a,e,i,x,hx,D=>by simp at a
 |p0::A,F::u,done,h,j,p,y,a,e,i,x,hx,D=>by
  simp only[uP] at h;cases E:FY p0 F done 0 with
  |false=>rw[E] at h;simp at h
  |true=>
   rw[E,cL] at h;cases j with
   |zero=>
    simp only[qp,cW] at a e;subst a;subst e;rw[oB (by omega)] at hx;have:=Rj E i x hx;rwa[ia] at this
   |succ j=>
    refine Rk h j p y (by simpa using a) (by simpa using e) i x ?_ (by simp;omega);simpa using hx
theorem Ht:∀{u:List Oper}{i:Nat},uD i u=true->∀j o,u[j]?=some o->∀e∈o.after.toList,Region.binds .any e=true->e.on<i+j
 |[],i,_,j,o,h=>by simp at h
 |o0::u,i,h,j,o,x=>by
  simp only[uD] at h;cases y:(o0.after.toList.all λe=>bif Region.binds .any e then Nat.blt e.on i else true) with
  |false=>rw[y] at h;simp at h
  |true=>
   rw[y,cL] at h;cases j with
   |zero=>
    simp only[qp,cW] at x;subst x;intro e A a;have:=jh.1 y e A;rw[a,cL,sB] at this;omega
   |succ j=>
    intro e A a;have:=Ht h j o (by simpa using x) e A a;omega
theorem Tf{a b:List Nat}(h:meets a b=false):∀k,k∈a->k∈b->False:=λk e j=>by
 have:meets a b=true:=by
  simp only[meets,List.any_eq_true]
  exact⟨k,e,k,j,by simp⟩
 rw[this] at h;cases h
theorem QN{a b:Acc}(h:a.meets b=false):(∀k,k∈a.sl->k∈b.sl->False)/\∀k,k∈a.bx->k∈b.bx->False:=by
 simp only[Acc.meets] at h;cases e:Ev.meets a.sl b.sl with
 |true=>rw[e] at h;simp at h
 |false=>rw[e,cN] at h;exact⟨Tf e,Tf h⟩
structure Item where
 s:TS
 d:qi
 out:TS
def Item.ρ(a:Item)(e j:Nat->Bool):Rec:=oT e j a.d.w a.d.f a.d.n a.d.p a.out
section
variable(C:Cx)(ops:List Oper)
structure sk(o:Oper)(it:Item):Prop where
 r:it.d.r=jr C ops it.s o
 v:it.d.v=(jr C ops it.s o).sl.map it.s.slot
 kn:xp it.d.v=true
 go:∀f w n ps,oO f w n ps it.d.o=true->∀k∈it.d.w.sl,kl f w n ps (it.out.slot k)=it.out.slot k
 how:((∀j w,o.guard=some (j,w)->∃gd,nU ops j=some gd/\gd∈(jr C ops it.s o).sl/\it.s.slot gd=.b w)/\∃s',Ev.step C o (mr (jr C ops it.s o) it.s) some=some s'/\it.d=Cq C ops o it.s s'/\it.out=oP C ops o it.s s')\/
  ((∃j w gd,o.guard=some (j,w)/\nU ops j=some gd/\gd∈(jr C ops it.s o).sl/\((∃x,it.s.slot gd=.b x/\x≠w)\/it.s.slot gd=.eY []))/\it.d=Cf C ops o it.s/\it.out=mo o)
end
def wF(e j:Nat->Bool):FS->List Item->FS->Prop|F,[],a=>a=F|F,u::l,a=>fs u.s=F/\wF e j ((u.ρ e j).app F) l a
section
variable{C:Cx}{ops:List Oper}{R:Type}{r:R}{K:TS->Option R}
theorem ae5{o:Oper}(f w:Acc)(n:List Nat)(a:List Pl)(k:Nat):kl f w n a ((mo o).slot k)=(mo o).slot k:=by
 have:(mo o).slot k=.eY []\/(mo o).slot k=.un:=by
  simp only[TS.slot,mo]
  rw[yE .un (λ_=>TV.eY []),pQ,vI]
  split
  ·exact .inl rfl
  ·exact .inr rfl
 rcases this with e|e<;>rw[e]<;>first|(simp only[kl,KL];done)|skip
 refine FN (λj e=>by cases e) λ_=>?_;simp[kN,fF,mC,ld]
theorem ae6{s:TS}{k:Nat}{v:TV}(h:s.slot k=v)(a:v≠.un):fs (s.raw k v)=fs s:=C9 (funext λj=>S4 h a j) rfl
theorem ae7{R:Acc}{s t:TS}(h:fs s=fs t):ql R (fs s) (fs t):=by rw[h];exact⟨λ_ _=>rfl,λ_ _=>rfl⟩
theorem UN{ot oh:Nat->Bool}:∀(F:List Oper)(J:List qi)(s:TS),oK C ops F J s K=some r->eV s.t=ot->eV s.h=oh->
  ∃l:List Item,l.length=F.length/\uP (oN ops []) (J++l.map (·.d)) []=true/\uD 0 ops=true/\(∃H,K H=some r/\wF ot oh (fs s) l (fs H))/\∀(j:Nat)o it,F[j]?=some o->l[j]?=some it->sk C ops o it
 |[],J,s,h,ht,Y=>by
  simp only[oK] at h;cases h1:uP (oN ops []) J [] with
  |false=>rw[h1] at h;simp at h
  |true=>
   rw[h1,cL] at h;cases h2:uD 0 ops with
   |false=>rw[h2] at h;simp at h
   |true=>
    rw[h2,cL] at h;exact⟨[],rfl,by simpa using h1,rfl,⟨s,h,rfl⟩,λj o it hj=>by simp at hj⟩
 |o::F,J,s,h,ht,Y=>by
  simp only[oK] at h;cases Q:xp ((jr C ops s o).sl.map s.slot) with
  |false=>rw[Q] at h;simp at h
  |true=>
  rw[Q,cL] at h;have U:∀(it:Item)(u:TS)(T:TS),it.s=s->fs u=fs s->eV u.t=ot->eV u.h=oh->sk C ops o it->T=jO it.d.w it.d.f it.d.n it.d.p it.out u->oK C ops F (J++[it.d]) T K=some r->
    ∃l:List Item,l.length=(o::F).length/\uP (oN ops []) (J++l.map (·.d)) []=true/\uD 0 ops=true/\(∃H,K H=some r/\wF ot oh (fs s) l (fs H))/\∀(j:Nat)P it,(o::F)[j]?=some P->l[j]?=some it->sk C ops P it:=λit u T e1 Z e3 e4 hI hT h=>by
   have aa:eV T.t=ot:=by rw[hT,VM,e3]
   have ab:eV T.h=oh:=by rw[hT,VN,e4]
   obtain⟨l,h1,h2,h3,⟨H,h4,h5⟩,h6⟩:=UN F _ T h aa ab
   refine⟨it::l,by simp[h1],by simpa using h2,h3,⟨H,h4,by rw[e1],?_⟩,λj P ad hj hl=>?_⟩
   ·have:fs T=(it.ρ ot oh).app (fs s):=by
      rw[hT,Fo,e3,e4,Z];rfl
    rw[<-this];exact h5
   ·cases j with
    |zero=>
     simp only[qp,cW] at hj hl;subst hj;subst hl;exact hI
    |succ j=>exact h6 j P ad (by simpa using hj) (by simpa using hl)
  have M:∀(u:TS),fs u=fs s->eV u.t=ot->eV u.h=oh->(∀j w,o.guard=some (j,w)->∃A,nU ops j=some A/\A∈(jr C ops s o).sl/\s.slot A=.b w)->
    (FZ C (jr C ops s o) o u λs'=>oK C ops F (J++[Cq C ops o s s']) (jO (gJ C s o) (l7 C s o) (l8 o) (nw s o) (oP C ops o s s') u) K)=some r->
    ∃l:List Item,l.length=(o::F).length/\uP (oN ops []) (J++l.map (·.d)) []=true/\uD 0 ops=true/\(∃H,K H=some r/\wF ot oh (fs s) l (fs H))/\∀(j:Nat)P it,(o::F)[j]?=some P->l[j]?=some it->sk C ops P it:=λu Z e3 e4 I h=>by
   simp only[FZ] at h
   rw[QM (ae7 Z)] at h
   obtain⟨s',ae,h⟩:=abH h
   refine U ⟨s,Cq C ops o s s',oP C ops o s s'⟩ u _ rfl Z e3 e4 ⟨rfl,rfl,Q,λf w n ps hl k hk=>?_,.inl ⟨I,s',ae,rfl,rfl⟩⟩ rfl h
   exact MQ hl _ (gR.2 ⟨k,hk,rfl⟩)
  have E:∀(u:TS),fs u=fs s->eV u.t=ot->eV u.h=oh->(∃j w A,o.guard=some (j,w)/\nU ops j=some A/\A∈(jr C ops s o).sl/\((∃x,s.slot A=.b x/\x≠w)\/s.slot A=.eY []))->
    oK C ops F (J++[Cf C ops o s]) (jO ⟨dx o.dst,[]⟩ ⟨dx o.dst,[]⟩ [] [] (mo o) u) K=some r->
    ∃l:List Item,l.length=(o::F).length/\uP (oN ops []) (J++l.map (·.d)) []=true/\uD 0 ops=true/\(∃H,K H=some r/\wF ot oh (fs s) l (fs H))/\∀(j:Nat)P it,(o::F)[j]?=some P->l[j]?=some it->sk C ops P it:=λu Z e3 e4 I h=>
   U ⟨s,Cf C ops o s,mo o⟩ u _ rfl Z e3 e4 ⟨rfl,rfl,Q,λf w n ps _ k _=>ae5 f w n ps k,.inr ⟨I,rfl,rfl⟩⟩ rfl h
  cases I:o.guard with
  |none=>
   rw[I] at h;exact M s rfl ht Y (λj w e=>by rw[I] at e;cases e) h
  |some jw=>
   obtain⟨j,w⟩:=jw;rw[I] at h;simp only[] at h;cases D:nU ops j with
   |none=>rw[D] at h;simp at h
   |some A=>
    rw[D] at h;simp only[] at h;have N:A∈(jr C ops s o).sl:=by simp[jr,Acc.add,Vn,I,D,dx]
    split at h
    ·rename_i x hx;have S:∀y,x=y->fs (s.raw A (.b y))=fs s:=λy e=>by subst e;exact ae6 hx (by simp)
     have o1:∀v,eV (s.raw A v).t=ot:=λv=>by simp only[TS.raw];rw[yY,ht]
     cases w with
     |true=>
      simp only[] at h;rcases BA.1 h with⟨a,h⟩|⟨a,h⟩
      ·exact M _ (S _ a) (o1 _) Y (λj' w' e=>by rw[I] at e;cases e;exact⟨A,D,N,by rw[hx,a]⟩) h
      ·exact E _ (S _ a) (o1 _) Y ⟨j,_,A,I,D,N,.inl ⟨x,hx,by rw[a];simp⟩⟩ h
     |false=>
      simp only[] at h;rcases BA.1 h with⟨a,h⟩|⟨a,h⟩
      ·exact E _ (S _ a) (o1 _) Y ⟨j,_,A,I,D,N,.inl ⟨x,hx,by rw[a];simp⟩⟩ h
      ·exact M _ (S _ a) (o1 _) Y (λj' w' e=>by rw[I] at e;cases e;exact⟨A,D,N,by rw[hx,a]⟩) h
    ·rename_i hx;exact E s rfl ht Y ⟨j,w,A,I,D,N,.inr hx⟩ h
    ·simp at h
end
end
section
theorem Tg{C:Cx}{u:List Oper}{ox F:Oper}{x y:Item}{H I:Nat->Bool}(A:sk C u F y)
  (J:x.d.w.meets (y.d.r.add y.d.w)=false)(M:oO x.d.f x.d.w x.d.n x.d.p y.d.v=true):tL (x.ρ H I) y.d.r (fs y.s):=by
 obtain⟨N,Q⟩:=QN J;have D:∀k∈y.d.r.sl,y.s.slot k∈y.d.v:=λk e=>by
  rw[A.v]
  rw[A.r] at e
  exact gR.2 ⟨k,e,rfl⟩
 refine⟨λk e j=>?_,λk e j=>?_,λk e=>?_,λk e v R=>?_⟩
 ·simp only[Item.ρ,oT,du] at j;exact N k (jX.1 j.1) (eB.2 (.inl e))
 ·simp only[Item.ρ,oT,du] at j;exact Q k (jX.1 j.1) (eB.2 (.inl e))
 ·exact MQ M _ (D k e)
 ·exact af2 R (UK A.kn _ (D k e))
theorem pair{C:Cx}{j:List Oper}{ox N:Oper}{x y:Item}{A D:Nat->Bool}(hx:sk C j ox x)(Q:sk C j N y)(h:Ce x.d y.d=true):
  Comm (x.ρ A D) (y.ρ A D)/\tL (x.ρ A D) y.d.r (fs y.s)/\tL (y.ρ A D) x.d.r (fs x.s):=by
 unfold Ce at h;cases F:x.d.w.meets (y.d.r.add y.d.w) with
 |true=>rw[F] at h;simp at h
 |false=>
 rw[F,cN] at h;cases H:y.d.w.meets (x.d.r.add x.d.w) with
 |true=>rw[H] at h;simp at h
 |false=>
 rw[H,cN] at h;cases I:oO x.d.f x.d.w x.d.n x.d.p y.d.v with
 |false=>rw[I] at h;simp at h
 |true=>
 rw[I,cL] at h;cases J:oO y.d.f y.d.w y.d.n y.d.p x.d.v with
 |false=>rw[J] at h;simp at h
 |true=>
 rw[J,cL] at h;cases M:oO x.d.f x.d.w x.d.n x.d.p y.d.o with
 |false=>rw[M] at h;simp at h
 |true=>
 rw[M,cL] at h;obtain⟨R,S⟩:=QN F;refine⟨⟨λk e u=>?_,λk e u=>?_,λk e=>?_,λk e=>?_,λv=>adT _ _ _ _ _⟩,Tg (ox:=ox) Q F I,Tg (ox:=N) hx H J⟩
 ·simp only[Item.ρ,oT,du] at e u;exact R k (jX.1 e.1) (eB.2 (.inr (jX.1 u.1)))
 ·simp only[Item.ρ,oT,du] at e u;exact S k (jX.1 e.1) (eB.2 (.inr (jX.1 u.1)))
 ·simp only[Item.ρ,oT,du] at e;exact hx.go _ _ _ _ h k (jX.1 e.1)
 ·simp only[Item.ρ,oT,du] at e;exact Q.go _ _ _ _ M k (jX.1 e.1)
def KY(e j:Nat->Bool)(l:List Item)(i:Nat):Rec:=match l[i]? with
 |some u=>u.ρ e j
 |none=>⟨λ_=>false,λ_=>false,id,λ_=>.un,λ_=>(⟨pQ,rI⟩:TS).box 0⟩
theorem adX{e oh:Nat->Bool}{l:List Item}{i:Nat}{j:Item}(h:l[i]?=some j):KY e oh l i=j.ρ e oh:=by simp only[KY,h]
theorem R0{D oh:Nat->Bool}{ρ:Nat->Rec}{F0:FS}:∀(l:List Item)(m:Nat)(F x:FS),(∀j it,l[j]?=some it->ρ (m+j)=it.ρ D oh)->F=run ρ m (λ_=>true) F0->wF D oh F l x->
  x=run ρ (m+l.length) (λ_=>true) F0/\∀j it,l[j]?=some it->fs it.s=run ρ (m+j) (λ_=>true) F0
 |[],m,F,x,_,A,h=>⟨by simp only[wF] at h;rw[h,A];rfl,λj it e=>by simp at e⟩
 |it::l,m,F,x,y,A,h=>by
  simp only[wF] at h;have H:ρ m=it.ρ D oh:=y 0 it rfl;obtain⟨I,J⟩:=R0 (ρ:=ρ) (F0:=F0) l (m+1) _ x (λj u e=>by
   have:=y (j+1) u (by simpa using e)
   rwa[show m+1+j=m+(j+1) by omega]) (by simp only[run,gr];rw[H,A]) h.2;refine⟨by rw[I,fY,show m+1+l.length=m+(l.length+1) by omega],λj u e=>?_⟩;cases j with
  |zero=>
   simp only[qp,cW] at e;subst e;rw[h.1,A];rfl
  |succ j=>
   rw[J j u (by simpa using e),show m+1+j=m+(j+1) by omega]
theorem R1{p q:Nat->Bool}{i:Nat}(e:∀k,p k=true->q k=true)(u:p i=false)(x:q i=true):∀{l:List Nat},i∈l->l.countP p<l.countP q
 |[],h=>by simp at h
 |a::l,h=>by
  have y:l.countP p<=l.countP q:=List.countP_mono_left λk _=>e k
  by_cases A:a=i
  ·subst A;rw[P8,P8,u,x];simp only[iN,iD,gr];omega
  ·have D:i∈l:=by rcases eo.1 h with rfl|h;exact absurd rfl A;exact h
   have F:=R1 e u x D;rw[P8,P8]
   by_cases j:p a=true
   ·rw[j,e a j];simp only[gr];omega
   ·have:p a=false:=by simpa using j
    rw[this];simp only[iN,iD];omega
section
variable{P:Program}{C:Cx}{E:Env}{nt:Nat}{o:Oper}{g:Gs}{a:Act}{w:World}
theorem ab6{S:TS}{I:Gs}{w':World}(h:Rel C E (dZ C S o.dst (.eY [])) I w'):Rel C E (jO ⟨dx o.dst,[]⟩ ⟨dx o.dst,[]⟩ [] [] (mo o) S) I w':=by
 have F:=Fo ⟨dx o.dst,[]⟩ ⟨dx o.dst,[]⟩ [] [] (mo o) S;refine h.tD (λk=>?_) (λk=>?_)
 ·have this:(jO ⟨dx o.dst,[]⟩ ⟨dx o.dst,[]⟩ [] [] (mo o) S).slot k=if(fJ k (dx o.dst)&&eV S.t k)=true then(mo o).slot k else kl ⟨dx o.dst,[]⟩ ⟨dx o.dst,[]⟩ [] [] (S.slot k):=congrFun (congrArg Prod.fst F) k
  rw[this];clear this F;have x:=h.fD k;obtain⟨N,Q⟩:=Nz (C:=C) S o.dst (.eY [])
  by_cases D:o.dst=some k
  ·rw[Q k D] at x
   by_cases j:eV S.t k=true
   ·rw[cJ j] at x;have H:fJ k (dx o.dst)=true:=jX.2 (by simp[D,dx]);rw[H,j,mZ,cJ rfl];have R:kA (fF (kW C o.dst)) (fF (kW C o.dst)) (.eY [])=.eY []:=FN (λcs e=>by cases e) λ_=>rfl;rw[R] at x;have:(mo o).slot k=.eY []\/(mo o).slot k=.un:=by
     simp only[TS.slot,mo]
     rw[yE .un (λ_=>TV.eY []),pQ,vI]
     split
     ·exact .inl rfl
     ·exact .inr rfl
    rcases this with e|e<;>rw[e]
    ·exact x
    ·exact .un _ _
   ·have J:eV S.t k=false:=by simpa using j
    rw[J,YN,cK (by simp)];have:S.slot k=.un:=sU _ _ _ J;rw[this];simp only[kl,KL];exact .un _ _
  ·rw[N k D] at x;have H:fJ k (dx o.dst)=false:=by
    cases U:fJ k (dx o.dst) with
    |false=>rfl
    |true=>
     have:=jX.1 U
     cases y:o.dst with
     |none=>rw[y] at this;simp[dx] at this
     |some d=>rw[y] at this;simp[dx] at this;exact absurd (by rw[y,this]) D
   rw[H,xM,cK (by simp)];have A:=x.kA (mc ⟨dx o.dst,[]⟩ ⟨dx o.dst,[]⟩ []) (kN ⟨dx o.dst,[]⟩ ⟨dx o.dst,[]⟩ [] []);rw[wW] at A;have M:∀v,fF (kW C o.dst) v=true->fF (kb ⟨dx o.dst,[]⟩ ⟨dx o.dst,[]⟩ []) v=true:=λv u=>by
    have one:∀q,kW C o.dst q=true->kb ⟨dx o.dst,[]⟩ ⟨dx o.dst,[]⟩ [] q=true:=λq Y=>by
     obtain⟨d,y,Z⟩:=Rh Y
     have:q.iB ⟨dx o.dst,[]⟩=true:=yZ.2 (.inl ⟨d,wC.1 Z,by simp[y,dx]⟩)
     simp only[kb,o6,this,cL,YO]
    cases v<;>simp only[fF] at u⊢<;>first|exact one _ u|(cases u;done)
   have eq:kA (λv=>mc ⟨dx o.dst,[]⟩ ⟨dx o.dst,[]⟩ [] v||fF (kW C o.dst) v) (λv=>kN ⟨dx o.dst,[]⟩ ⟨dx o.dst,[]⟩ [] [] v||fF (kW C o.dst) v) (S.slot k)=kl ⟨dx o.dst,[]⟩ ⟨dx o.dst,[]⟩ [] [] (S.slot k):=by
    refine BK (λv=>?_) (λv=>?_) _
    ·simp only[mc];cases u:fF (kW C o.dst) v with
     |false=>simp
     |true=>rw[M v u];rfl
    ·simp only[kN];cases u:fF (kW C o.dst) v with
     |false=>simp
     |true=>rw[M v u];rfl
   rw[<-eq];exact A
 ·left
  have:=congrFun (congrArg Prod.snd F) k;simp only[fs,Rec.app,oT] at this;rw[this,UM];simp only[fJ,xM,iN,iD]
theorem Me{S:TS}(h:Rel C E S g w)(l:eb nt g a){A:Array Oper}(I:∀o∈A.toList,nS P C nt o=true){j y:Nat}(e:nU A.toList j=some y):
  (∀x,S.slot y=.b x->yielded A a.tmps j=some x)/\(S.slot y=.eY []->yielded A a.tmps j=none):=by
 rw[Nt,lG] at e;have J:y<nt:=by
  cases H:A[j]? with
  |none=>rw[H] at e;simp at e
  |some R=>
   rw[H] at e
   simp only[pC] at e
   have:=(uh (I R (by rw[<-lG] at H;exact eT H))).1
   rw[e] at this
   exact this
 have M:a.tmps[y]?=some (g.tm y):=by
  have N:=l.tm y J
  have Q:y<a.tmps.size:=by rw[l.sz];exact J
  rw[ju Q]
  rw[tX,ju Q] at N
  simpa using N
 have D:=h.fD y;refine⟨λx hx=>?_,λhx=>?_⟩
 ·rw[hx] at D;have F:g.tm y=.bool x:=D.oS;simp[yielded,e,M,F]
 ·rw[hx] at D;have F:∃vs,g.tm y=.tuple vs:=by
   generalize g.tm y=u at D
   cases D with
   |eY _ _ vs _ _ _=>exact⟨vs,rfl⟩
  obtain⟨vs,F⟩:=F;simp[yielded,e,M,F]
theorem NA{l:Array Bool}{i k:Nat}(j:i<l.size):(l.setIfInBounds i true).getD k false=if k=i then true else l.getD k false:=by
 simp only[tX,Array.getElem?_setIfInBounds]
 by_cases e:i=k
 ·subst e;simp[j]
 ·rw[cK e,cK (oy e)]
open Classical in
theorem adY(hC:fK P C)(hF:qG P C)(a9:nt<2047):FJ P C nt:=by
 intro E R r ops s K g a w Q ab D h l hQ;obtain⟨xv,aA,aB,aa,⟨se,aS,aG⟩,hI⟩:=UN (ot:=eV s.t) (oh:=eV s.h) ops.toList [] s D rfl rfl;rw[ic] at aB;obtain⟨bG,ba⟩:=Ri (ops:=ops.toList) ops.toList [] [] rfl rfl (λj p Y=>by simp at Y);generalize bb:eV s.t=ot at aG;generalize bc:eV s.h=oh at aG;have aH:∀j u,xv[j]?=some u->KY ot oh xv j=u.ρ ot oh:=λj u Y=>adX Y;generalize KY ot oh xv=ρ at aH;obtain⟨ad,be⟩:=R0 (ρ:=ρ) (F0:=fs s) xv 0 (fs s) (fs se) (λj u Y=>by rw[ia];exact aH j u Y) rfl aG;rw[ia,aA] at ad;have hn:ops.toList.length=ops.size:=by simp
 rw[hn] at ad aA;have I:∀j,j<ops.size->∃o u p,ops[j]?=some o/\ops.toList[j]?=some o/\xv[j]?=some u/\(oN ops.toList [])[j]?=some p/\ρ j=u.ρ ot oh/\sk C ops.toList o u/\Pj ops.toList j p:=λj Y=>by
  have M:j<ops.toList.length:=by omega
  have H:j<xv.length:=by omega
  have h3:j<(oN ops.toList []).length:=by omega
  have e1:=eA M
  have e2:=eA H
  have e3:=eA h3
  exact⟨_,_,_,by rw[<-lG];exact e1,e1,e2,e3,aH j _ e2,hI j _ _ e1 e2,ba j _ e3⟩
 have aI:∀i j p x y oi oj,i<j->xv[i]?=some x->xv[j]?=some y->(oN ops.toList [])[j]?=some p->Nat.testBit p i=false->sk C ops.toList oi x->sk C ops.toList oj y->Comm (x.ρ ot oh) (y.ρ ot oh)/\tL (x.ρ ot oh) y.d.r (fs y.s)/\tL (y.ρ ot oh) x.d.r (fs x.s):=λi j p x y oi oj bf hx hy hp hb bg bh=>by
  rcases Rk aB j p y.d hp (by simp[hy]) i x.d (by simp[hx]) (by simpa using bf) with e|e
  ·rw[hb] at e;cases e
  ·exact pair bg bh e
 have aT:∀(J:Nat)(listed:Array Bool)(S:TS)(g1:Gs)(a1:Act)(w1:World),listed.size=ops.size->FO ops.toList (λk=>listed.getD k false)->(List.range ops.size).countP (λk=>!listed.getD k false)<=J->
   Rel C E S g1 w1->eb nt g1 a1->iR nt g g1->fs S=run ρ ops.size (λk=>listed.getD k false) (fs s)->eV S.t=ot->eV S.h=oh->wpAny P .any ops Q J listed a1 w1:=by
  intro J
  induction J with
  |zero=>
   intro listed S g1 a1 w1 aU aj aJ hR hL aw ak aK aL
   have all:∀k,k<ops.size->listed.getD k false=true:=λk D=>by
    have:=List.countP_eq_zero.1 (Nat.le_zero.1 aJ) k (xG.2 D)
    simpa using this
   refine⟨?_,?_⟩
   ·rw[List.eq_nil_iff_forall_not_mem];intro i hi;simp only[Region.ready,YP,xG,du,lj] at hi;have M:=all i hi.1;have H:=hi.2.1;rw[tX] at M H;rw[ju (by omega)] at M H;simp at M H;rw[M] at H;cases H
   ·have e:fs se=fs S:=by
      rw[ad,ak]
      exact vY λk D=>(all k D).symm
    exact hQ se g1 a1 w1 aS (hR.tD (λk=>by rw[show se.slot k=S.slot k from congrFun (congrArg Prod.fst e) k];exact hR.fD k) (λk=>.inl (congrFun (congrArg Prod.snd e) k))) hL aw
  |succ J ih=>
   intro listed S g1 a1 w1 aU aj aJ hR hL aw ak aK aL;refine⟨λhr=>?_,λi hi=>?_⟩
   ·have all:∀m k,k<m->k<ops.size->listed.getD k false=true:=by
      intro m
      induction m with
      |zero=>intro k D;omega
      |succ m aV=>
       intro k D aM
       by_cases bi:k<m
       ·exact aV k bi aM
       ·have bj:k=m:=by omega
        subst bj;cases hb:listed.getD k false with
        |true=>rfl
        |false=>
         exfalso;obtain⟨o,u,p,ho,af,_⟩:=I k aM;have:k∈Region.ready .any ops listed:=by
          simp only[Region.ready,YP,xG,du,lj]
          refine⟨aM,?_,?_⟩
          ·rw[tX,ju (by omega)] at hb⊢;simpa using hb
          ·rw[ho];simp only[jc,YG];rw[<-Array.all_toList,jh];intro e Z;cases F:Region.binds .any e with
           |false=>rfl
           |true=>
            have:=Ht aa k o af e Z F;rw[ia] at this;have:=aV e.on this (by omega);simpa using this
         rw[hr] at this;simp at this
    have e:fs se=fs S:=by
     rw[ad,ak]
     exact vY λk D=>(all (k+1) k (by omega) D).symm
    exact hQ se g1 a1 w1 aS (hR.tD (λk=>by rw[show se.slot k=S.slot k from congrFun (congrArg Prod.fst e) k];exact hR.fD k) (λk=>.inl (congrFun (congrArg Prod.snd e) k))) hL aw
   ·simp only[Region.ready,YP,xG,du,lj] at hi;obtain⟨aN,aC,ae⟩:=hi;obtain⟨o,u,p,ho,af,hit,hp,aD,ax,bk⟩:=I i aN;have am:listed.getD i false=false:=by
     rw[tX,ju (by omega)] at aC⊢
     simpa using aC
    have aW:∀e∈o.after.toList,Region.binds .any e=true->listed.getD e.on false=true:=λe Z F=>by
     rw[ho] at ae
     simp only[jc,YG] at ae
     rw[<-Array.all_toList,jh] at ae
     have:=ae e Z
     rw[F] at this
     simpa using this
    have bm:o∈ops.toList:=eT af;have aX:=ab o bm
    let Qn:Nat->Bool:=λk=>decide (∀X,FO ops.toList X->(∀e∈o.after.toList,Region.binds .any e=true->X e.on=true)->X k=true)
    have an:∀k,Qn k=true↔∀X,FO ops.toList X->(∀e∈o.after.toList,Region.binds .any e=true->X e.on=true)->X k=true:=λk=>by simp only[Qn,dF]
    have bn:∀k,Qn k=true->listed.getD k false=true:=λk D=>(an k).1 D _ aj aW;have aY:∀k,Qn k=true->k<i:=λk D=>by
     have:=(an k).1 D (λk=>decide (k<i)) (λj oj Y hX e Z F=>by
      have M:=Ht aa j oj Y e Z F
      simp only[dF] at hX⊢
      omega) (λe Z F=>by
      have M:=Ht aa i o af e Z F
      simp only[dF]
      omega)
     simpa using this
    have aZ:FO ops.toList Qn:=λj oj Y hX e Z F=>(an _).2 λX ay aO=>ay j oj Y ((an j).1 hX X ay aO) e Z F;have bo:∀k,Nat.testBit p k=true->Qn k=true:=λk D=>(an k).2 λX ay aO=>bk X ay (λo' ah=>by rw[af] at ah;cases ah;exact aO) k D;have aE:∀k j,k<j->j<ops.size->Qn k=false->Qn j=true->Comm (ρ k) (ρ j):=λk j bp Y D hq=>by
     obtain⟨ok,ao,pk,_,_,N,_,U,ap,_⟩:=I k (by omega)
     obtain⟨oj,bq,pj,_,bE,a0,br,a2,bs,bt⟩:=I j Y
     rw[U,a2]
     refine(aI k j pj ao bq ok oj bp N a0 br ?_ ap bs).1
     cases hb:Nat.testBit pj k with
     |false=>rfl
     |true=>
      have:=bt Qn aZ (λo' ah e Z F=>aZ j o' ah hq e Z F) k hb
      rw[this] at D;cases D
    have lo:∀k,k<i->Qn k=false->tL (ρ k) u.d.r (fs u.s):=λk ai D=>by
     obtain⟨ok,ao,pk,_,_,N,_,U,ap,_⟩:=I k (by omega)
     rw[U]
     refine(aI k i p ao u ok o ai N hit hp ?_ ap ax).2.1
     cases hb:Nat.testBit p k with
     |false=>rfl
     |true=>have:=bo k hb;rw[this] at D;cases D
    have a3:∀k,i<k->k<ops.size->listed.getD k false=true->Comm (ρ i) (ρ k)/\tL (ρ k) u.d.r (fs u.s):=λk bu D aq=>by
     obtain⟨ok,ao,pk,_,bF,N,bv,U,ap,bw⟩:=I k D
     rw[U,aD]
     have:=aI i k pk u ao o ok bu hit N bv (by
      cases hb:Nat.testBit pk i with
      |false=>rfl
      |true=>
       have:=bw _ aj (λo' ah e Z F=>aj k o' ah aq e Z F) i hb
       rw[this] at am;cases am) ax ap
     exact⟨this.1,this.2.2⟩
    have a4:fs u.s=run ρ i (λ_=>true) (fs s):=by have:=be i u hit;rwa[ia] at this
    have a5:ql u.d.r (run ρ i Qn (fs s)) (fs u.s):=by
     refine(Te (A:=λ_=>true) (λ_ _=>rfl) λk D _ hq=>⟨lo k D hq,λj M H h3=>aE k j M (by omega) hq h3⟩).1 ?_
     rw[<-a4]
     exact⟨λ_ _=>rfl,λ_ _=>rfl⟩
    have a6:ql u.d.r (run ρ ops.size Qn (fs s)) (fs u.s):=by
     rw[Ny (m:=i) (by omega) λk M H=>by
      cases hb:Qn k with
      |false=>rfl
      |true=>have:=aY k hb;omega]
     exact a5
    have bA:ql u.d.r (fs S) (fs u.s):=by
     rw[ak]
     refine(Te bn λk D aq hq=>⟨?_,λj M H h3=>aE k j M H hq h3⟩).2 a6
     by_cases ai:k<i
     ·exact lo k ai hq
     ·have:k≠i:=λe=>by subst e;rw[am] at aq;cases aq
      exact(a3 k (by omega) D aq).2
    have au:ql (jr C ops.toList u.s o) (fs S) (fs u.s):=by rw[<-ax.r];exact bA
    have next:∀g' a' w',Rel C E (jO u.d.w u.d.f u.d.n u.d.p u.out S) g' w'->eb nt g' a'->iR nt g1 g'->wpAny P .any ops Q J (listed.setIfInBounds i true) a' w':=λg' a' w' M H h3=>by
     have a7:(λk=>(listed.setIfInBounds i true).getD k false)=xg (λk=>listed.getD k false) i:=by
      funext k
      rw[NA (by omega)]
      rfl
     refine ih _ _ g' a' w' (by simpa using aU) ?_ ?_ M H (aw.trans h3) ?_ (by rw[VM,aK]) (by rw[VN,aL])
     ·rw[a7];intro j oj Y hX e Z F;simp only[xg] at hX⊢
      by_cases a8:j=i
      ·rw[a8,af] at Y;cases Y;split
       ·rfl
       ·exact aW e Z F
      ·rw[cK a8] at hX;split
       ·rfl
       ·exact aj j oj Y hX e Z F
     ·refine Nat.le_of_lt_succ (LH (R1 (i:=i) (q:=λk=>!listed.getD k false) (λk D=>?_) ?_ ?_ (xG.2 aN)) aJ)
      ·rw[NA (by omega)] at D
       by_cases ai:k=i
       ·rw[cJ ai] at D;simp at D
       ·rw[cK ai] at D;exact D
      ·rw[NA (by omega)];simp
      ·simp[am]
     ·rw[Fo,aK,aL,ak,a7];rw[<-Od am aN λj M H h3=>(a3 j M H h3).1,aD];rfl
    unfold wpOp;rcases ax.how with⟨bB,s',bC,aP,av⟩|⟨⟨j,wv,gd,hg,az,aQ,aR⟩,aP,av⟩
    ·have hw:Region.wanted o (yielded ops a1.tmps)=true:=by
       cases hg:o.guard with
       |none=>simp[Region.wanted,hg]
       |some jw=>
        obtain⟨j,wv⟩:=jw
        obtain⟨gd,az,aQ,aR⟩:=bB j wv hg
        have:=(Me hR hL ab az).1 wv (by rw[show S.slot gd=u.s.slot gd from au.sl gd aQ];exact aR)
        simp only[Region.wanted,hg,this]
        cases wv<;>rfl
     simp only[ho,hw,gr];refine .inl (adW hC hF a9 hR hL aX au bC _ Q λa' w'⟨g',M,H,h3⟩=>next g' a' w' ?_ H h3);rw[aP,av];exact M
    ·have aF:S.slot gd=u.s.slot gd:=au.sl gd aQ;have hw:Region.wanted o (yielded ops a1.tmps)=false:=by
      rcases aR with⟨x,hx,bD⟩|hx
      ·have:=(Me hR hL ab az).1 x (by rw[aF,hx]);simp only[Region.wanted,hg,this];cases wv<;>cases x<;>first|rfl|exact absurd rfl bD
      ·have:=(Me hR hL ab az).2 (by rw[aF,hx]);simp[Region.wanted,hg,this]
     simp only[ho,hw,iN,iD];have hd:=(uh aX).1;obtain⟨g',H⟩:=UF (o:=o) (nb:=λ_=>False) hR hL hd;refine next g' _ _ ?_ H.CV (H.Pg hd λk hb=>hb.elim)
     rw[aP,av];exact ab6 H.rel
 refine aT ops.size (Array.replicate ops.size false) s g a w (by simp) (λj oj _ hX=>?_) ?_ h l iR.refl ?_ bb bc
 ·exfalso;simp only[tX,P5] at hX;split at hX<;>simp at hX
 ·exact zO List.countP_le_length (by simp)
 ·rw[Ny (m:=0) (xD _) λk _ _=>?_]
  ·rfl
  ·simp only[tX,P5];split<;>rfl
end
end
end Go.Sd
namespace Go.Ev
open Go
def oM(_:Nat)(x:Int):Option cq:=if-9223372036854775808<=x/\x<=9223372036854775807 then some (Lib.itoa x) else none
def FP(_:Nat)(s:cq):Option (Int×Bool):=if s.length<=281474976710656 then some (match Lib.atoiAll s with|.ok v=>(v,false)|.range=>(Lib.atoiSat s,true)|_=>(0,true)) else none
def zk(_:Nat)(s a:cq):Option (cq×cq×Bool):=if s.length<4294967281 then some (Lib.cut s a) else none
def Mf(_:Nat)(s p:cq):Option Bool:=some (Lib.hasPrefix s p)
def qA(_:Nat)(s a:cq):Option (List cq):=if s.length<4294967281/\1<=a.length then some (Lib.split s a) else none
def Ck(_:Nat)(e:List cq)(a:cq):Option cq:=if e.length<=140737488355328/\(Lib.join e a).length<=140737488355328 then some (Lib.join e a) else none
def wq(_:Nat)(s:cq)(c:Int):Option cq:=if 0<=c/\c<=9223372036854775807/\s.length*c<=140737488355328 then some (Lib.repeatL s c.toNat) else none
def hexDs:Nat->Nat->cq
 |0,_=>[]
 |k+1,x=>if x<16 then[([48,49,50,51,52,53,54,55,56,57,97,98,99,100,101,102]:cq).getD x 0] else hexDs k (x/16)++[([48,49,50,51,52,53,54,55,56,57,97,98,99,100,101,102]:cq).getD (x % 16) 0]
def ya(_:Nat)(x a:Int):Option cq:=if a=16/\0<=x/\x<18446744073709551616 then some (hexDs 16 x.toNat) else none
def BM(_:Nat)(a:List dj)(i:Int)(e:List dj):Option (List dj):=if 0<=i/\i<=a.length/\e.length=1/\a.length<4294967296 then some (a.take i.toNat++e++a.drop i.toNat) else none
def yP(_:Nat)(a:List dj)(i j:Int):Option (List dj):=if 0<=i/\j=i+1/\j<=a.length/\a.length<4294967296 then some (a.take i.toNat++a.drop j.toNat) else none
def ET(_:Nat)(a:List Int):Option (List Int):=if a.length<4294967296 then some a else none
def EU(_:Nat)(a:List dj):Option (List dj):=if a.length<4294967296 then some a else none
def EV(_:Nat)(a:List eH):Option (List eH):=if a.length<4294967296 then some a else none
def EW(_:Nat)(a:List de):Option (List de):=if a.length<4294967296 then some a else none
def EX(_:Nat)(b s:cq):Option (Int×Bool×cq):=if 1<=s.length/\b.length+s.length<=140737488355328 then some ((s.length:Int),false,b++s) else none
def Pk:cq:=List.replicate 140737488355329 0
theorem aaN:Pk.length=140737488355329:=Yz
def Ip(_:Nat)(b:cq):Option (cq×cq):=if 1<=b.length/\b.length<=140737488355328 then some (b,Pk) else none
end Go.Ev
namespace Go.Sd
open Go Go.RowKit
open Go.Ev hiding World Event Rd
open Go.Proofs
section
structure o9 (R:Type) where
 si:Live
 so:Live
 L:Nat->si.V->(so.V->Option R)->Option R
def wL{R:Type}(n:Nat):List (Nat×o9 R)->Nat->Option (PL R)|[],_=>none|(i,s)::l,id=>bif Nat.beq i id then some ⟨s.si,s.so,s.L n⟩ else wL n l id
structure Fz where
 fz:List Nat:=[]
 Xi:List (Nat×Nat):=[]
 fzs:Bool:=true
 vd:Bool:=false
 al:List Nat:=[]
 vs:List Nat:=[]
 pre:Nat->List Pl:=λ_=>[]
def tM(W:World)(i:Nat):Option Obj:=bif Nat.blt i 10 then W.heap[i]? else none
def tN(W:World)(q:Fz)(a:List (Nat×Nat×gq)):Cx:=⟨Ge,sa,λp=>match p with|.slot k=>q.fz.contains k|.cell k c=>q.Xi.contains (k,c)|.sub _ _ _ _=>q.fzs,q.vd,λk=>fJ k q.al,λk=>fJ k q.vs,q.pre,FU a,tM W⟩
def zG(W:World)(q:Fz)(e:List (Nat×Nat×gq))(n:Nat)(j:Nat)(u:List ResultVar)(c:gq)(g0:jQ c.rs×nE c.ps->c.X)(a:List (Nat×o9 c.X)):Ctx c.X:=⟨tN W q e,wL n a,OH Ge j u c.ps c.rs g0⟩
abbrev kO(W:World)(f:Nat)(c:gq):Prop:=Enters Tryz.prog f/\FI Tryz.prog sa (tM W) f c
def eJ(W:World):List (Nat×Nat×gq)->Prop|[]=>True|e::l=>kO W e.1 e.2.2/\eJ W l
theorem OS{W:World}{C:Cx}(e:C.gl=sa)(j:C.gb=tM W):∀{l:List (Nat×Nat×gq)},eJ W l->∀g h c,FU l g h=some c->Enters Tryz.prog g/\FI Tryz.prog C.gl C.gb g c
 |[],_,g,h,c,a=>by simp[FU] at a
 |(x,y,E)::l,u,g,h,c,a=>by
  have A:∀b:Bool,(bif (bif Nat.beq x g then b else false) then some E else FU l g h)=some c->Enters Tryz.prog g/\FI Tryz.prog C.gl C.gb g c:=λb a=>by
   cases D:Nat.beq x g with
   |false=>rw[D] at a;exact OS e j u.2 g h c a
   |true=>
    rw[D] at a
    cases b with
    |false=>exact OS e j u.2 g h c a
    |true=>
     have:=gw D
     subst this
     have:=gA (show some E=some c from a)
     subst this
     rw[e,j]
     exact u.1
  exact A _ a
section
variable{R:Type}
def Gi(D:Ctx R)(code:Code):List (Nat×o9 R)->Prop|[]=>True|e::l=>((∀v k,e.2.L 0 v k=none)/\∀m v k,e.2.L (m+1) v k=FL D e.1 (Fy e.1 code) e.2.si e.2.so (e.2.L m) v k)/\Gi D code l
theorem Th{D:Ctx R}{code:Code}{n id:Nat}{s:PL R}:∀{l:List (Nat×o9 R)},Gi D code l->wL n l id=some s->∃q:o9 R,s=⟨q.si,q.so,q.L n⟩/\(∀v k,q.L 0 v k=none)/\∀m v k,q.L (m+1) v k=FL D id (Fy id code) q.si q.so (q.L m) v k
 |[],_,h=>by simp[wL] at h
 |(i,q)::l,e,h=>by
  simp only[wL] at h;cases a:Nat.beq i id with
  |false=>rw[a] at h;exact Th e.2 h
  |true=>
   rw[a] at h;have:=gw a;subst this;cases h;exact⟨q,rfl,e.1⟩
theorem QO{n id:Nat}:∀{l:List (Nat×o9 R)},fJ id (l.map (·.1))=true->∃s,wL n l id=some s
 |[],h=>by simp[fJ] at h
 |(i,q)::l,h=>by
  simp only[wL];cases a:Nat.beq i id with
  |true=>exact⟨_,rfl⟩
  |false=>
   simp only[cN];refine QO ?_;have:=jX.1 h;simp only[lk,eo] at this;rcases this with e|e
   ·subst e;simp at a
   ·exact jX.2 e
def FQ:List Nat->Bool|[]=>true|x::l=>!fJ x l&&FQ l
theorem QP{id:Nat}{c:Code}:∀{l:List (Nat×Code)},FQ (l.map (·.1))=true->(id,c)∈l->Jp id l=c
 |[],_,h=>by simp at h
 |(i,u)::l,a,h=>by
  simp only[lk,FQ,du,lj] at a;simp only[Jp];rcases eo.1 h with e|h
  ·cases e;simp
  ·cases j:Nat.beq i id with
   |true=>
    have:=gw j;subst this;have:=jX.2 (gR.2 ⟨_,h,rfl⟩:i∈l.map (·.1));rw[this] at a;simp at a
   |false=>exact QP a.2 h
theorem ur{P:Program}{D:Ctx R}{M n:Nat}(E:P.follows .mixedOrders=true)(hC:fK P D.c)(F:qG P D.c)(y:FJ P D.c M){u:Code}{C:List (Nat×o9 R)}(H:D.loops=wL n C)(I:Gi D u C)(J:FQ ((lH u).map (·.1))=true)(j:((lH u).all λp=>fJ p.1 (C.map (·.1))&&lv P D.c M p.2)=true):
  ∀(c:Code),(∀p∈lH c,p∈lH u)->sT P D M c
 |.seq a b,h=>⟨ur E hC F y H I J j a λp A=>h p (by simp[lH,A]),ur E hC F y H I J j b λp A=>h p (by simp[lH,A])⟩
 |.cond x a b,h=>⟨ur E hC F y H I J j a λp A=>h p (by simp[lH,A]),ur E hC F y H I J j b λp A=>h p (by simp[lH,A])⟩
 |.block id (.loop c),h=>by
  have A:=h (id,c) (by simp[lH]);have N:=jh.1 j _ A;simp only[du] at N;obtain⟨s,Q⟩:=QO (R:=R) (n:=n) N.1;obtain⟨q,rfl,U,S⟩:=Th I Q;have e:Fy id u=c:=QP J A;rw[e] at S;exact adL E hC F y (by rw[H];exact Q) U S N.2 (ur E hC F y H I J j c λp A=>h p (by simp[lH,A]))
 |.block id .skip,h=>trivial
 |.block id (.region _ _ _),h=>trivial
 |.block id (.seq a b),h=>ur E hC F y H I J j (.seq a b) h
 |.block id (.cond x a b),h=>ur E hC F y H I J j (.cond x a b) h
 |.block id (.block i b),h=>ur E hC F y H I J j (.block i b) h
 |.block id (.rangeFunc _ _ _ _),h=>trivial
 |.block id (.exit _),h=>trivial
 |.block id (.scope _),h=>trivial
 |.block id (.label _),h=>trivial
 |.block id (.goto _),h=>trivial
 |.block id .ret,h=>trivial
 |.block id (.refuse _),h=>trivial
 |.skip,h=>trivial
 |.region _ _ _,h=>trivial
 |.loop _,h=>trivial
 |.rangeFunc _ _ _ _,h=>trivial
 |.exit _,h=>trivial
 |.scope _,h=>trivial
 |.label _,h=>trivial
 |.goto _,h=>trivial
 |.ret,h=>trivial
 |.refuse _,h=>trivial
end
theorem cx0:(Ge.all λp=>iX Tryz.prog ⟨Ge,λ_=>.un,λ_=>true,true,λ_=>true,λ_=>true,λ_=>[],λ_ _=>none,λ_=>none⟩ p.1 p.2)=true:=by kernel_rfl
theorem R2{Q:TV->Prop}(a:∀(l:List Int),Q (.iv (.int .u32) l))(e:Q .un)(i:Nat):Q (sa i):=by
 unfold sa;cases Nat.beq i 0<;>cases Nat.beq i 2<;>first|exact a _|exact e
theorem Zs(P:Program){C j:Cx}(h:C.ty=j.ty)(n:Nat)(ti:TI):iX P C n ti=iX P j n ti:=by
 obtain⟨y,a,b,c,d,e,f,g,A⟩:=C;obtain⟨u,D,E,F,H,I,J,M,x⟩:=j;simp only at h;subst h;rfl
theorem af7(W:World)(q:Fz)(a:List (Nat×Nat×gq)):fK Tryz.prog (tN W q a):=⟨λn=>afK (C:=tN W q a) (by
 have e:(λp:Nat×TI=>iX Tryz.prog (tN W q a) p.1 p.2)=λp=>iX Tryz.prog ⟨Ge,λ_=>.un,λ_=>true,true,λ_=>true,λ_=>true,λ_=>[],λ_ _=>none,λ_=>none⟩ p.1 p.2:=funext λp=>Zs _ rfl _ _
 rw[e]
 exact cx0) n,λi=>R2 (Q:=λv=>gf v=true) (λ_=>rfl) rfl i⟩
theorem ae8(i:Nat):(∀p,¬ MV p (sa i))/\∀k,¬ MB k (sa i):=R2 (Q:=λv=>(∀p,¬ MV p v)/\∀k,¬ MB k v) (λ_=>⟨λ_ h=>(by cases h),λ_ h=>by cases h⟩) ⟨λ_ h=>(by cases h),λ_ h=>by cases h⟩ i
noncomputable def KZ(W:World)(a:Func)(e:Nat)(q:Fz)(j:List (Nat×Nat×gq))(c:gq)(u:List Nat):Bool:=
 a.body.isSome&&(Nat.beq a.ntmps e&&Nat.blt e 2047&&!(a.name== "runtime.NumGoroutine")&&lv Tryz.prog (tN W q j) e (a.body.getD .skip)&&rQ (tN W q j) e 0 c.ps&&Nat.ble c.ps.length e&&a.results.toList.all (CM e)&&FQ ((lH (a.body.getD .skip)).map (·.1))&&(lH (a.body.getD .skip)).all λp=>fJ p.1 u&&lv Tryz.prog (tN W q j) e p.2)
theorem adZ(W:World)(f:Nat)(A:Func)(nt:Nat)(c:gq)(n:Nat)(q:Fz)(j:List (Nat×Nat×gq))(g0:jQ c.rs×nE c.ps->c.X)(u:List (Nat×o9 c.X))(E:List Nat)(F:u.map (·.1)=E)(M:∀y,c.back (g0 y)=y)
  (Y:Tryz.prog.funcs[f]?=some A)(Z:eJ W j)(hS:Gi (zG W q j n nt A.results.toList c g0 u) (A.body.getD .skip) u)
  (I:KZ W A nt q j c E=true)(N:∀a,Gv (zG W q j n nt A.results.toList c g0 u) nt (A.body.getD .skip) c.ps a=c.f a):kO W f c:=by
 subst F;simp only[KZ,du] at I;obtain⟨J,⟨⟨⟨⟨⟨⟨⟨P,h2⟩,S⟩,h4⟩,h5⟩,h6⟩,h7⟩,h8⟩,h9⟩:=I;have P:=gw P;have J:A.body=some (A.body.getD .skip):=by
  cases Q:A.body with
  |none=>rw[Q] at J;simp at J
  |some x=>rfl
 have U:Tryz.prog.follows .mixedOrders=true:=rfl;have hC:fK Tryz.prog (tN W q j):=af7 W q j;have D:qG Tryz.prog (tN W q j):=⟨λg h c I=>OS (C:=tN W q j) rfl rfl Z g h c I⟩;have H:=adY hC D (nt:=nt) (by simpa[sB] using h2);exact af1 U Y J P (λe=>by rw[e] at S;simp at S) (zG W q j n nt A.results.toList c g0 u) hC D H ae8 rfl M h4 (ur U hC D H rfl hS h8 h9 _ λ_ h=>h) h5 (YC h6) (λv hv=>jh.1 h7 v hv) (λa y h=>by rw[N];exact h)
theorem ad0(W:World)(f:Nat)(j:Func)(c:gq)(D:Tryz.prog.funcs[f]?=some j)(u:(j.body.isSome&&!(j.name== "runtime.NumGoroutine"))=true)(h:∀a,c.f a=none):kO W f c:=by
 simp only[du] at u;refine⟨⟨j,D,λe=>?_,?_⟩,λH w A E x y _ _ _ C=>by rw[h] at C;cases C⟩
 ·rw[e] at u;simp at u
 ·cases F:j.body with
  |none=>rw[F] at u;simp at u
  |some x=>rfl
end
end Go.Sd
