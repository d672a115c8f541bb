/- The evaluator is sound, third part: calls, draws, loops, functions. No conditions. -/
import Derived.Orders
import Derived.Lib.ItoaNum
import Derived.Lib.AtoiAll
import Derived.Lib.IndexMore
import Derived.Lib.Strings
import Derived.Lib.Split
import Derived.Lib.Join
import Derived.Lib.Repeat
import Derived.Test.YtfnlbejcgjlclaaGreatDoorProg
import Derived.Test.YtfnlbejcgjlclaaGreatDoorB
import Derived.Test.YtfnlbejcgjlclaaGreatDoorA
set_option linter.all false
namespace Go.Sd
open Go Go.RowKit
open Go.Ev hiding World cY Rd
section
def ea(a:Nat->G)(w:World):Rc:=⟨w,a,λ_=>0,λ_=>none⟩
abbrev oG(b:Nat):Value:=.pointer (some ⟨b,0,none⟩)
def rz(c:Rc)(i:Nat)(e:Value):(p:dX)->p.T->Value->Prop|.val q,x,v=>Rd c (some (.cE i,[])) (q.enc x) v|.pb t m _,x,v=>∃b,v=oG b/\tS c (.cE i) b (jz m (enc false t x))|.pr t,x,v=>Rd c (some (.cE i,[])) (.own true t x.1) e/\∃b o a j,e=.slice (some ⟨b,o,none⟩) a j/\0<=x.2/\x.2<(a:Int)/\v=.pointer (some ⟨b,o+x.2.toNat*cI t,none⟩)|.mu t,x,v=>Rd c (some (.cE i,[])) (.own true t x) e/\v=e|.rp t,x,v=>Rd c none (.ip (enc false t x) 0) v|.bd,x,v=>∃b,v=oG b/\xA c (.cE i) b x|.fn g u,x,v=>Rd c none (.fn g (kq u x)) v
def He(c:Rc)(i:Nat)(a:Value):(p:dX)->p.O->Value->Prop|.pb t _ e,o,v=>∃b,v=oG b/\tS c (.cE i) b (jz e (enc false t o))|.pr t,o,_=>Rd c (some (.cE i,[])) (.own true t o) a|.mu t,o,_=>Rd c (some (.cE i,[])) (.own true t o) a|.bd,o,v=>∃b,v=oG b/\xA c (.cE i) b o|.val _,_,_=>True|.rp _,_,_=>True|.fn _ _,_,_=>True
def qE(c:Rc)(a:Nat->Value):Nat->(e:List dX)->oS e->List Value->Prop|_,[],_,j=>j=[]|_,_::_,_,[]=>False|i,p::e,x,v::j=>rz c i (a i) p x.1 v/\qE c a (i+1) e x.2 j
def Ae(c:Rc)(a:Nat->Value):Nat->(e:List dX)->n8 e->List Value->Prop|_,[],_,_=>True|_,_::_,_,[]=>False|i,p::e,x,v::j=>He c i (a i) p x.1 v/\Ae c a (i+1) e x.2 j
def rA(c:Rc)(n:Nat)(rs:List fC)(x:j7 rs)(v:Value):Prop:=
 match rs,x with
 |[.nb t m],x=>∃b,v=oG b/\tS c (.cE n) b (jz m (enc false t x.1))
 |rs,x=>Rd c (some (.cE n,[])) (pack (gK rs x)) v
def Af(e:Nat->TV)(j:Nat->Option Obj)(a:Nat->G)(w:World):Prop:=(∀i,Rd (ea a w) none (e i) (.pointer (some ⟨i,0,none⟩)))/\∀i o,j i=some o->a i=.im/\w.heap[i]?=some o
def Gl(P:Program)(F:Nat->TV)(H:Nat->Option Obj)(f:Nat)(c:gN):Prop:=∀(A:Nat->G)(w:World)(a:List Value)(u:Nat->Value)(x:oS c.ps)(y:c.X),(∀b,w.heap.size<=b->A b=.fr)->Af F H A w->qE (ea A w) u 0 c.ps x a->c.f x=some y->Calls P f a.toArray w (λe D=>∃v j,e=.returned v/\dK (λq _=>∃n,q=.cE n) A w j D/\rA (ea j D) c.ps.length c.rs (c.back y).1 v/\Ae (ea j D) u 0 c.ps (c.back y).2 a)
def Enters(P:Program)(f:Nat):Prop:=∃a,P.funcs[f]?=some a/\a.name≠ "runtime.NumGoroutine" /\a.body.isNone=false
def abt{P:Program}{f:Nat}(h:Enters P f)(args:Array Value)(w:World):(callFunc f args).run P w=.ok (.enter f args) w:=by
 obtain⟨e,j,u,x⟩:=h;have a:e.body≠none:=by cases y:e.body<;>simp_all
 simp[callFunc,go_sem,j,u,a]
structure re(P:Program)(C:Cx):Prop where
 ok:∀g h c,C.fn g h=some c->Enters P g/\Gl P C.gl C.gb g c
def LM:TV->Bool|.ptr _ _|.pe _ _|.ip _ _|.fn _ _|.vec _ _|.er _|.lY|.np|.iv _ _=>true|_=>false
structure rf(c:Rc)(i:Nat)(tv:TV)(v:Value):Prop where
 cells:∃xs:List Value,xs.length=(cellsOf tv).length/\(∀(j:Nat)kQ v',(cellsOf tv)[j]?=some kQ->xs[j]?=some v'->qM c (.cE i,[(0,0+j)]) kQ v')/\
  ((∃cs,tv=.agg cs/\v=.agg xs.toArray/\(∀u∈cs,kF u=true)/\∀u∈xs,u.oneCell'=true)\/((∀cs,tv≠.agg cs)/\xs=[v]))
 pt:LM tv=true->Rd c none tv v
 ep:∀p t r j,tv=.ep p t r j->∃b o len cap,c.va p=some (.slice (some ⟨b,o,none⟩) len cap)/\0<=r/\r<(len:Int)/\v=.pointer (some ⟨b,o+r.toNat*cI t+j,none⟩)
def TH{c:Rc}{i:Nat}{a:TV}{v:Value}(h:Rd c (some (.cE i,[])) a v)(A:(∃e,a=.agg e)\/(∃e,a=.fp e)\/gB a=true):rf c i a v where
 cells:=Rr h A
 pt hp:=by
  have:gB a=true:=by cases a<;>simp_all [LM,gB]
  exact h.anyM this none
 ep p t r j he:=by
  subst he;cases h with
  |ep _ _ _ _ _ b o u x D y F H=>exact⟨b,o,u,x,y,F,H,rfl⟩
def jH(a:Nat->G):Nat->G:=λb=>match a b with|.at _ _=>.im|x=>x
def Ck{a:Nat->G}{b:Nat}(h:a b=.im):jH a b=.im:=by simp only[jH,h]
def Ft{a:Nat->G}{b:Nat}{q:Rt}{p:dv}(h:a b=.at q p):jH a b=.im:=by simp only[jH,h]
def TJ{a:Nat->G}{b:Nat}(h:a b=.fr):jH a b=.fr:=by simp only[jH,h]
def TK{a:Nat->G}{b:Nat}{q:Rt}{p:dv}:jH a b≠.at q p:=by
 cases h:a b<;>simp[jH,h]
section
variable{C:Cx}{E:Env}{s:TS}{g:Gs}{w:World}{R:Type}{r:R}
def Rd.rn{m:Option Gp}{a:TV}{v:Value}(h:Rd (g.rc C w) m a v)(j:dN a=true):Rd (ea (jH g.γ) w) none (kh a) v:=h.j8 j (λb e=>⟨Ck e,rfl⟩) (λq p _ b u e=>⟨Ft e,rfl⟩)
def acM(h:cQ C E s g w){S:TV}{v:Value}{G0:Gp}(u:qM (g.rc C w) G0 S v){K:TV->Option R}(e:vj C s S K=some r):
  ∃y,K y=some r/\dN y=true/\Rd (ea (jH g.γ) w) none y v:=by
 cases S with
 |vw p t=>
  simp only[vj] at e;obtain⟨x,U,e⟩:=py e;have A:=u.vw p t rfl;rcases qi h A U with rfl|J
  ·simp at e
  ·cases x with
   |own d M j=>exact⟨_,e,rfl,J.rn rfl⟩
   |eb M j=>exact⟨_,e,rfl,J.rn rfl⟩
   |_=>simp at e
 |sl p t Y Z=>
  simp only[vj] at e;obtain⟨x,U,e⟩:=py e;obtain⟨a,aa,ab,a',N,A,rfl,h1,h2,h3,h4,h5,h6⟩:=u.sl p t Y Z rfl;rcases qi h A U with rfl|J
  ·simp at e
  ·have P:∀(j:List (El t))(D:List (El t)),Rd (ea (jH g.γ) w) none (.eb t j) (.slice a aa ab)->ff j Y Z=some D->Rd (ea (jH g.γ) w) none (.eb t D) (.slice a' (Z.toNat-Y.toNat) N):=λj D hx Q=>by
     obtain⟨⟨_,_,ad⟩,rfl⟩:=tj.1 Q
     exact hx.FW h1 h2 ad h4 h5
   cases x with
   |own d M j=>
    obtain⟨ht,F⟩:=dY.1 e;clear e;have H:M=t:=by simpa using ht
    subst H;obtain⟨D,Q,I⟩:=fa.1 F;exact⟨_,I,rfl,P j D (J.rn rfl) Q⟩
   |eb M j=>
    obtain⟨ht,F⟩:=dY.1 e;clear e;have H:M=t:=by simpa using ht
    subst H;obtain⟨D,Q,I⟩:=fa.1 F;exact⟨_,I,rfl,P j D (J.rn rfl) Q⟩
   |_=>simp at e
 |own d t j=>exact⟨_,e,rfl,(u.pl rfl).rn rfl⟩
 |eb t j=>exact⟨_,e,rfl,(u.pl rfl).rn rfl⟩
 |fS t j=>exact⟨_,e,rfl,((u.pl rfl).rn rfl).zG⟩
 |b x=>exact⟨_,e,rfl,(u.pl rfl).rn rfl⟩
 |i k n=>exact⟨_,e,rfl,(u.pl rfl).rn rfl⟩
 |s x=>exact⟨_,e,rfl,(u.pl rfl).rn rfl⟩
 |nil=>exact⟨_,e,rfl,(u.pl rfl).rn rfl⟩
 |iq=>exact⟨_,e,rfl,(u.pl rfl).rn rfl⟩
 |_=>simp[vj] at e
def TL(h:cQ C E s g w){i:Nat}:∀(A:List TV){F:List Value}{j0:Nat}{K:List TV->Option R},F.length=A.length->
  (∀(j:Nat)a v,A[j]?=some a->F[j]?=some v->qM (g.rc C w) (.cE i,[(0,j0+j)]) a v)->zQ C s A K=some r->
  ∃e,K e=some r/\e.length=A.length/\(∀a∈e,dN a=true)/\∀(j:Nat)a v,e[j]?=some a->F[j]?=some v->Rd (ea (jH g.γ) w) none a v
 |[],F,j0,K,J,M,y=>⟨[],y,rfl,by simp,by simp⟩
 |v::A,[],j0,K,J,M,y=>by simp at J
 |v::A,x::F,j0,K,J,M,y=>by
  simp only[zQ] at y;obtain⟨N,y,P,Q⟩:=acM h (M 0 v x rfl rfl) y;obtain⟨e,y,S,U,Y⟩:=TL h A (j0:=j0+1) (by simpa using J) (λj a u H I=>by
   have:=M (j+1) a u (by simpa using H) (by simpa using I)
   rwa[show j0+1+j=j0+(j+1) by omega]) y;refine⟨N::e,y,by simp[S],λa D=>?_,λj a u H I=>?_⟩
  ·rcases eG.1 D with rfl|D
   ·exact P
   ·exact U a D
  ·cases j with
   |zero=>simp at H I;subst H;subst I;exact Q
   |succ j=>exact Y j a u (by simpa using H) (by simpa using I)
def OP{c:Rc}{i:Nat}{e:TV}{a:List TV}{v:Value}{D:List Value}{M:Nat->Option Gp}(y:a.length=(cellsOf e).length)(F:D.length=(cellsOf e).length)
  (Q:(∃x,e=.agg x/\v=.agg D.toArray/\(∀u∈x,kF u=true)/\∀u∈D,u.oneCell'=true)\/((∀x,e≠.agg x)/\D=[v]))
  (S:∀u∈a,dN u=true)(N:∀(j:Nat)u w,a[j]?=some u->D[j]?=some w->Rd c (M j) u w)(m:Option Gp)(U:(∃x,e=.agg x)->∀j,M j=lh m 0 j)(J:(∀x,e≠.agg x)->M 0=m):Rd c m (ud e a) v:=by
 rcases Q with⟨x,rfl,rfl,Z,Y⟩|⟨H,rfl⟩
 ·simp only[ud];refine .agg _ _ _ (λu A=>B7 (S u A)) (by simp only[Mj];rw[F,y]) (λj u w A I=>Y w (by rw[Zz] at I;exact fh I)) (λj u w A I=>?_);rw[<-U ⟨x,rfl⟩ j];exact N j u w A (by rwa[Zz] at I)
 ·have P:(cellsOf e).length=1:=by simpa using F.symm
  match a,y with
  |[u],_=>
   have A:=N 0 u v rfl rfl;rw[J H] at A;have:ud e [u]=u:=by cases e<;>first|rfl|exact absurd rfl (H _)
   rw[this];exact A
  |[],y=>rw[P] at y;simp at y
  |_::_::_,y=>rw[P] at y;simp at y
def Pv{c c':Rc}(e:j9 c c'){t:Ty}{a:List TV}{x:El t}{v:Value}(j:Ev.dec t a=some x)(h:Rd c none (.ip a 0) v):Rd c' none (.ip (enc false t x) 0) v:=by
 have u:qL [t] [.ip a 0]=some (x,()):=by simp only[qL,j];rfl
 obtain⟨_,_,y⟩:=N0 (c:=c) (c':=c') e (m:=none) (tm':=none) u;exact y 0 _ _ v rfl rfl h
def afT(h:cQ C E s g w){k:Nat}{J:List TV}(F:s.box k=.cells J){t:Ty}{x:El t}(Q:Ev.dec t J=some x):Rd (ea (jH g.γ) w) none (.ip (enc false t x) 0) (.pointer (some ⟨g.bx k,0,none⟩)):=by
 have u:=h.boxes k;rw[F] at u;obtain⟨H,e,fr,S,U,Y,h4,h5,Z⟩:=u;have M:w.heap[g.bx k]?=some (.cells H e fr):=S;have N:g.γ (g.bx k)=.at (.box k) []:=Y;have get:∀(i:Nat)tv,(enc false t x)[i]?=some tv->∃a v,J[i]?=some a/\Cd false a tv/\H[i]?=some v/\v.oneCell'=true/\Rd (g.rc C w) (some (.box k,[(0,i)])) a v:=λi tv y=>by
  obtain⟨a,D,j⟩:=Ii Q y
  have I:=(eT.1 D).1
  have A:H[i]?=some (H[i]'(by omega)):=jN _
  obtain⟨k1,k2⟩:=Z i a _ D A
  exact⟨a,_,D,j,A,k1,k2⟩
 refine .ip _ _ _ _ _ (λi=>H[i]?.getD undef) (zf _ _ _) (Ft N) (λi tv y=>?_) (λi tv y=>?_)
 ·obtain⟨a,v,D,j,A,k1,k2⟩:=get i tv y;rw[A];refine⟨?_,k1⟩;simp only[ZA];show w.cell? ⟨g.bx k,0+i,none⟩=some v;have I:=(ZB.1 A).1;simp only[World.cell?,M,iB];have:=U i I;simp[this,A]
 ·obtain⟨a,v,D,j,A,k1,k2⟩:=get i tv y;rw[A];have P:=gj y;have:=Nl (c:=g.rc C w) (c':=ea (jH g.γ) w) (q:=.box k) (p:=[(0,i)]) (q':=.cE 0) (p':=[]) (f:=.l) (λb F=>⟨Ck F,rfl⟩) ⟨λb π _ hk=>hk.elim,λb π F _=>Ft F,λ_ _ _=>rfl⟩ j (sg y) rfl (NX j P) k2;have h9:vJ .l tv=tv:=by cases tv<;>rfl
  rw[h9] at this;have D:gB tv=true:=by
   have:=sg y
   cases tv<;>simp_all [dN,gB,iF]
  exact this.anyM D none
def Vj(h:cQ C E s g w):∀(D:List Ty)(y:List TV)(e:List Value){K:qI D->Option R},e.length=y.length->(∀(j:Nat)A v,y[j]?=some A->e[j]?=some v->Rd (g.rc C w) none A v)->kN s D y K=some r->
  ∃x,K x=some r/\(kq D x).length=e.length/\(∀A∈kq D x,pW A=true)/\∀(j:Nat)A v,(kq D x)[j]?=some A->e[j]?=some v->Rd (ea (jH g.γ) w) none A v
 |[],[],e,K,I,_,a=>⟨(),by simpa[kN] using a,by simp[kq,I],by simp[kq],by simp[kq]⟩
 |[],_::_,_,K,_,_,a=>by simp[kN] at a
 |t::D,[],_,K,_,_,a=>by simp[kN] at a
 |t::D,v::y,[],K,I,_,a=>by simp at I
 |t::D,v::y,u::e,K,I,U,a=>by
  have Y:=U 0 v u rfl rfl;have N:∃H:El t,(kN s D y λZ=>K (H,Z))=some r/\Rd (ea (jH g.γ) w) none (.ip (enc false t H) 0) u:=by
   cases v with
   |ip cs n=>
    cases n with
    |zero=>
     simp only[kN,one?] at a
     split at a
     ·rename_i H P;exact⟨H,a,Pv (c:=g.rc C w) (c':=ea (jH g.γ) w) (λb Q=>⟨Ck Q,rfl⟩) P Y⟩
     ·simp at a
    |succ n=>simp[kN] at a
   |ptr k n=>
    cases n with
    |zero=>
     simp only[kN] at a;split at a
     ·rename_i cs Q;simp only[one?] at a;split at a
      ·rename_i H P;refine⟨H,a,?_⟩;cases Y;exact afT h Q P
      ·simp at a
     ·simp at a
    |succ n=>simp[kN] at a
   |_=>simp[kN] at a
  obtain⟨H,a,S⟩:=N;obtain⟨x2,a,h1,h2,h3⟩:=Vj h D y e (by simpa using I) (λj A v J M=>U (j+1) A v (by simpa using J) (by simpa using M)) a;refine⟨(H,x2),a,by simp[kq,h1],λA F=>?_,λj A v J M=>?_⟩
  ·simp only[kq,eG] at F;rcases F with rfl|F
   ·simp only[pW,jC];exact zf _ _ _
   ·exact h2 A F
  ·cases j with
   |zero=>simp[kq] at J M;subst J;subst M;exact S
   |succ j=>exact h3 j A v (by simpa[kq] using J) (by simpa using M)
def acN(h:cQ C E s g w){p:dX}(u:qo [p]=true){i:Nat}{e:TV}{v:Value}(N:rf (g.rc C w) i e v){K:p.T->(p.O->TS->TS)->TS->Option R}(a:arg C true p e s K=some r):
  ∃x H,K x H s=some r/\(∀o D,H o D=D)/\∀y,rz (ea (jH g.γ) w) i y p x v:=by
 have A:∀{Kp:dv->Prop}{q:Rt}{P:dv}{q':Rt}{π':dv},Tn (ea (jH g.γ) w) (ea (jH g.γ) w) Kp q P q' π':=⟨λb P F=>absurd F TK,λb P F=>absurd F TK,λ_ _ _=>rfl⟩;have I:j9 (ea (jH g.γ) w) (ea (jH g.γ) w):=λb F=>⟨F,rfl⟩;cases p with
 |val q=>
  have Q:q.mv=false:=by
   simp only[qo] at u
   cases hq:q.mv with
   |false=>rfl
   |true=>rw[hq] at u;simp at u
  have gen:(xM C true q.mv (cellsOf e) s λvs D=>match q.dec (ud e vs) with|some x=>K x (λ_ s=>s) D|none=>none)=some r->∃x H,K x H s=some r/\(∀o D,H o D=D)/\∀y,rz (ea (jH g.γ) w) i y (.val q) x v:=λa=>by
   simp only[xM,Q,cR,cP] at a
   obtain⟨xs,J,S,U⟩:=N.cells
   obtain⟨Y,a,Z,h4,h5⟩:=TL h (i:=i) (cellsOf e) (j0:=0) J S a
   split at a
   ·rename_i x y;refine⟨x,_,a,λ_ _=>rfl,λ_=>?_⟩;have h6:Rd (ea (jH g.γ) w) none (ud e Y) v:=OP (i:=i) Z J U h4 h5 none (λ_ _=>rfl) (λ_=>rfl);exact sj I A y (h6.lift (some (.cE i,[])))
   ·simp at a
  cases e with
  |vec t xs=>
   simp only[arg] at a;split at a
   ·rename_i x y;refine⟨x,_,a,λ_ _=>rfl,λ_=>?_⟩;have h6:Rd (ea (jH g.γ) w) (some (.cE i,[])) (.vec t xs) v:=by
     cases N.pt rfl with
     |vec _ _ _ aa=>exact .vec _ _ _ aa
    exact sj I A y h6
   ·simp at a
  |_=>exact gen a
 |rp t=>
  simp only[arg] at a;split at a
  ·simp only[one?] at a;split at a
   ·rename_i x y;exact⟨x,_,a,λ_ _=>rfl,λ_=>Pv (c:=g.rc C w) (c':=ea (jH g.γ) w) (λb F=>⟨Ck F,rfl⟩) y (N.pt rfl)⟩
   ·simp at a
  ·simp at a
 |fn gg ts=>
  simp only[arg] at a;split at a
  ·rename_i g' ab;obtain⟨hg,ad⟩:=dY.1 a;clear a;have hg:=gU hg;subst hg;have h0:=N.pt rfl;cases h0 with
   |fn _ _ _ M hc hl hr=>
    obtain⟨x,a,h1,h2,Z⟩:=Vj h ts ab M.toList (by simpa using hl) (λj e v hj hv=>hr j e v hj (by simpa using hv)) ad;exact⟨x,_,a,λ_ _=>rfl,λ_=>.fn _ _ _ _ h2 (by simpa using h1.symm) (λj e v hj hv=>Z j e v hj (by simpa using hv))⟩
  ·simp at a
 |_=>simp[qo] at u
def SC(h:cQ C E s g w):∀(A:List dX)(F:List TV)(e:List Value)(i:Nat){K:oS A->(n8 A->TS->TS)->TS->Option R},qo A=true->e.length=F.length->(∀(j:Nat)J v,F[j]?=some J->e[j]?=some v->rf (g.rc C w) (i+j) J v)->args C true A F s K=some r->
  ∃x M,K x M s=some r/\(∀o N,M o N=N)/\∀D,qE (ea (jH g.γ) w) D i A x e
 |[],[],e,i,K,_,H,_,y=>⟨(),_,y,λ_ _=>rfl,λ_=>by simpa[qE] using H⟩
 |[],_::_,_,_,K,_,_,_,y=>by simp[args] at y
 |_::_,[],_,_,K,_,_,_,y=>by simp[args] at y
 |p::A,v::F,[],i,K,_,H,_,y=>by simp at H
 |p::A,v::F,u::e,i,K,a,H,P,y=>by
  simp only[args] at y;cases I:K2 p v F with
  |true=>rw[I] at y;simp at y
  |false=>
   rw[I,cR] at y;have Q:qo [p]=true/\qo A=true:=by
    cases p with
    |val q=>
     simp only[qo] at a⊢
     cases S:q.mv with
     |true=>rw[S] at a;simp at a
     |false=>
      rw[S,cR] at a
      cases U:q.C4 with
      |true=>rw[U,cP] at a;exact⟨by simp,a⟩
      |false=>rw[U] at a;simp at a
    |rp t=>exact⟨rfl,a⟩
    |fn g ts=>exact⟨rfl,a⟩
    |_=>simp[qo] at a
   obtain⟨x,M,y,Y,Z⟩:=acN h Q.1 (P 0 v u rfl rfl) y;obtain⟨xs,aa,y,h4,h5⟩:=SC h A F e (i+1) Q.2 (by simpa using H) (λj J w hj hw=>by
    have:=P (j+1) J w (by simpa using hj) (by simpa using hw)
    rwa[show i+1+j=i+(j+1) by omega]) y;exact⟨(x,xs),_,y,λo N=>by rw[Y,h4],λD=>⟨Z (D i),h5 D⟩⟩
end
end
section
open Classical in
noncomputable def pO(γ:Nat->G)(i:Nat)(pre:dv)(K:dv->Prop):Nat->G:=λb=>
 match γ b with
 |.at q p=>if q=.cE i/\pre<+:p then(if K (p.drop pre.length) then .at (.cE i) (p.drop pre.length) else .im) else .at q p
 |x=>x
open Classical in
noncomputable def kZ(γ:Nat->G)(q1:Rt)(q2:Rt)(K:dv->Prop):Nat->G:=λb=>
 match γ b with
 |.at q p=>if q=q1 then(if K p then .at q2 p else .im) else .at q p
 |x=>x
section
variable{γ:Nat->G}{i b:Nat}{pre π p:dv}{K:dv->Prop}{q q1 q2:Rt}
def OQ(h:γ b=.im):pO γ i pre K b=.im:=by simp only[pO,h]
def aew(h:γ b=.fr):pO γ i pre K b=.fr:=by simp only[pO,h]
def N1(h:γ b=.at q p)(a:q≠.cE i):pO γ i pre K b=.at q p:=by simp only[pO,h];rw[cN (λe=>a e.1)]
def abu(h:γ b=.at (.cE i) (pre++π))(a:K π):pO γ i pre K b=.at (.cE i) π:=by
 simp only[pO,h];rw[cM ⟨trivial,s5 _ _⟩,ZC,cM a]
def acO(h:γ b=.at (.cE i) (pre++π))(a:¬ K π):pO γ i pre K b=.im:=by
 simp only[pO,h];rw[cM ⟨trivial,s5 _ _⟩,ZC,cN a]
def Vk:FK (λq=>∃n,q=.cE n) γ (pO γ i pre K) where
 im b h:=OQ h
 at' b q p h hz:=by
  by_cases a:q=.cE i
  ·subst a;obtain⟨⟨k,e⟩,_⟩:=hz ⟨i,rfl⟩;cases e
  ·exact N1 h a
 fr b h:=aew h
def JC(h:γ b=.im):kZ γ q1 q2 K b=.im:=by simp only[kZ,h]
def TM(h:γ b=.fr):kZ γ q1 q2 K b=.fr:=by simp only[kZ,h]
def Np(h:γ b=.at q p)(a:q≠q1):kZ γ q1 q2 K b=.at q p:=by simp only[kZ,h];rw[cN a]
def RY(h:γ b=.at q1 p)(a:K p):kZ γ q1 q2 K b=.at q2 p:=by simp only[kZ,h];rw[cM trivial,cM a]
def SD(h:γ b=.at q1 p)(a:¬ K p):kZ γ q1 q2 K b=.im:=by simp only[kZ,h];rw[cM trivial,cN a]
def TN{w:World}(a:∀b,w.heap.size<=b->γ b=.fr):dK (λq _=>q=q1) γ w (kZ γ q1 q2 K) w:=⟨λb h=>⟨JC h,rfl⟩,λb q p h hx=>⟨Np h hx,rfl⟩,λb _ h=>⟨TM h,rfl⟩,iN _,λb h=>TM (a b h),rfl,rfl,rfl⟩
end
structure jX(J:Nat->Prop)(γ γ':Nat->G):Prop where
 im:∀b,γ b=.im->γ' b=.im
 cE:∀b j π,¬ J j->γ b=.at (.cE j) π->γ' b=.at (.cE j) π
def jX.refl(J:Nat->Prop)(γ:Nat->G):jX J γ γ:=⟨λ_ h=>h,λ_ _ _ _ h=>h⟩
def jX.trans{J:Nat->Prop}{γ a GX:Nat->G}(h:jX J γ a)(k:jX J a GX):jX J γ GX:=⟨λb e=>k.im b (h.im b e),λb j π u e=>k.cE b j π u (h.cE b j π u e)⟩
def jX.mono{J a:Nat->Prop}{γ γ':Nat->G}(h:jX J γ γ')(e:∀j,J j->a j):jX a γ γ':=⟨h.im,λb j π u x=>h.cE b j π (λy=>u (e j y)) x⟩
def jX.fk{Z:Rt->Prop}{γ γ':Nat->G}(h:FK Z γ γ')(J:Nat->Prop)(hz:∀j,Z (.cE j)->J j):jX J γ γ':=⟨h.im,λb j π a e=>h.at' b _ _ e (λu=>absurd (hz j u) a)⟩
section
variable{C:Cx}{E:Env}{s:TS}{g:Gs}{w w':World}{R:Type}{r:R}
def Rd.stay{c a:Rc}{m:Option Gp}{tv:TV}{v:Value}(h:Rd c m tv v)(e:iz tv=true)(u:j9 c a)(x:∀q p,m=some (q,p)->∀b π,c.γ b=.at q (p++π)->a.γ b=.at q (p++π)/\a.w.heap[b]?=c.w.heap[b]?):Rd a m tv v:=h.same u x (λk y=>absurd y (CC e k)) (λp j=>absurd j (sd e p)) (λp j=>absurd j.mv (sd e p))
def acP{a:TV}(h:dN a=true):iz a=true:=by cases a<;>simp_all [dN,iz,fO]
def zb{m:List Fl}{t:Ty}{x:El t}:∀y∈jz m (enc false t x),dN y=true:=λy e=>by
 obtain⟨j,a⟩:=HF.1 e;rw[Fp] at a;cases u:(enc false t x)[j]? with
 |none=>rw[u] at a;simp at a
 |some b=>rw[u] at a;simp only[jx,di] at a;subst a;exact EZ (gj u)
def Cl{c c':Rc}{q y:Rt}{b:Nat}{cs:List TV}(H:j9 c c')(u:Tn c c' (λ_=>True) q [] y [])(I:∀a∈cs,dN a=true)(h:tS c q b cs):tS c' y b cs:=by
 obtain⟨J,e,fr,M,N,A,P,Q,D⟩:=h;exact⟨J,e,fr,(u.heap b [] A).trans M,N,u.jI b [] A trivial,P,Q,λj a v x F=>⟨(D j a v x F).1,(D j a v x F).2.all (I a (fh x)) H (u.sub (p:=[]) (p':=[]) (0,j) (λπ=>HE))⟩⟩
def Cm{c c':Rc}{q e:Rt}{b:Nat}{x:cq}(D:j9 c c')(a:Tn c c' (λ_=>True) q [] e [])(h:xA c q b x):xA c' e b x:=by
 obtain⟨p,v,u,j,y,A⟩:=h;exact⟨p,v,(a.heap b [] j).trans u,a.jI b [] j trivial,y,Vg A a⟩
def Fu{c A:Rc}{v:Value}{tv:TV}(D:(∃g a,∃x:qI a,tv=.fn g (kq a x))\/∃t,∃x:El t,tv=.ip (enc false t x) 0)(H:j9 c A)(h:Rd c none tv v):Rd A none tv v:=by
 have I:∀k,¬ MB k tv:=λk e=>by
  rcases D with⟨g,a,x,rfl⟩|⟨t,x,rfl⟩
  ·cases e with
   |fn _ _ j J=>
    have u:∀(a:List Ty)(x:qI a),TV.ptr k j∉kq a x:=by
     intro a
     induction a with
     |nil=>intro x;simp[kq]
     |cons t a M=>intro x;simp only[kq,eG,DM];exact⟨by simp,M _⟩
    exact u a x J
  ·cases e
 have F:∀p,¬ MV p tv:=λp e=>by rcases D with⟨g,a,x,rfl⟩|⟨t,x,rfl⟩<;>cases e
 exact h.same H (λ_ _ h=>by simp at h) (λk e=>absurd e (I k)) (λp y=>absurd y (F p)) (λp y=>absurd y.mv (F p))
def rz.yb{c c':Rc}{i:Nat}{A:Value}{p:dX}{x:p.T}{v:Value}(h:rz c i A p x v)(e:j9 c c')(j:∀b π,c.γ b=.at (.cE i) π->c'.γ b=.at (.cE i) π/\c'.w.heap[b]?=c.w.heap[b]?):rz c' i A p x v:=by
 have D:Tn c c' (λ_=>True) (.cE i) [] (.cE i) []:=⟨λb π a _=>(j b _ a).1,λb π _ H=>absurd trivial H,λb π a=>(j b _ a).2⟩;have u:∀q p,(some (Rt.cE i,([]:dv)):Option Gp)=some (q,p)->∀b π,c.γ b=.at q (p++π)->c'.γ b=.at q (p++π)/\c'.w.heap[b]?=c.w.heap[b]?:=λq p F b π a=>by
  simp only[di,eS] at F
  obtain⟨rfl,rfl⟩:=F
  exact j b _ a
 cases p with
 |val q=>exact Rd.stay h (CK q x).1 e u
 |pb t m M=>obtain⟨b,y,a⟩:=h;exact⟨b,y,Cl e D zb a⟩
 |pr t=>exact⟨Rd.stay h.1 rfl e u,h.2⟩
 |mu t=>exact⟨Rd.stay h.1 rfl e u,h.2⟩
 |rp t=>exact Fu (.inr ⟨t,x,rfl⟩) e h
 |bd=>obtain⟨b,y,a⟩:=h;exact⟨b,y,Cm e D a⟩
 |fn I J=>exact Fu (.inl ⟨I,J,x,rfl⟩) e h
def He.yb{c c':Rc}{i:Nat}{y:Value}{p:dX}{x:p.O}{v:Value}(h:He c i y p x v)(e:j9 c c')(j:∀b π,c.γ b=.at (.cE i) π->c'.γ b=.at (.cE i) π/\c'.w.heap[b]?=c.w.heap[b]?):He c' i y p x v:=by
 have A:Tn c c' (λ_=>True) (.cE i) [] (.cE i) []:=⟨λb π a _=>(j b _ a).1,λb π _ H=>absurd trivial H,λb π a=>(j b _ a).2⟩;have D:∀q p,(some (Rt.cE i,([]:dv)):Option Gp)=some (q,p)->∀b π,c.γ b=.at q (p++π)->c'.γ b=.at q (p++π)/\c'.w.heap[b]?=c.w.heap[b]?:=λq p F b π a=>by
  simp only[di,eS] at F
  obtain⟨rfl,rfl⟩:=F
  exact j b _ a
 cases p with
 |pb t m I=>obtain⟨b,u,a⟩:=h;exact⟨b,u,Cl e A zb a⟩
 |pr t=>exact Rd.stay (tv:=.own true t x) h rfl e D
 |mu t=>exact Rd.stay (tv:=.own true t x) h rfl e D
 |bd=>obtain⟨b,u,a⟩:=h;exact⟨b,u,Cm e A a⟩
 |_=>trivial
def rf.yb{i:Nat}{F:TV}{v:Value}{e:Nat->G}{J:Nat->Prop}(h:rf (g.rc C w) i F v)(x:jX J g.γ e)(H:¬ J i):rf (Gs.rc C {g with γ:=e} w) i F v where
 cells:=by
  obtain⟨I,M,N,P⟩:=h.cells;refine⟨I,M,λj y Q A D=>?_,P⟩;have k:=N j y Q A D;refine⟨k.vw,k.sl,λhp=>?_⟩;exact(k.pl hp).stay (acP hp) (λb u=>⟨x.im b u,rfl⟩) (λq p a b π u=>by
   simp only[di,eS] at a
   obtain⟨rfl,rfl⟩:=a
   exact⟨x.cE b _ _ H u,rfl⟩)
 pt hp:=by
  have k:=h.pt hp;refine k.same (λb u=>⟨x.im b u,rfl⟩) (λ_ _ h=>by simp at h) (λ_ _=>rfl) (λp a=>?_) (λp a=>?_)
  ·cases a<;>simp[LM] at hp
  ·cases a;simp[LM] at hp
 ep:=h.ep
def cQ.aex(h:cQ C E s g w){k i:Nat}{K:dv->Prop}:cQ C E ((s.kill (Pl.ig k)).bx k .none) {g with γ:=kZ g.γ (.box k) (.cE i) K} w:=by
 have a:dK (λq _=>q=.box k) g.γ w (kZ g.γ (.box k) (.cE i) K) w:=TN h.cL.new;have u:∀j p,MV p ((s.kill (Pl.ig k)).cD j)->(gp p).1≠.box k:=λj p x F=>by
  rw[qW] at x
  have D:=(tD x).2
  rw[uY.2 F] at D
  cases D
 refine(h.kill (Pl.ig k)).nF (X:=λq _=>q=.box k) (g':={g with γ:=kZ g.γ (.box k) (.cE i) K}) a (λj=>.inr ⟨rfl,rfl,(λp hx=>by cases hx),⟨λ_ _=>rfl,λp x=>?_,λp x π hx=>u j p x.mv hx⟩⟩) (λj=>?_)
 ·refine⟨rfl,λH=>?_⟩;exact(nv (C:=C) (g:=g) (g':={g with γ:=kZ g.γ (.box k) (.cE i) K}) a p H (oq a λq I _ hx=>u j p x ((qe I).1 ▸hx)) (λ_ _ _=>rfl) (λJ y=>⟨rfl,λhx=>u j p x (by rw[zo.1 y];exact hx)⟩)).2
 ·by_cases A:j=k
  ·subst A
   left
   rcases uP (s.kill (Pl.ig j)) j .none with e|e<;>rw[e]<;>trivial
  ·exact .inr ⟨uO _ _ A,rfl,λp hx=>A (by cases hx;rfl)⟩
end
end
section
def AX(p:dX)(a:TV)(q:Rt)(j:dv):Prop:=(((∃e,MV e a/\(gp e).1=q)\/∃n,q=.cE n)/\¬ kW q j)\/∃k,q=.box k/\k∈mG [p] [a]
def cb:dX->TV->Option Nat|.pr _,.ep (.cell k _) _ _ _=>some k|.mu _,.vw (.cell k _) _=>some k|_,_=>none
section
variable{C:Cx}{E:Env}{s:TS}{g:Gs}{w:World}{R:Type}{r:R}
structure Handed(C:Cx)(E:Env)(g:Gs)(w:World)(i:Nat)(p:dX)(tv:TV)(v:Value)(x:p.T)(bk:p.O->TS->TS)(s':TS)(γ':Nat->G)(hd:Value):Prop where
 rel:cQ C E s' {g with γ:=γ'} w
 prd:rz (ea γ' w) i hd p x v
 ev:jX (λj=>j=i) g.γ γ'
 gD:dK (AX p tv) g.γ w γ' w
 top:∀b k,ptrTo k tv=false->g.γ b=.at (.box k) []->γ' b=.at (.box k) []
 back:∀o s2 γ2 w2,cQ C E s2 {g with γ:=γ2} w2->(∀b k,cb p tv=some k->γ' b=.at (.box k) []->w2.heap[b]?=w.heap[b]?)->He (ea γ2 w2) i hd p o v->
  ∃Qv,cQ C E (bk o s2) {g with γ:=Qv} w2/\jX (λj=>j=i) γ2 Qv/\dK (λq _=>q=.cE i) γ2 w2 Qv w2
def N2{a:Nat->G}{i:Nat}{q:Rt}{e:dv}:jX (λj=>j=i) a (dZ a (.cE i) [] q e):=⟨λb h=>qY h,λb j e u h=>wI h (λhx=>u (by simpa[eQ] using hx.1))⟩
def N3{a:Nat->G}{i:Nat}{q:Rt}{e:dv}(j:∀b,w.heap.size<=b->a b=.fr):dK (λq _=>q=.cE i) a w (dZ a (.cE i) [] q e) w:=(ph j).mono λq p hx=>hx.1
def MK{a:Nat->G}{i:Nat}{q:Rt}{e:dv}:FK (λq=>∃n,q=.cE n) a (dZ a (.cE i) [] q e):=(FK.dZ zg).mono λq j=>⟨i,j⟩
def Fv{c e:Rc}{γ:Nat->G}{i:Nat}{q:Rt}{u:dv}(y:c.γ=γ)(j:e.γ=dZ γ (.cE i) [] q u)(A:e.w=c.w):Tn c e (λ_=>True) (.cE i) [] q u where
 jI b a x _:=by
  rw[y] at x;rw[j];exact zt (by simpa using x)
 j8 b a _ hk:=absurd trivial hk
 heap b a _:=by rw[A]
def E1{c c':Rc}{γ:Nat->G}{i:Nat}{q:Rt}{π:dv}(e:c.γ=γ)(a:c'.γ=dZ γ (.cE i) [] q π)(j:c'.w=c.w):j9 c c':=λb u=>⟨by rw[a];exact qY (by rw[<-e];exact u),by rw[j]⟩
def Vl{i:Nat}{p:dX}{x:p.O->TS->TS}(u:∀o s,x o s=s)(o:p.O)(y:TS)(a:Nat->G)(w2:World)(A:cQ C E y {g with γ:=a} w2):∃e,cQ C E (x o y) {g with γ:=e} w2/\jX (λj=>j=i) a e/\dK (λq _=>q=.cE i) a w2 e w2:=⟨a,by rw[u];exact A,.refl _ _,.refl _ A.cL.new⟩
def Handed.same{i:Nat}{p:dX}{u:TV}{v:Value}{x:p.T}{j:p.O->TS->TS}{hd:Value}(h:cQ C E s g w)(y:rz (ea g.γ w) i hd p x v)(a:∀o s,j o s=s):Handed C E g w i p u v x j s g.γ hd:=⟨h,y,.refl _ _,.refl _ h.cL.new,λ_ _ _ h=>h,λo s2 e A D _ _=>Vl a o s2 e A D⟩
def XB:j9 (g.rc C w) (ea g.γ w):=λb h=>⟨h,rfl⟩
def Vm(h:cQ C E s g w){q:VS}{i:Nat}{A:TV}{v:Value}(ha:rf (g.rc C w) i A v){m:Bool->Pl->Bool}{K:q.T->(Unit->TS->TS)->TS->Option R}
  (S:(pU C m (cellsOf A) s λvs I=>match q.dec (ud A vs) with|some x=>K x (λ_ s=>s) I|none=>none)=some r):∃x U I J hd,K x U I=some r/\Handed C E g w i (.val q) A v x U I J hd:=by
 obtain⟨xs,M,aa,Y⟩:=ha.cells;obtain⟨ab,s1,a,N,h1,h3,h4,h5,h6,h7⟩:=Pq (n:=i) (j0:=0) (cellsOf A) h M aa S;split at N
 ·rename_i x hd;have H:∀(pre:dv),Rd (Gs.rc C {g with γ:=a} w) (some (.cE i,pre)) (ud A ab) v->∃x U I J hd,K x U I=some r/\Handed C E g w i (.val q) A v x U I J hd:=λpre hr=>by
   have hT:Tn (Gs.rc C {g with γ:=a} w) (ea (pO a i pre (oT q)) w) (oT q) (.cE i) pre (.cE i) []:=⟨λb π y S=>abu y S,λb π y S=>acO y S,λ_ _ _=>rfl⟩
   have hI:j9 (Gs.rc C {g with γ:=a} w) (ea (pO a i pre (oT q)) w):=λb y=>⟨OQ y,rfl⟩
   have ad:∀q',Zv (cellsOf A) q'->∃p',MV p' A/\(gp p').1=q':=λq'⟨u,hu,p',ae,he⟩=>⟨p',TD hu ae (λQ D=>by
    rcases Y with⟨ai,rfl,_,P,_⟩|⟨F,_⟩
    ·cases D;exact P
    ·exact absurd D (F Q)),he⟩
   refine⟨x,_,s1,pO a i pre (oT q),undef,N,h1.qq Vk,sj hI hT hd hr,?_,?_,?_,λo s2 af w2 h2 _ _=>Vl (p:=.val q) (λ_ _=>rfl) o s2 af w2 h2⟩
   ·refine(jX.fk h6 (λj=>j=i) (λj Z=>absurd Z (Tx _ j))).trans ⟨λb y=>OQ y,λb j π hj y=>N1 y (λe=>hj (by cases e;rfl))⟩
   ·refine((h6.gD h.cL.new).trans ((Vk (γ:=a) (i:=i) (pre:=pre) (K:=oT q)).gD h1.cL.new)).mono λq' π hx=>?_;rcases hx with⟨Z,y⟩|⟨Z,y⟩
    ·exact .inl ⟨.inl (ad q' Z),y⟩
    ·exact .inl ⟨.inr Z,y⟩
   ·intro b k _ y;have:=h6.at' b _ _ y (λ_=>⟨⟨k,rfl⟩,rfl⟩);exact N1 this (by simp)
  rcases Y with⟨Q,rfl,hv,P,ho⟩|⟨F,ah⟩
  ·refine H [] (OP (i:=i) h3 M (.inl ⟨Q,rfl,hv,P,ho⟩) h4 h5 (some (.cE i,[])) (λ_ j=>by simp[lh]) (λhn=>absurd rfl (hn Q)))
  ·refine H [(0,0)] (OP (i:=i) h3 M (.inr ⟨F,ah⟩) h4 h5 (some (.cE i,[(0,0)])) (λ⟨Q,D⟩=>absurd D (F Q)) (λ_=>rfl))
 ·simp at N
def IU(h:cQ C E s g w){i:Nat}{p:Pl}{tv:TV}{t:Ty}{x:List (El t)}{hd:Value}(D:gn C s p=some (.own true t x))(y:(g.rc C w).va p=some hd){K:TS->Option R}(H:nf s p K=some r)(I:MV p tv):
  ∃u a,K u=some r/\cQ C E u {g with γ:=a} w/\Rd (ea a w) (some (.cE i,[])) (.own true t x) hd/\jX (λj=>j=i) g.γ a/\(∀F,dK (AX F tv) g.γ w a w)/\∀b k,g.γ b=.at (.box k) []->a b=.at (.box k) []:=by
 have A:Rd (g.rc C w) (some (gp p)) (.own true t x) hd:=by
  rcases qi h y D with J|A
  ·cases J
  ·exact A
 obtain⟨u,a,k1,k2,k3,k4,k5⟩:=J3 (n:=i) (π0:=[]) h p D rfl A H;refine⟨u,a,k1,k2,k3.stay rfl (λb e=>⟨e,rfl⟩) (λq M _ b N e=>⟨e,rfl⟩),jX.fk k4 _ (λj P=>absurd P.symm (jk p j)),λF=>?_,λb k e=>k4.at' b _ _ e (λ_=>⟨⟨k,rfl⟩,rfl⟩)⟩;exact(k4.gD h.cL.new).mono λq M hx=>.inl ⟨.inl ⟨p,I,hx.1.symm⟩,hx.2⟩
def Ru{i k:Nat}{t:Ty}{xs:List (El t)}{u:TS}{a:Nat->G}{w2:World}(x:cQ C E u {g with γ:=a} w2)(y:Rd (ea a w2) (some (.cE i,[])) (.own true t xs) (g.tm k)):
  ∃e,cQ C E (u.raw k (.own true t xs)) {g with γ:=e} w2/\jX (λj=>j=i) a e/\dK (λq _=>q=.cE i) a w2 e w2:=by
 have A:=x.qq (γ':=dZ a (.cE i) [] (.cD k) []) MK;refine⟨_,A.J4 ?_,N2,N3 x.cL.new⟩;exact y.all (c':=Gs.rc C {g with γ:=dZ a (.cE i) [] (.cD k) []} w2) rfl (E1 (γ:=a) (i:=i) (q:=.cD k) (π:=[]) rfl rfl rfl) (Fv (γ:=a) rfl rfl rfl)
def Rv{i k c:Nat}{t:Ty}{xs:List (El t)}{A:Value}{D:TS}{a:Nat->G}{w2:World}(F:cQ C E D {g with γ:=a} w2)(H:Rd (ea a w2) (some (.cE i,[])) (.own true t xs) A)(I:eK w2 (g.bx k) c=some A):
  ∃e,cQ C E (C3 k c (.own true t xs) D) {g with γ:=e} w2/\jX (λj=>j=i) a e/\dK (λq _=>q=.cE i) a w2 e w2:=by
 have y:=F.qq (γ':=dZ a (.cE i) [] (.box k) [(0,c)]) MK;refine⟨dZ a (.cE i) [] (.box k) [(0,c)],?_,N2,N3 F.cL.new⟩;unfold C3;split
 ·rename_i J M;refine y.KI ?_;rw[sf];have u:=y.boxes k;rw[M] at u;refine Ng (π0:=[]) (g:={g with γ:=dZ a (.cE i) [] (.box k) [(0,c)]}) (γ':=dZ a (.cE i) [] (.box k) [(0,c)]) u (.refl _ y.cL.new) rfl (λv N=>?_);have x:eK w2 (g.bx k) c=some v:=N;rw[I] at x;cases x;exact H.all (c':=Gs.rc C {g with γ:=dZ a (.cE i) [] (.box k) [(0,c)]} w2) rfl (E1 (γ:=a) (i:=i) (q:=.box k) (π:=[(0,c)]) rfl rfl rfl) (Fv (γ:=a) rfl rfl rfl)
 ·exact y
def OR{k:Nat}{u:Value}(h:(g.rc C w).va (.cD k)=some u):C.vs k=true/\g.tm k=u:=by
 simp only[Gs.rc,va] at h;split at h
 ·exact⟨by assumption,gV h⟩
 ·simp at h
def Vn{i k:Nat}{u:BC}{x:TS}{a:Nat->G}{w2:World}(y:cQ C E x {g with γ:=a} w2)(A:Ls (Gs.rc C {g with γ:=dZ a (.cE i) [] (.box k) []} w2) (.box k) (g.bx k) u):∃e,cQ C E (x.bx k u) {g with γ:=e} w2/\jX (λj=>j=i) a e/\dK (λq _=>q=.cE i) a w2 e w2:=⟨_,(y.qq (γ':=dZ a (.cE i) [] (.box k) []) MK).KI (u3.2 A),N2,N3 y.cL.new⟩
def Rw(h:cQ C E s g w){i k:Nat}{K:dv->Prop}(A:K []){p:dX}(x:k∈mG [p] [TV.ptr k 0]):cQ C E ((s.kill (Pl.ig k)).bx k .none) {g with γ:=kZ g.γ (.box k) (.cE i) K} w/\jX (λj=>j=i) g.γ (kZ g.γ (.box k) (.cE i) K)/\
  dK (AX p (.ptr k 0)) g.γ w (kZ g.γ (.box k) (.cE i) K) w/\∀b j,ptrTo j (.ptr k 0)=false->g.γ b=.at (.box j) []->kZ g.γ (.box k) (.cE i) K b=.at (.box j) []:=by
 refine⟨h.aex,⟨λb a=>JC a,λb j y u a=>Np a (by simp)⟩,(TN h.cL.new).mono λq y hx=>.inr ⟨k,hx,x⟩,λb j u a=>Np a (λe=>?_)⟩;cases e;simp[ptrTo] at u
def aey(h:cQ C E s g w){p:dX}(av:sy [p]=false){i:Nat}{tv:TV}{v:Value}(U:rf (g.rc C w) i tv v){K:p.T->(p.O->TS->TS)->TS->Option R}(a:arg C false p tv s K=some r):
  ∃x bk F H hd,K x bk F=some r/\Handed C E g w i p tv v x bk F H hd:=by
 cases p with
 |val q=>
  have gen:(xM C false q.mv (cellsOf tv) s λvs F=>match q.dec (ud tv vs) with|some x=>K x (λ_ s=>s) F|none=>none)=some r->∃x bk F H hd,K x bk F=some r/\Handed C E g w i (.val q) tv v x bk F H hd:=λa=>by
   simp only[xM,cR] at a
   cases hq:q.mv with
   |true=>rw[hq,cP] at a;exact Vm h U a
   |false=>rw[hq,cR] at a;exact Vm h U a
  cases tv with
  |vec t xs=>
   simp only[arg] at a;split at a
   ·rename_i x hd;refine⟨x,_,s,g.γ,undef,a,.same h ?_ (λ_ _=>rfl)⟩;have hv:=U.pt rfl;cases q with
    |el t m=>
     rcases Ci hd with⟨cs,hc,_⟩|⟨ae,hd,_⟩
     ·cases hc
     ·cases t<;>simp[Ev.gJ,Ev.dec] at ae hd
    |sl f t=>obtain⟨_,hd⟩:=Fs hd;simp[fq] at hd
    |fS t=>have:=E0 hd;cases this
    |vec t=>
     have:=B8 hd;cases this;cases hv with
     |vec _ _ _ ae=>exact .vec _ _ _ ae
    |er=>rcases Cj hd with hc|⟨hc,_⟩<;>cases hc
   ·simp at a
  |_=>exact gen a
 |pb t m m'=>
  simp only[arg] at a;split at a
  ·rename_i k;split at a
   ·rename_i cs j;obtain⟨aw,D⟩:=dY.1 a;clear a;simp only[one?] at D;split at D
    ·rename_i x hd;have hv:=U.pt rfl;obtain⟨k1,k2,k3,k4⟩:=Rw (i:=i) h (Vi (.st t m)) (p:=.pb t m m') (k:=k) (by simp[mG,nA]);have Q:=u3.1 (h.boxes k);have ax:qx (.st t m) (s.box k)=some x:=by
      rw[j]
      have:(bif okF m cs then Ev.dec t cs else none:Option (El t))=some x:=dY.2 ⟨aw,hd⟩
      exact this
     have hT:Tn (g.rc C w) (ea (kZ g.γ (.box k) (.cE i) (sQ (.st t m))) w) (sQ (.st t m)) (.box k) [] (.cE i) []:=⟨λb π j a=>RY j a,λb π j a=>SD j a,λ_ _ _=>rfl⟩;have af:=Ka (c:=g.rc C w) (c':=ea (kZ g.γ (.box k) (.cE i) (sQ (.st t m))) w) (λb j=>⟨JC j,rfl⟩) hT ax Q;have Y:v=oG (g.bx k):=by cases hv;rfl
     refine⟨x,_,_,_,undef,D,k1,⟨g.bx k,Y,af⟩,k2,k3,k4,λo s2 A w2 J _ Z=>?_⟩;obtain⟨b,aa,ah⟩:=Z;rw[Y] at aa;have ai:b=g.bx k:=by simpa using aa.symm
     subst ai;exact Vn (u:=.cells (jz m' (enc false t o))) J (Cl (c:=ea A w2) (c':=Gs.rc C {g with γ:=dZ A (.cE i) [] (.box k) []} w2) (E1 (γ:=A) (i:=i) (q:=.box k) (π:=[]) rfl rfl rfl) (Fv (γ:=A) rfl rfl rfl) zb ah)
    ·simp at D
   ·simp at a
  ·simp at a
 |bd=>
  simp only[arg] at a;split at a
  ·rename_i k;split at a
   ·rename_i y j;have hv:=U.pt rfl;obtain⟨k1,k2,k3,k4⟩:=Rw (i:=i) (K:=λ_=>True) h trivial (p:=.bd) (k:=k) (by simp[mG,nA]);have Q:=u3.1 (h.boxes k);rw[j] at Q;have hT:Tn (g.rc C w) (ea (kZ g.γ (.box k) (.cE i) (λ_=>True)) w) (λ_=>True) (.box k) [] (.cE i) []:=⟨λb π j a=>RY j a,λb π j a=>SD j a,λ_ _ _=>rfl⟩;have af:=Cm (c:=g.rc C w) (c':=ea (kZ g.γ (.box k) (.cE i) (λ_=>True)) w) (λb j=>⟨JC j,rfl⟩) hT Q;have Y:v=oG (g.bx k):=by cases hv;rfl
    refine⟨y,_,_,_,undef,a,k1,⟨g.bx k,Y,af⟩,k2,k3,k4,λo s2 A w2 J _ Z=>?_⟩;obtain⟨b,aa,ah⟩:=Z;rw[Y] at aa;have ai:b=g.bx k:=by simpa using aa.symm
    subst ai;exact Vn (u:=.iL o) J (Cm (c:=ea A w2) (c':=Gs.rc C {g with γ:=dZ A (.cE i) [] (.box k) []} w2) (E1 (γ:=A) (i:=i) (q:=.box k) (π:=[]) rfl rfl rfl) (Fv (γ:=A) rfl rfl rfl) ah)
   ·simp at a
  ·simp at a
 |pr t=>
  simp only[arg] at a;split at a
  ·rename_i k t0 i0;obtain⟨b,o,aj,S,I,h1,J,hv⟩:=U.ep _ _ _ _ rfl;split at a
   ·rename_i M xs hs;obtain⟨ht,D⟩:=dY.1 a;clear a;have ak:M=t0:=by simpa using ht
    subst ak;obtain⟨e,N⟩:=nK D;subst e;obtain⟨y,hy,am⟩:=fa.1 N;obtain⟨an,ao⟩:=OR I;have P:gn C s (.cD k)=some (.own true M xs):=by simp only[gn];rw[cM an,hs]
    obtain⟨F,H,m1,m2,m3,m4,m5,m6⟩:=IU (i:=i) (tv:=.ep (.cD k) M i0 0) h P I (K:=λF=>K (xs,i0) (λo s=>s.raw k (.own true M o)) F) am (.ep _ _ _);refine⟨_,_,F,H,_,m1,m2,⟨m3,b,o,aj,S,rfl,h1,J,by simpa using hv⟩,m4,m5 _,λb k' _ j=>m6 b k' j,λou s2 A w2 J _ Z=>?_⟩;exact Ru (xs:=ou) J (by rw[ao];exact Z)
   ·simp at a
  ·rename_i k c t0 i0;obtain⟨b,o,aj,S,I,h1,J,hv⟩:=U.ep _ _ _ _ rfl;split at a
   ·rename_i cs j;split at a
    ·rename_i M xs hs;obtain⟨ht,D⟩:=dY.1 a;clear a;have ak:M=t0:=by simpa using ht
     subst ak;obtain⟨e,N⟩:=nK D;subst e;obtain⟨y,hy,am⟩:=fa.1 N;have P:gn C s (.cell k c)=some (.own true M xs):=by simp only[gn,j,hs]
     obtain⟨F,H,m1,m2,m3,m4,m5,m6⟩:=IU (i:=i) (tv:=.ep (.cell k c) M i0 0) h P I (K:=λF=>K (xs,i0) (λo s=>C3 k c (.own true M o) s) F) (by simp only[nf,j];exact am) (.ep _ _ _);refine⟨_,_,F,H,_,m1,m2,⟨m3,b,o,aj,S,rfl,h1,J,by simpa using hv⟩,m4,m5 _,λb k' _ j=>m6 b k' j,λou s2 A w2 J hh Z=>?_⟩;have ab:=h.boxes k;rw[j] at ab;obtain⟨_,_,_,_,_,ad,_⟩:=ab;have ap:=hh (g.bx k) k rfl (m6 _ _ ad);exact Rv (xs:=ou) J Z (by rw[lP ap];exact I)
    ·simp at a
   ·simp at a
  ·simp at a
 |mu t=>
  simp only[arg] at a;split at a
  ·rename_i k t0;obtain⟨ay,az,aq,au⟩:=U.cells;have I:(g.rc C w).va (.cD k)=some v:=by
    rcases au with⟨cs,hc,_⟩|⟨_,rfl⟩
    ·cases hc
    ·exact(aq 0 _ v rfl rfl).vw _ _ rfl
   split at a
   ·rename_i M xs hs;obtain⟨e,N⟩:=nK a;clear a;subst e;obtain⟨an,ao⟩:=OR I;have P:gn C s (.cD k)=some (.own true M xs):=by simp only[gn];rw[cM an,hs]
    obtain⟨F,H,m1,m2,m3,m4,m5,m6⟩:=IU (i:=i) (tv:=.vw (.cD k) t0) h P I (K:=λF=>K xs (λo s=>s.raw k (.own true M o)) F) N (.vw _);refine⟨_,_,F,H,v,m1,m2,⟨m3,rfl⟩,m4,m5 _,λb k' _ j=>m6 b k' j,λou s2 A w2 J _ Z=>?_⟩;exact Ru (xs:=ou) J (by rw[ao];exact Z)
   ·simp at a
  ·rename_i k c t0;obtain⟨ay,az,aq,au⟩:=U.cells;have I:(g.rc C w).va (.cell k c)=some v:=by
    rcases au with⟨cs,hc,_⟩|⟨_,rfl⟩
    ·cases hc
    ·exact(aq 0 _ v rfl rfl).vw _ _ rfl
   split at a
   ·rename_i cs j;split at a
    ·rename_i M xs hs;obtain⟨e,N⟩:=nK a;clear a;subst e;have P:gn C s (.cell k c)=some (.own true M xs):=by simp only[gn,j,hs]
     obtain⟨F,H,m1,m2,m3,m4,m5,m6⟩:=IU (i:=i) (tv:=.vw (.cell k c) t0) h P I (K:=λF=>K xs (λo s=>C3 k c (.own true M o) s) F) (by simp only[nf,j];exact N) (.vw _);refine⟨_,_,F,H,v,m1,m2,⟨m3,rfl⟩,m4,m5 _,λb k' _ j=>m6 b k' j,λou s2 A w2 J hh Z=>?_⟩;have ab:=h.boxes k;rw[j] at ab;obtain⟨_,_,_,_,_,ad,_⟩:=ab;have ap:=hh (g.bx k) k rfl (m6 _ _ ad);exact Rv (xs:=ou) J Z (by rw[lP ap];exact I)
    ·simp at a
   ·simp at a
  ·simp at a
 |rp t=>
  simp only[arg] at a;split at a
  ·simp only[one?] at a;split at a
   ·rename_i x hd;exact⟨x,_,s,g.γ,undef,a,.same h (Pv (c:=g.rc C w) (c':=ea g.γ w) XB hd (U.pt rfl)) (λ_ _=>rfl)⟩
   ·simp at a
  ·simp at a
 |fn gg ts=>
  cases ts with
  |cons t ts=>simp[sy] at av
  |nil=>
   simp only[arg] at a;split at a
   ·rename_i g' S;obtain⟨hg,D⟩:=dY.1 a;clear a;have hg:=gU hg;subst hg;have h0:=U.pt rfl;cases S with
    |cons c S=>simp[kN] at D
    |nil=>
     simp only[kN] at D;refine⟨_,_,s,g.γ,undef,D,.same h ?_ (λ_ _=>rfl)⟩;exact Fu (c:=g.rc C w) (.inl ⟨gg,[],(),rfl⟩) XB h0
   ·simp at a
end
end
section
def TO{c:Rc}{e a:Nat->Value}:∀{u:List dX}{i:Nat}{x:oS u}{y:List Value},(∀j,i<=j->e j=a j)->qE c e i u x y->qE c a i u x y|[],_,_,_,_,h=>h|_::_,_,_,[],_,h=>h.elim|p::u,i,x,v::y,A,h=>⟨by rw[<-A i (iN _)];exact h.1,TO (λj D=>A j (by omega)) h.2⟩
def TP{c:Rc}{e a:Nat->Value}:∀{u:List dX}{i:Nat}{x:n8 u}{y:List Value},(∀j,i<=j->e j=a j)->Ae c e i u x y->Ae c a i u x y|[],_,_,_,_,h=>h|_::_,_,_,[],_,h=>h.elim|p::u,i,x,v::y,A,h=>⟨by rw[<-A i (iN _)];exact h.1,TP (λj D=>A j (by omega)) h.2⟩
def AXs(j:List dX)(a:List TV)(q:Rt)(u:dv):Prop:=(((∃x∈a,∃e,MV e x/\(gp e).1=q)\/∃n,q=.cE n)/\¬ kW q u)\/∃k,q=.box k/\k∈mG j a
def SE(p:dX)(a:List dX)(v:TV)(vs:List TV):mG (p::a) (v::vs)=mG [p] [v]++mG a vs:=by cases p<;>simp[mG]
def aaJ{p:dX}{a:List dX}(h:sy (p::a)=false):sy [p]=false/\sy a=false:=by
 cases p with
 |fn g e=>cases e<;>simp_all [sy]
 |_=>exact⟨rfl,h⟩
def acQ{p:dX}{v:TV}{e:List TV}{k:Nat}(h:K2 p v e=false)(a:cb p v=some k):nS k e=false:=by
 unfold cb at a;split at a
 ·cases a;exact h
 ·cases a;exact h
 ·simp at a
section
variable{C:Cx}{E:Env}{s:TS}{g:Gs}{w:World}{R:Type}{r:R}
def TQ:∀(H:List dX)(M:List TV)(a:List Value)(i:Nat){s:TS}{g:Gs}{K:oS H->(n8 H->TS->TS)->TS->Option R},cQ C E s g w->sy H=false->a.length=M.length->(∀(j:Nat)Y v,M[j]?=some Y->a[j]?=some v->rf (g.rc C w) (i+j) Y v)->args C false H M s K=some r->
  ∃x bk s' D F,K x bk s'=some r/\cQ C E s' {g with γ:=D} w/\qE (ea D w) F i H x a/\jX (λj=>i<=j/\j<i+H.length) g.γ D/\dK (AXs H M) g.γ w D w/\(∀b k,nS k M=false->g.γ b=.at (.box k) []->D b=.at (.box k) [])/\
   ∀o Z A Q,cQ C E Z {g with γ:=A} Q->(∀b k,D b=.at (.box k) []->Q.heap[b]?=w.heap[b]?)->Ae (ea A Q) F i H o a->
    ∃I,cQ C E (bk o Z) {g with γ:=I} Q/\jX (λj=>i<=j/\j<i+H.length) A I/\dK (λq _=>∃n,q=.cE n) A Q I Q
 |[],[],a,i,s,g,K,h,_,hl,_,e=>⟨(),_,s,g.γ,λ_=>undef,e,h,by simpa[qE] using hl,.refl _ _,.refl _ h.cL.new,λ_ _ _ y=>y,λo Z A Q N _ _=>⟨A,N,.refl _ _,.refl _ N.cL.new⟩⟩
 |[],_::_,_,_,_,_,K,_,_,_,_,e=>by simp[args] at e
 |_::_,[],_,_,_,_,K,_,_,_,_,e=>by simp[args] at e
 |p::H,v::M,[],i,_,_,K,_,_,hl,_,e=>by simp at hl
 |p::H,v::M,u::a,i,s,g,K,h,ab,hl,ha,e=>by
  simp only[args] at e;cases S:K2 p v M with
  |true=>rw[S] at e;simp at e
  |false=>
   rw[S,cR] at e;obtain⟨ad,ae⟩:=aaJ ab;obtain⟨x,bk,s1,af,hd,e,U⟩:=aey h ad (ha 0 v u rfl rfl) e;obtain⟨xs,ah,Z,A,F,e,h1,N,h3,h4,h5,h6⟩:=TQ H M a (i+1) (g:={g with γ:=af}) U.rel ae (by simpa using hl) (λj Y w J hw=>by
    have:=ha (j+1) Y w (by simpa using J) (by simpa using hw)
    rw[show i+1+j=i+(j+1) by omega]
    exact this.yb U.ev (by omega)) e;have P:∀j,i+1<=j->F j=(λj=>if j=i then hd else F j) j:=λj J=>by simp only[];rw[cN (by omega)]
   refine⟨(x,xs),_,Z,A,λj=>if j=i then hd else F j,e,h1,⟨?_,TO P N⟩,?_,?_,?_,?_⟩
   ·have:=U.prd.yb (c':=ea A w) (λb y=>⟨h3.im b y,rfl⟩) (λb π y=>⟨h3.cE b i π (by omega) y,rfl⟩);simpa using this
   ·refine(U.ev.mono (λj J=>?_)).trans (h3.mono λj J=>?_)
    ·subst J;simp
    ·simp only[gy];omega
   ·refine(U.gD.trans h4).mono λq π hx=>?_;rcases hx with(⟨hx,y⟩|⟨k,hx,y⟩)|(⟨hx,y⟩|⟨k,hx,y⟩)
    ·refine .inl ⟨?_,y⟩;rcases hx with⟨p',h1,N⟩|hx
     ·exact .inl ⟨v,by simp,p',h1,N⟩
     ·exact .inr hx
    ·exact .inr ⟨k,hx,by rw[SE];exact eJ.2 (.inl y)⟩
    ·refine .inl ⟨?_,y⟩;rcases hx with⟨Y,ai,p',h1,N⟩|hx
     ·exact .inl ⟨Y,by simp[ai],p',h1,N⟩
     ·exact .inr hx
    ·exact .inr ⟨k,hx,by rw[SE];exact eJ.2 (.inr y)⟩
   ·intro b k e y;simp only[nS] at e;cases hp:ptrTo k v with
    |true=>rw[hp] at e;simp at e
    |false=>rw[hp,cR] at e;exact h5 b k e (U.top b k hp y)
   ·intro o s3 I w3 h7 h8 h9;obtain⟨aa,m1,m2,m3⟩:=h6 o.2 s3 I w3 h7 h8 (TP (λj J=>(P j J).symm) h9.2);obtain⟨aj,n1,n2,n3⟩:=U.back o.1 (ah o.2 s3) aa w3 m1 (λb k hc y=>h8 b k (h5 b k (acQ S hc) y)) (by
     have:=h9.1.yb (c':=ea aa w3) (λb y=>⟨m2.im b y,rfl⟩) (λb π y=>⟨m2.cE b i π (by omega) y,rfl⟩)
     simpa using this);refine⟨aj,n1,(m2.mono (λj J=>?_)).trans (n2.mono λj J=>?_),(m3.trans n3).mono λq π hx=>?_⟩
    ·simp only[gy];omega
    ·subst J;simp
    ·rcases hx with hx|hx
     ·exact hx
     ·exact⟨i,hx⟩
def cQ.aez(h:cQ C E s g w){n d b:Nat}{x:List TV}(a:∀N∈x,dN N=true)(P:tS (ea g.γ w) (.cE n) b x):
  cQ C E ((s.gr d).bx d (.cells x)) ⟨dZ g.γ (.cE n) [] (.box d) [],λk=>if k=d then b else g.bx k,g.tm⟩ w:=by
 have u:dK (eQ (.cE n) []) g.γ w (dZ g.γ (.cE n) [] (.box d) []) w:=ph h.cL.new;have y:∀j p,MV p ((s.gr d).cD j)->(gp p).1≠.box d:=λj p a Q=>by
  rw[BO] at a
  have J:=(tD (Tq a)).2
  rw[uY.2 Q] at J
  cases J
 refine(h.gr d).nF (X:=eQ (.cE n) []) (g':=⟨dZ g.γ (.cE n) [] (.box d) [],λk=>if k=d then b else g.bx k,g.tm⟩) u (λj=>.inr ⟨rfl,rfl,(λp hx=>by simp[eQ] at hx),⟨λk M=>?_,λp a=>?_,λp a π hx=>absurd hx.1 (jk p n)⟩⟩) (λj=>?_)
 ·rw[BO] at M;have:=(Tp M).2;simp[this]
 ·have:=λA=>nv (C:=C) (g:=g) (g':=⟨dZ g.γ (.cE n) [] (.box d) [],λk=>if k=d then b else g.bx k,g.tm⟩) u p A (oq u λq S _ hx=>by
    have:=(qe S).1
    rw[hx.1] at this
    exact absurd this.symm (jk p n)) (λ_ _ _=>rfl) (λU D=>⟨by
     have:U≠d:=λe=>y j p a (by rw[zo.1 D,e])
     simp[this],λhx=>by simp[eQ] at hx⟩);have F:=(h.gr d).fQ j;exact⟨(this (F.tR a)).1,λA=>(this A).2⟩
 ·by_cases H:j=d
  ·subst H
   left
   rcases uP (s.gr j) j (.cells x) with e|e<;>rw[e]
   ·have:=Cl (c:=ea g.γ w) (c':=Gs.rc C ⟨dZ g.γ (.cE n) [] (.box j) [],λk=>if k=j then b else g.bx k,g.tm⟩ w) (E1 (γ:=g.γ) (i:=n) (q:=.box j) (π:=[]) rfl rfl rfl) (Fv (γ:=g.γ) rfl rfl rfl) a P;have I:(Gs.rc C ⟨dZ g.γ (.cE n) [] (.box j) [],λk=>if k=j then b else g.bx k,g.tm⟩ w).bx j=b:=by simp[Gs.rc]
    show tS _ (.box j) _ x;rw[I];exact this
   ·trivial
  ·exact .inr ⟨uO _ _ H,by simp[H],λp hx=>by simp[eQ] at hx⟩
def afU(h:cQ C E s g w){n:Nat}{y:Option Nat}{A:List fC}{x:j7 A}{v:Value}{N:TS}(F:rA (ea g.γ w) n A x v)(a:xN C y A x s=some N):
  ∃H,cQ C E N H w/\H.tm=(g.put y v).tm/\(∀k,y≠some k->H.bx k=g.bx k)/\dK (λq _=>q=.cE n) g.γ w H.γ w:=by
 have gen:Rd (ea g.γ w) (some (.cE n,[])) (pack (gK A x)) v->some (eA C s y (pack (gK A x)))=some N->(∀tv,tv=pack (gK A x)->(∀p,¬ MV p tv)/\∀k,¬ MB k tv)->∃H,cQ C E N H w/\H.tm=(g.put y v).tm/\(∀k,y≠some k->H.bx k=g.bx k)/\dK (λq _=>q=.cE n) g.γ w H.γ w:=λF a hn=>by
  obtain⟨Y,n2⟩:=hn _ rfl
  have Q:Rd (g.rc C w) (some (.cE n,[])) (pack (gK A x)) v:=F.same (λb J=>⟨J,rfl⟩) (λq p _ b π J=>⟨J,rfl⟩) (λk a=>absurd a (n2 k)) (λp I=>absurd I (Y p)) (λp I=>absurd I.mv (Y p))
  obtain⟨S,P,U⟩:=h.put (d:=y) Q
  cases a
  refine⟨_,P,?_,λk _=>by rw[Gi],?_⟩
  ·cases y<;>rfl
  ·rw[Gh];exact(U.gD h.cL.new).mono λq p hx=>hx.1
 have M:∀(A:List fC)(x:j7 A)tv,tv∈gK A x->iz tv=true:=by
  intro A
  induction A with
  |nil=>intro x tv j;simp[gK] at j
  |cons r A Z=>
   intro x tv j
   cases r with
   |val q=>
    simp only[gK,eG] at j
    rcases j with rfl|j
    ·exact(CK q x.1).1
    ·exact Z _ _ j
   |nb t m=>
    simp only[gK,eG] at j;rcases j with rfl|j
    ·rfl
    ·exact Z _ _ j
 have D:∀tv,tv=pack (gK A x)->(∀p,¬ MV p tv)/\∀k,¬ MB k tv:=λtv j=>by
  subst j
  have:=M A x
  match hL:gK A x,this with
  |[u],this=>
   have hu:iz u=true:=this u (by simp)
   exact⟨λp=>sd hu p,λk=>CC hu k⟩
  |[],_=>exact⟨(λp I=>by cases I),λk a=>by cases a⟩
  |_::_::_,_=>exact⟨(λp I=>by cases I),λk a=>by cases a⟩
 match A,x,F,a,gen,D with
 |[.nb t m],x,F,a,gen,_=>
  obtain⟨b,hv,J⟩:=F;clear gen M;cases y with
  |none=>simp[xN] at a
  |some d=>
   simp only[xN] at a;split at a
   ·have a:=gV a;have P:=h.aez (d:=d) zb J;have I:Rd (Gs.rc C ⟨dZ g.γ (.cE n) [] (.box d) [],λk=>if k=d then b else g.bx k,g.tm⟩ w) (some (.cE n,[])) (.ptr d 0) v:=by
     have:=Rd.ptr (c:=Gs.rc C ⟨dZ g.γ (.cE n) [] (.box d) [],λk=>if k=d then b else g.bx k,g.tm⟩ w) (some (.cE n,[])) d 0
     rw[hv]
     simpa[Gs.rc] using this
    obtain⟨S,U,h3⟩:=P.put (d:=some d) I;subst a;refine⟨_,U,rfl,λk a=>?_,?_⟩
    ·rw[Gi];have:k≠d:=λe=>a (by rw[e]);simp[this]
    ·rw[Gh];exact((ph h.cL.new (q1:=.cE n) (p1:=[]) (q2:=.box d) (p2:=[])).trans (h3.gD P.cL.new)).mono λq p hx=>hx.elim (λhx=>hx.1) (λhx=>hx.1)
   ·simp at a
 |[],x,F,a,gen,D=>exact gen F a D
 |[.val q],x,F,a,gen,D=>exact gen F a D
 |.val q::r2::A,x,F,a,gen,D=>exact gen F a D
 |.nb t m::r2::A,x,F,a,gen,D=>exact gen F a D
end
end
def ma:TV->Bool|.eb _ _=>false|.fS _ _=>false|.own d t _=>bif eZ t then true else d|_=>true
def ss:TV->Bool|.agg a=>a.all ma|v=>ma v
def xj:TV->Bool|.fp a=>a.all ss|v=>ss v
def acR{t:Ty}(h:eZ t=true)(d:Bool)(x:El t):∀a∈enc d t x,ma a=true:=by
 cases t<;>simp_all [eZ,enc,ma]
def abv(t:Ty)(x:El t):∀a∈enc true t x,ma a=true:=by
 cases t<;>simp[enc,sc,ma]
def Rd.ma{c F:Rc}{m:Option Gp}{y:TV}{v:Value}(h:Rd c m y v):dN y=true->Sd.ma y=true->(∀q p,m=some (q,p)->∀b E,c.γ b=.at q (p++E)->F.γ b=.at q (p++E)/\F.w.heap[b]?=c.w.heap[b]?)->Rd F m y v:=by
 induction h with
 |b m x=>intros;exact .b _ _
 |i m k n=>intros;exact .i _ _ _
 |s m x=>intros;exact .s _ _
 |nil m=>intros;exact .nil _
 |iq m a=>intros;exact .iq _ _
 |jU m d t a=>intros;exact .jU _ _ _ _
 |kE q p d t xs b o cap M e fr f N P Q R S U hr Y=>
  intro _ u I;obtain⟨H,C⟩:=I q p rfl b [tg t] P;refine .kE _ _ _ _ _ _ _ _ M e fr f N H (C.trans Q) R S (λr x j y hx A=>by rw[lP C];exact U r x j y hx A) (λr x j y hx A=>?_);refine Y r x j y hx A (gj A) ?_ (λq2 p2 J b2 E Z=>?_)
  ·simp only[Sd.ma] at u;cases D:eZ t with
   |true=>exact acR D d x y (fh A)
   |false=>rw[D,cR] at u;subst u;exact abv t x y (fh A)
  ·simp only[di,eS] at J;obtain⟨rfl,rfl⟩:=J;have:=I q p rfl b2 (((r:Int),cj t j)::E) (by simpa using Z);simpa using this
 |kO _ _ _ _=>intro _ u _;simp[Sd.ma] at u
 |nZ=>intro _ u _;simp[Sd.ma] at u
 |qz=>intro _ u _;simp[Sd.ma] at u
 |qA=>intro _ u _;simp[Sd.ma] at u
 |_=>intro hp;simp[dN] at hp
def Rd.Ww{c e:Rc}{m:Option Gp}{a:TV}{v:Value}(h:Rd c m a v)(j:fO a=true)(x:Sd.ma a=true)(y:∀q p,m=some (q,p)->∀b u,c.γ b=.at q (p++u)->e.γ b=.at q (p++u)/\e.w.heap[b]?=c.w.heap[b]?):Rd e m a v:=by
 rcases Wb j with j|rfl
 ·exact h.ma j x y
 ·exact .un _ _
def Vo{c e:Rc}{m:Option Gp}{j:Nat}(x:∀q p,m=some (q,p)->∀b a,c.γ b=.at q (p++a)->e.γ b=.at q (p++a)/\e.w.heap[b]?=c.w.heap[b]?):∀q p,lh m 0 j=some (q,p)->∀b a,c.γ b=.at q (p++a)->e.γ b=.at q (p++a)/\e.w.heap[b]?=c.w.heap[b]?:=by
 intro q p u b a y;cases m with
 |none=>simp[lh] at u
 |some g=>
  obtain⟨A,C⟩:=g;simp only[lh,jx,di,eS] at u;obtain⟨rfl,rfl⟩:=u;have:=x _ _ rfl b ((0,j)::a) (by simpa using y);simpa using this
def Rd.OS{c u:Rc}{m:Option Gp}{a:TV}{v:Value}(h:Rd c m a v)(y:iz a=true)(A:∀e,a≠.fp e)(C:Sd.ss a=true)(F:∀q p,m=some (q,p)->∀b H,c.γ b=.at q (p++H)->u.γ b=.at q (p++H)/\u.w.heap[b]?=c.w.heap[b]?):Rd u m a v:=by
 cases a with
 |agg e=>
  cases h with
  |agg _ _ vs I J M N=>
   simp only[iz,jC] at y;simp only[Sd.ss,jC] at C;exact .agg _ _ _ I J M (λj a v D P=>(N j a v D P).Ww (y a (fh D)) (C a (fh D)) (Vo F))
 |vec t Q=>cases h with|vec _ _ _ E=>exact .vec _ _ _ E
 |er x=>cases h with|sO _ t x=>exact .sO _ _ _|sP=>exact .sP _
 |lY=>cases h;exact .lY _
 |fp e=>exact absurd rfl (A e)
 |_=>exact h.Ww (by simpa[iz] using y) C F
def Rd.xj{c x:Rc}{m:Option Gp}{a:TV}{v:Value}(h:Rd c m a v)(C:iz a=true\/∃e,a=.fp e)(u:Sd.xj a=true)(y:∀q p,m=some (q,p)->∀b D,c.γ b=.at q (p++D)->x.γ b=.at q (p++D)/\x.w.heap[b]?=c.w.heap[b]?):Rd x m a v:=by
 cases a with
 |fp e=>
  cases h with
  |fp _ _ vs E H I=>
   simp only[Sd.xj,jC] at u;refine .fp _ _ _ E H (λj a v A J=>?_);have F:=E a (fh A);exact(I j a v A J).OS F (λe M=>by subst M;simp[iz,fO,dN] at F) (u a (fh A)) (Vo y)
 |agg e=>exact h.OS (C.resolve_right (by simp)) (by simp) u y
 |_=>exact h.OS (C.resolve_right (by simp)) (by simp) u y
def vp:TV->Bool|.eb _ _=>true|_=>false
def abw(t:Ty)(x y:El t):(enc false t x).map vp=(enc false t y).map vp:=by cases t<;>rfl
def OT:∀{m:List Fl}{u:List TV}{j:Nat}{c:TV},oc m u=true->u[j]?=some c->vp c=true->pN m j=.d
 |m,[],j,c,_,h,_=>by simp at h
 |[],e::u,j,c,a,h,x=>by
  exfalso;cases j with
  |zero=>simp at h;subst h;cases e<;>simp[vp] at x;simp[oc] at a
  |succ j=>
   have:oc [] u=true:=by cases e<;>simp[oc] at a<;>exact a
   have:=OT this (by simpa using h) x;simp[pN] at this
 |f::m,e::u,j,c,a,h,x=>by
  cases j with
  |zero=>
   simp at h;subst h;cases f with
   |d=>rfl
   |l=>cases e<;>simp[vp] at x;simp[oc] at a
   |s=>cases e<;>simp[vp] at x;simp[oc] at a
  |succ j=>
   have:oc m u=true:=by
    cases f with
    |d=>simpa[oc] using a
    |l=>cases e<;>simp[oc] at a<;>exact a
    |s=>cases e<;>simp[oc] at a<;>exact a
   exact OT (m:=m) this (by simpa using h) x
def RZ{m:List Fl}{t:Ty}(H:oc m (enc false t (pV t))=true)(x:El t):∀D∈jz m (enc false t x),ma D=true:=λD y=>by
 obtain⟨j,a⟩:=HF.1 y;rw[Fp] at a;cases e:(enc false t x)[j]? with
 |none=>rw[e] at a;simp at a
 |some b=>
  rw[e] at a;simp only[jx,di] at a;subst a;have u:=congrArg (λl=>l[j]?) (abw t x (pV t));simp only[iA,e,jx] at u;cases A:(enc false t (pV t))[j]? with
  |none=>rw[A] at u;simp at u
  |some z=>
   rw[A] at u;simp only[jx,di] at u;cases E:vp b with
   |true=>
    have I:=OT H A (u ▸E);rw[I];cases b<;>simp[vp] at E;simp[vJ,ma]
   |false=>
    have J:=gj e;have M:=sg e;have C:∀F xs,b≠.fS F xs:=λF xs N=>by
     subst N
     have:=fh e
     revert this
     cases t<;>simp[enc,sc]
    cases b<;>first|(exact absurd rfl (C _ _))|(simp_all [vp,dN,iF]<;>(cases pN m j<;>rfl))
def abx{q:VS}(h:vL q=true)(x:q.T):ss (q.enc x)=true:=by
 cases q with
 |el t m=>
  rw[FZ];cases a:Ev.gJ t with
  |true=>rw[cM rfl];simp only[ss,jC];exact RZ h x
  |false=>cases t<;>simp[Ev.gJ] at a<;>rfl
 |sl f t=>
  cases f with
  |l=>simp[vL] at h
  |s=>
   have h:eZ t=true:=h;show ss (.own (eZ t) t x)=true;simp[ss,ma,h]
  |d=>show ss (.own true t x)=true;simp[ss,ma]
 |fS t=>simp[vL] at h
 |vec t=>rfl
 |er=>rfl
def M1:∀{e:List fC}{x:j7 e},q9 e=true->∀j∈gK e x,iz j=true/\ss j=true
 |[],_,_,j,h=>by simp[gK] at h
 |.val q::e,x,a,j,h=>by
  simp only[q9] at a;obtain⟨A,y⟩:vL q=true/\q9 e=true:=by
   cases u:vL q with
   |true=>rw[u,cP] at a;exact⟨rfl,a⟩
   |false=>rw[u] at a;simp at a
  simp only[gK,eG] at h;rcases h with rfl|h
  ·exact⟨(CK q x.1).1,abx A x.1⟩
  ·exact M1 y j h
 |.nb t m::e,x,a,j,h=>by
  simp only[q9] at a;have y:q9 e=true:=by
   cases u:vL (.el t m) with
   |true=>rw[u,cP] at a;exact a
   |false=>rw[u] at a;simp at a
  simp only[gK,eG] at h;rcases h with rfl|h
  ·exact⟨rfl,rfl⟩
  ·exact M1 y j h
def rA.fresh{c D:Rc}{n:Nat}{rs:List fC}{x:j7 rs}{v:Value}(h:rA c n rs x v)(y:q9 rs=true)(H:∀b A,c.γ b=.at (.cE n) A->D.γ b=.at (.cE n) A/\D.w.heap[b]?=c.w.heap[b]?):rA D n rs x v:=by
 have C:∀q p,(some (Rt.cE n,([]:dv)):Option Gp)=some (q,p)->∀b A,c.γ b=.at q (p++A)->D.γ b=.at q (p++A)/\D.w.heap[b]?=c.w.heap[b]?:=λq p F b A N=>by
  simp only[di,eS] at F
  obtain⟨rfl,rfl⟩:=F
  exact H b _ N
 have gen:Rd c (some (.cE n,[])) (pack (gK rs x)) v->Rd D (some (.cE n,[])) (pack (gK rs x)) v:=λh=>by
  have a:=M1 (x:=x) y
  match hL:gK rs x,a,h with
  |[u],a,h=>
   obtain⟨I,P⟩:=a u (by simp)
   refine h.xj (.inl I) ?_ C
   show Sd.xj u=true
   cases u<;>first|exact P|simp[iz,fO,dN] at I
  |[],_,h=>exact h.xj (.inr ⟨[],rfl⟩) rfl C
  |u1::Y::Z,a,h=>exact h.xj (.inr ⟨u1::Y::Z,rfl⟩) (by simp only[pack,Sd.xj,jC];exactλE Q=>(a E Q).2) C
 match rs,x,h,y,gen with
 |[.nb t m],x,h,y,gen=>
  obtain⟨b,J,vs,e,fr,I,P,S,h4,h5,h6⟩:=h;have R:oc m (enc false t (pV t))=true:=by
   simp only[q9] at y
   cases U:vL (.el t m) with
   |true=>exact U
   |false=>rw[U] at y;simp at y
  refine⟨b,J,vs,e,fr,((H b [] S).2).trans I,P,(H b [] S).1,h4,h5,λj E v M J=>⟨(h6 j E v M J).1,?_⟩⟩;refine(h6 j E v M J).2.ma (zb E (fh M)) (RZ R x.1 E (fh M)) (λq p F b A N=>?_);simp only[di,eS] at F;obtain⟨rfl,rfl⟩:=F;exact H b _ N
 |[],x,h,y,gen=>exact gen h
 |[.val q],x,h,y,gen=>exact gen h
 |.val q::r2::rs,x,h,y,gen=>exact gen h
 |.nb t m::r2::rs,x,h,y,gen=>exact gen h
def rA.yb{c c':Rc}{n:Nat}{rs:List fC}{x:j7 rs}{v:Value}(h:rA c n rs x v)(D:j9 c c')(F:∀b j,c.γ b=.at (.cE n) j->c'.γ b=.at (.cE n) j/\c'.w.heap[b]?=c.w.heap[b]?):rA c' n rs x v:=by
 have H:∀q p,(some (Rt.cE n,([]:dv)):Option Gp)=some (q,p)->∀b j,c.γ b=.at q (p++j)->c'.γ b=.at q (p++j)/\c'.w.heap[b]?=c.w.heap[b]?:=λq p J b j y=>by
  simp only[di,eS] at J
  obtain⟨rfl,rfl⟩:=J
  exact F b _ y
 have I:∀(rs:List fC)(x:j7 rs)E,E∈gK rs x->iz E=true:=by
  intro rs
  induction rs with
  |nil=>intro x E a;simp[gK] at a
  |cons r rs M=>
   intro x E a
   cases r with
   |val q=>
    simp only[gK,eG] at a
    rcases a with rfl|a
    ·exact(CK q x.1).1
    ·exact M _ _ a
   |nb t m=>
    simp only[gK,eG] at a;rcases a with rfl|a
    ·rfl
    ·exact M _ _ a
 have gen:Rd c (some (.cE n,[])) (pack (gK rs x)) v->Rd c' (some (.cE n,[])) (pack (gK rs x)) v:=λh=>by
  have e:=I rs x
  match Q:gK rs x,e,h with
  |[u],e,h=>exact h.stay (e u (by simp)) D H
  |[],_,h=>exact h.same D H (λk C=>by cases C) (λp A=>by cases A) (λp A=>by cases A)
  |u1::R::S,e,h=>exact h.same D H (λk C=>by cases C) (λp A=>by cases A) (λp A=>by cases A)
 match rs,x,h,gen with
 |[.nb t m],x,h,gen=>
  obtain⟨b,N,y⟩:=h;exact⟨b,N,Cl D ⟨λb j y _=>(F b _ y).1,λb j _ C=>absurd trivial C,λb j y=>(F b _ y).2⟩ zb y⟩
 |[],x,h,gen=>exact gen h
 |[.val q],x,h,gen=>exact gen h
 |.val q::P::rs,x,h,gen=>exact gen h
 |.nb t m::P::rs,x,h,gen=>exact gen h
section
def CX(C:Cx)(f:Nat)(e:List TV)(q:Rt)(u:dv):Prop:=∃c,C.fn f (w9 e)=some c/\((((c.ua=false/\∃x∈e,∃j,MV j x/\(gp j).1=q)\/∃n,q=.cE n)/\¬ kW q u)\/∃k,q=.box k/\k∈mG c.ps e)
def zV(j e:Nat->G):Nat->G:=λb=>match j b with|.at q p=>.at q p|_=>e b
section
variable{P:Program}{C:Cx}{E:Env}{nt:Nat}{o:Oper}{s:TS}{g:Gs}{a:Act}{w:World}{R:Type}{r:R}{K:TS->Option R}
def Xg(h:cQ C E s g w){e:Nat->G}(u:∀b,g.γ b=.im->e b=.im):Af C.gl C.gb e w:=⟨λi=>(h.gl i).same (λb y=>⟨u b y,rfl⟩) (λ_ _ h=>by simp at h) (λk A=>absurd A ((h.ln i).2 k)) (λp j=>absurd j ((h.ln i).1 p)) (λp j=>absurd j.mv ((h.ln i).1 p)),λi o x=>⟨u i (h.gb i o x).1,(h.gb i o x).2⟩⟩
def acS(hF:re P C)(h:cQ C E s g w)(l:eE nt g a)(hd:ij nt o.dst){vs:List TV}{vals:List Value}{f:Nat}(hl:vals.length=vs.length)(ha:∀(j:Nat)tv v,vs[j]?=some tv->vals[j]?=some v->rf (g.rc C w) (0+j) tv v)
  (aa:Enters P f->(execOp a.eval o).run P w=.ok (.enter f vals.toArray) w)(J:C5 C f vs s o.dst K=some r):
  ∃U,K U=some r/\vC P o a w (λa' w'=>∃g',Out C E nt (CX C f vs) o.dst (λk=>o.dst=some k) g w U a' w' g'):=by
 simp only[C5] at J;cases hc:C.fn f (w9 vs) with
 |none=>rw[hc] at J;simp at J
 |some c=>
  rw[hc] at J;obtain⟨H,Y⟩:=dY.1 J;clear J;obtain⟨ah,N⟩:=hF.ok _ _ _ hc;have ai:∀{s3:TS}{y:c.X}{U:TS},xN C o.dst c.rs (c.back y).1 s3=some U->∀{I:Nat->G}{w':World}{v:Value},cQ C E s3 {g with γ:=I} w'->rA (ea I w') c.ps.length c.rs (c.back y).1 v->dK (CX C f vs) g.γ w I w'->
    ∃g',Out C E nt (CX C f vs) o.dst (λk=>o.dst=some k) g w U (a.put o.dst v) w' g':=λ{s3 y U}D{I w' v}h3 hR u=>by
   obtain⟨g',h4,h5,h6,h7⟩:=afU (g:={g with γ:=I}) h3 hR D
   refine⟨g',h4,?_,(u.trans h7).mono λq p hx=>?_,λk J=>?_,λk J=>by rw[h6 k J]⟩
   ·have l1:eE nt {g with γ:=I} a:=l.same rfl;exact(l1.put hd (v:=v)).same h5
   ·rcases hx with hx|hx
    ·exact hx
    ·refine⟨c,hc,.inl ⟨.inr ⟨_,hx⟩,?_⟩⟩;rintro⟨⟨k,J⟩,_⟩;rw[hx] at J;cases J
   ·rw[h5];exact KJ {g with γ:=I} o.dst v k J
  have ad:∀{q:Rt}{π:dv},(∃n,q=.cE n)->¬ kW q π:=λ{q π}⟨n,hn⟩⟨⟨k,J⟩,_⟩=>by rw[hn] at J;cases J
  cases S:c.ua with
  |true=>
   rw[S] at Y;simp only[Po,S,cP] at H;obtain⟨ak,am⟩:q9 c.rs=true/\qo c.ps=true:=by
    cases hq:q9 c.rs with
    |true=>rw[hq,cP] at H;exact⟨rfl,H⟩
    |false=>rw[hq] at H;simp at H
   obtain⟨x,bk,ae,an,ao⟩:=SC h c.ps vs vals 0 am hl ha Y;obtain⟨y,hy,F⟩:=fa.1 ae;rw[an] at F;cases D:xN C o.dst c.rs (c.back y).1 s with
   |none=>rw[D] at F;simp at F
   |some U=>
    rw[D] at F;refine⟨U,F,λnext Q hq=>?_⟩;have af:=N (jH g.γ) w vals (λ_=>undef) x y (λb A=>TJ (h.cL.new b A)) (Xg h λb A=>Ck A) (ao _) hy;unfold Oper.wp;rw[aa ah,Oper.upon_enter];refine af.mono λe w' hw=>?_;obtain⟨v,M,rfl,u,hR,_⟩:=hw;refine hq _ _ ?_;have aw:∀b q p,g.γ b=.at q p->b<w.heap.size:=λb q p A=>DN λhn=>by rw[h.cL.new b hn] at A;cases A
    have ab:dK (λq _=>∃n,q=.cE n) g.γ w (zV g.γ M) w':=by
     refine⟨λb A=>?_,λb q p A _=>?_,λb ap A=>?_,u.size,λb A=>?_,u.tape,u.os,u.output⟩
     ·obtain⟨h1,h2⟩:=u.im b (Ck A);exact⟨by simp only[zV,A];exact h1,h2⟩
     ·obtain⟨h1,h2⟩:=u.im b (Ft A);exact⟨by simp only[zV,A],h2⟩
     ·obtain⟨h1,h2⟩:=u.fr b ap (TJ A);exact⟨by simp only[zV,A];exact h1,h2⟩
     ·have Z:w.heap.size<=b:=Av u.size A;have:=h.cL.new b Z;simp only[zV,this];exact u.new b A
    have h3:=h.grow ab (λq p hx=>hx);refine ai D h3 (hR.fresh ak λb π A=>⟨?_,rfl⟩) (ab.mono λq p hx=>⟨c,hc,.inl ⟨.inr hx,ad hx⟩⟩);have Z:M b=.at (.cE c.ps.length) π:=A;show zV g.γ M b=_;unfold zV;split
    ·rename_i q p hg;exfalso;have:=(u.im b (Ft hg)).1;rw[Z] at this;cases this
    ·exact Z
  |false=>
   rw[S] at Y;have aq:sy c.ps=false:=by
    simp only[Po,S,cR] at H
    cases hq:sy c.ps with
    |true=>rw[hq] at H;simp at H
    |false=>rfl
   obtain⟨x,bk,s1,aj,au,ae,h1,h2,h3,h4,h5,h6⟩:=TQ c.ps vs vals 0 h aq hl ha Y;obtain⟨y,hy,F⟩:=fa.1 ae;cases D:xN C o.dst c.rs (c.back y).1 (bk (c.back y).2 s1) with
   |none=>rw[D] at F;simp at F
   |some U=>
    rw[D] at F;refine⟨U,F,λnext Q hq=>?_⟩;have af:=N aj w vals au x y h1.cL.new (Xg h1 λb A=>A) h2 hy;unfold Oper.wp;rw[aa ah,Oper.upon_enter];refine af.mono λe w' hw=>?_;obtain⟨v,M,rfl,u,hR,hO⟩:=hw;refine hq _ _ ?_;have h7:cQ C E s1 {g with γ:=M} w':=h1.grow (g:={g with γ:=aj}) u (λq p hx=>hx);obtain⟨I,h8,h9,av⟩:=h6 (c.back y).2 s1 M w' h7 (λb k A=>(u.at' b _ _ A (by simp)).2) hO;refine ai D h8 (hR.yb (λb A=>⟨h9.im b A,rfl⟩) λb π A=>⟨h9.cE b _ π (by simp) A,rfl⟩) ?_;refine((h4.trans u).trans av).mono λq p hx=>⟨c,hc,?_⟩;rcases hx with(hx|hx)|hx
    ·rcases hx with⟨hx,A⟩|hx
     ·refine .inl ⟨?_,A⟩;rcases hx with hx|hx
      ·exact .inl ⟨S,hx⟩
      ·exact .inr hx
     ·exact .inr hx
    ·exact .inl ⟨.inr hx,ad hx⟩
    ·exact .inl ⟨.inr hx,ad hx⟩
def kf{k:Nat}:∀{l:List Nat},fZ k l=true↔k∈l
 |[]=>by simp[fZ]
 |x::l=>by
  simp only[fZ,eG];cases hx:Nat.beq k x with
  |true=>simp[gU hx]
  |false=>
   have:k≠x:=λe=>by subst e;simp at hx
   simp only[cR,this,false_or];exact kf
def N4{k:Nat}:∀{xs:List Operand},k∈opsL xs↔.tmp k∈xs
 |[]=>by simp[opsL]
 |x::xs=>by cases x<;>simp[opsL,N4 (xs:=xs)]
def R0{t:TS}{k:Nat}(h:whole (t.cD k)=true):iH t (.tmp k)=t:=by
 simp only[iH];split<;>simp_all [whole]
def aeA{t:TS}{x:Operand}{j:Nat}(h:x≠.tmp j):(iH t x).cD j=t.cD j:=by
 cases x with
 |tmp k=>
  have:j≠k:=λe=>h (by rw[e]);simp only[iH];split<;>first|rfl|exact rN _ _ this
 |_=>rfl
def Cn{t:TS}{x:Operand}(h:∀k,x=.tmp k->t.cD k=s.cD k):dn C t x=dn C s x:=by
 cases x with
 |tmp k=>simp only[dn,h k rfl]
 |_=>rfl
def TR(hC:ga P C):∀(xs:List Operand)(i:Nat){t:TS}{g:Gs},cQ C E t g w->eE nt g a->(∀x∈xs,fD nt x=true)->(∀k,.tmp k∈xs->t.cD k=s.cD k)->vz s xs=false->
  ∃A,cQ C E (PO t xs) {g with γ:=A} w/\(∀(j:Nat)x,xs[j]?=some x->rf (Gs.rc C {g with γ:=A} w) (i+j) (dn C s x) (a.eval x))/\jX (λj=>i<=j) g.γ A/\FK (λq=>∃x∈xs,ry x q) g.γ A
 |[],i,t,g,h,l,_,_,_=>⟨g.γ,h,by simp,.refl _ _,.refl _⟩
 |x::xs,i,t,g,h,l,hx,Q,e=>by
  obtain⟨γ1,h1,h2,h3⟩:=Dm (n:=i) h l hC.gl (hx x (by simp));have hv:dn C t x=dn C s x:=Cn λk u=>Q k (by simp[u]);have I:vz s xs=false/\∀k,x=.tmp k->whole (s.cD k)=true\/.tmp k∉xs:=by
   cases x with
   |tmp k=>
    simp only[vz] at e
    cases J:whole (s.cD k) with
    |true=>rw[J,cP] at e;exact⟨e,λk' D=>by cases D;exact .inl J⟩
    |false=>
     rw[J,cR] at e
     cases S:fZ k (opsL xs) with
     |true=>rw[S] at e;simp at e
     |false=>
      rw[S,cR] at e
      refine⟨e,λk' D=>.inr ?_⟩
      cases D
      intro M
      rw[kf.2 (N4.2 M)] at S
      cases S
   |_=>exact⟨by simpa[vz] using e,λk u=>by cases u⟩
  have U:∀k,.tmp k∈xs->(iH t x).cD k=s.cD k:=λk u=>by
   by_cases N:x=.tmp k
   ·subst N;rcases I.2 k rfl with J|hn
    ·have Y:whole (t.cD k)=true:=by rw[Q k (by simp)];exact J
     rw[R0 Y];exact Q k (by simp)
    ·exact absurd u hn
   ·rw[aeA N];exact Q k (by simp[u])
  obtain⟨Z,k1,k2,k3,k4⟩:=TR hC xs (i+1) (t:=iH t x) (g:={g with γ:=γ1}) h1 (l.same rfl) (λy F=>hx y (by simp[F])) U I.1;have e1:jX (λ_=>False) g.γ γ1:=jX.fk h3 _ (λj hj=>by obtain⟨k,_,u⟩:=hj;cases u);refine⟨Z,k1,λj y F=>?_,(e1.mono (λ_ h=>h.elim)).trans (k3.mono λj hj=>by omega),(h3.mono λq H=>?_).trans (k4.mono λq H=>?_)⟩
  ·cases j with
   |zero=>
    simp only[qS,di] at F;subst F;rw[hv] at h2;have:=TH h2 (IN hC.gl);exact this.yb (g:={g with γ:=γ1}) k3 (by omega)
   |succ j=>
    have:=k2 j y (by simpa using F);rwa[show i+1+j=i+(j+1) by omega] at this
  ·obtain⟨k,u,H⟩:=H;exact⟨x,by simp,k,u,H⟩
  ·obtain⟨y,F,H⟩:=H;exact⟨y,by simp[F],H⟩
def Vp{e:TV}(h:pW e=true):gB e=true/\dN e=false:=by cases e<;>first|exact⟨rfl,rfl⟩|(simp[pW] at h)
def vq(C:Cx)(s:TS)(o:Oper)(q:Rt)(j:dv):Prop:=∃c x f e,o.op=.call c/\c.callee=.value x/\dn C s x=.fn f e/\((∃y∈c.args.toList,ry y q)/\¬ kW q j\/CX C f (c.args.toList.map (dn C s)++e) q j)
def Vq(hC:ga P C)(hF:re P C)(h:cQ C E s g w)(l:eE nt g a)(ab:oA P C nt o=true){c:Call}{x:Operand}(S:o.op=.call c)(u:c.callee=.value x)(M:Ev.step C o s K=some r):
  ∃s',K s'=some r/\vC P o a w (λa' w'=>∃g',Out C E nt (vq C s o) o.dst (λk=>o.dst=some k) g w s' a' w' g'):=by
 obtain⟨hd,U⟩:=uN ab;simp only[Ev.step,S,u] at M;split at M
 ·rename_i f Y Z;cases A:vz s c.args.toList with
  |true=>rw[A] at M;simp at M
  |false=>
   rw[A,cR] at M;have ad:fD nt x=true:=U x (by simp[S,Op.operands,Call.operands,u]);have ae:∀y∈c.args.toList,fD nt y=true:=λy hy=>U y (by simp only[S,Op.operands,Call.operands,u,HD];exact eJ.2 (.inr hy));have H:=iU h l ad;rw[Z] at H;obtain⟨af,h1,h2,h3,h4⟩:=TR (s:=s) hC c.args.toList 0 h l ae (λ_ _=>rfl) A;generalize ah:a.eval x=fv at H;generalize iY x=gm at H;cases H with
   |fn _ _ _ cv ai aj ak=>
    have am:=acS (g:={g with γ:=af}) (vs:=c.args.toList.map (dn C s)++Y) (vals:=c.args.toList.map a.eval++cv.toList) hF h1 (l.same rfl) hd (by simp[aj]) (λj tv v D J=>?_) (λan=>?_) M
    ·obtain⟨s',ao,ap⟩:=am;refine⟨s',ao,ap.mono λa' w'⟨g',F⟩=>⟨g',F.rel,F.Dx,?_,F.tm,F.bx⟩⟩;refine((h4.gD h.cL.new).trans F.gD).mono λq p hx=>⟨c,x,f,Y,S,u,Z,?_⟩;rcases hx with hx|hx
     ·exact .inl hx
     ·exact .inr hx
    ·by_cases I:j<c.args.toList.length
     ·rw[o7 (by simpa using I)] at D;rw[o7 (by simpa using I)] at J;rw[iA] at D J;cases hy:c.args.toList[j]? with
      |none=>rw[hy] at D;simp at D
      |some y=>
       rw[hy] at D J;simp only[jx,di] at D J;subst D;subst J;exact h2 j y hy
     ·rw[qb (by simpa using I)] at D;rw[qb (by simpa using I)] at J;simp only[o8] at D J;have hr:=ak _ tv v D (by rw[<-l7];exact J);have N:=ai tv (fh D);have:rf (g.rc C w) (0+j) tv v:=TH (hr.lift _) (.inr (.inr (Vp N).1));refine⟨?_,λQ=>hr.same (λb hb=>⟨h3.im b hb,rfl⟩) (λ_ _ h=>by simp at h) (λ_ _=>rfl) (λp Q=>absurd Q (JZ N p)) (λp Q=>absurd Q.mv (JZ N p)),this.ep⟩;obtain⟨xs,m1,m2,m3⟩:=this.cells;refine⟨xs,m1,λj' aq v' aa ax=>?_,m3⟩;have au:∀cs,tv≠.agg cs:=λcs he=>by subst he;simp[pW] at N
      have av:cellsOf tv=[tv]:=by cases tv<;>first|rfl|exact absurd rfl (au _)
      rw[av] at aa;have aw:aq=tv:=by
       have:=fh aa
       simpa using this
      subst aw;exact⟨λp t he=>by subst he;simp[pW] at N,λp t lo hi he=>by subst he;simp[pW] at N,λQ=>by rw[(Vp N).2] at Q;cases Q⟩
    ·simp only[execOp,S];have:(resolve a.eval c o.type)=pure {target:=.fn (.func f) cv,args:=#[]++c.args.map a.eval}:=by
      simp only[resolve,u,ah,Deferred.ofValue]
     rw[this];simp only[pure_bind,invoke];have e:(#[]++Array.map a.eval c.args++cv)=(List.map a.eval c.args.toList++cv.toList).toArray:=by
      apply Array.ext'
      simp
     rw[e];exact abt an _ _
 ·simp at M
end
end
section
def Hf(C:Cx)(s:TS)(o:Oper)(q:Rt)(e:dv):Prop:=(ra o=true/\(XZ (xP s o) q e\/Am C s o q e))\/vq C s o q e
def gX(C:Cx)(s:TS)(o:Oper)(q:Rt)(e:dv):Prop:=Hf C s o q e\/((∃n,q=.cE n)/\¬ kW q e)
def jf(nt:Nat)(g e:Gs):Prop:=∀k,nt<=k->e.tm k=g.tm k/\e.bx k=g.bx k
def jf.refl{nt:Nat}{g:Gs}:jf nt g g:=λ_ _=>⟨rfl,rfl⟩
def jf.trans{nt:Nat}{g u X8:Gs}(h:jf nt g u)(k:jf nt u X8):jf nt g X8:=λj e=>⟨(k j e).1.trans (h j e).1,(k j e).2.trans (h j e).2⟩
def jf.γ{nt:Nat}{g:Gs}{e:Nat->G}:jf nt g {g with γ:=e}:=λ_ _=>⟨rfl,rfl⟩
section
variable{P:Program}{C:Cx}{E:Env}{nt:Nat}{o:Oper}{s:TS}{g:Gs}{a:Act}{w:World}{R:Type}{r:R}{K:TS->Option R}
def Out.jI{X:Rt->dv->Prop}{d:Option Nat}{j:TS}{u:Act}{x:World}{g':Gs}(h:Out C E nt X d (λk=>d=some k) g w j u x g')(y:ij nt d):jf nt g g':=λk A=>by
 have:d≠some k:=λe=>by subst e;exact absurd (show k<nt from y) (by omega)
 exact⟨h.tm k this,h.bx k this⟩
def aeB{q:Rt}(h:oZ s o q):xP s o q:=by
 unfold oZ at h;split at h
 ·rename_i x e;exact⟨x,by simp[e,Op.operands],ed.z h⟩
 ·exact h
def Fw{k:Nat}(h:k∈mI o):o.dst=some k:=by
 have e:∀{d:Option Nat},k∈dH d->d=some k:=λ{d}h=>by
  cases d with
  |none=>simp[dH] at h
  |some d=>simp[dH] at h;rw[h]
 unfold mI at h;split at h
 ·exact e h
 ·exact e h
 ·split at h
  ·exact e h
  ·simp at h
 ·simp at h
def acT(hC:ga P C)(U:re P C)(h:cQ C E s g w)(l:eE nt g a)(y:oA P C nt o=true)(F:Ev.step C o s K=some r):
  ∃u,K u=some r/\vC P o a w (λH I=>∃A,Out C E nt (Hf C s o) o.dst (λk=>o.dst=some k) g w u H I A):=by
 cases e:ra o with
 |true=>
  obtain⟨u,J,M⟩:=step_ok hC h l y e F;exact⟨u,J,M.mono λH I⟨A,N⟩=>⟨A,N.mono (λq p Q=>.inl ⟨e,Q.imp (λS=>⟨S.1.imp aeB id,S.2⟩) id⟩) (λk h=>Fw h)⟩⟩
 |false=>
  cases D:o.op with
  |call c=>
   cases j:c.callee with
   |value x=>
    obtain⟨u,J,M⟩:=Vq hC U h l y D j F;exact⟨u,J,M.mono λH I⟨A,N⟩=>⟨A,N.mono (λq p Q=>.inr Q) (λ_ h=>h)⟩⟩
   |invoke x m=>simp[Ev.step,D,j] at F
   |builtin b=>simp[ra,D,j] at e
  |_=>simp[ra,D] at e
def Vr(h:cQ C E s g w)(l:eE nt g a)(j:ij nt o.dst){nb:Nat->Prop}:∃g',Out C E nt (λq u=>(∃n,q=.cE n)/\¬ kW q u) o.dst nb g w (eA C s o.dst (.fp [])) (a.put o.dst undef) w g':=by
 have x:Rd (g.rc C w) (some (.cE 0,[])) (.fp []) undef:=.fp _ _ _ (by simp) rfl (by simp);obtain⟨e,y,A⟩:=h.put (d:=o.dst) x;refine⟨_,y,(l.same (g':={g with γ:=e}) rfl).put j,?_,λk D=>KJ _ _ _ k D,λk _=>by rw[Gi]⟩;rw[Gh];exact(A.gD h.cL.new).mono λq p hx=>⟨⟨0,hx.1⟩,hx.2⟩
def Db(P:Program)(e:Array Oper)(i:Nat)(a:Act)(w:World)(x:Act->World->Prop):Prop:=∀(next:Act->World->Prop)(Q:Exit->Act->World->Prop),(∀j u,x j u->next j u)->wpOp P e Q i next a w
def Db.mono{ops:Array Oper}{i:Nat}{u Ψ:Act->World->Prop}(h:Db P ops i a w u)(x:∀e j,u e j->Ψ e j):Db P ops i a w Ψ:=λnext Q y=>h next Q λe j A=>y e j (x e j A)
def N5:∀(l:List Oper)(j:Nat),oD l j=(l[j]?).bind (·.dst)
 |[],j=>by simp[oD]
 |o::l,0=>by simp[oD]
 |o::l,j+1=>by simp[oD,N5 l j]
def aak{D:Type}(z:D):∀(t:Tr D)(i j:Nat)(v:D),t.get z i=v->v≠z->(t.set i v).get z j=t.get z j
 |.lf,i,j,v,h,F=>absurd h.symm (by simpa[Tr.get] using F)
 |.nd l x r,i,j,v,h,F=>by
  by_cases A:i=j
  ·subst A;rcases yB z v (.nd l x r) i with e|e
   ·rw[e,h]
   ·exfalso;have H:∀(t:Tr D)(i:Nat),t.get z i=v->(t.set i v).get z i=v:=by
     intro t
     induction t with
     |lf=>intro i h;exact absurd h.symm (by simpa[Tr.get] using F)
     |nd l x r I J=>
      intro i h
      rw[mW] at h
      rw[EV]
      by_cases y:i=0
      ·rw[cM y,mW,cM y]
      ·rw[cN y] at h;rw[cN y]
       by_cases u:i % 2=1
       ·rw[cM u] at h;rw[cM u,mW,cN y,cM u];exact I _ h
       ·rw[cN u] at h;rw[cN u,mW,cN y,cN u];exact J _ h
    rw[H _ _ h] at e;exact F e
  ·exact wc _ _ _ _ _ A
def TT{k:Nat}{v:TV}(h:s.cD k=v)(e:v≠.un)(j:Nat):(s.raw k v).cD j=s.cD j:=by
 have u:s.t.get .un k=v:=h;exact aak .un s.t k j v u e
def acU{s e:TS}(h:∀j,e.cD j=s.cD j):Hf C e o=Hf C s o:=by
 have u:∀x,dn C e x=dn C s x:=λx=>Cn λk _=>h k;have y:∀x,ed e x=ed s x:=λx=>by funext q;simp only[ed,h]
 have A:dn C e=dn C s:=funext u;have D:xP e o=xP s o:=by funext q;simp only[xP,y]
 funext q F;simp only[Hf,Am,vq,A,D]
def acV(hC:ga P C)(hF:re P C)(h:cQ C E s g w)(l:eE nt g a){ops:Array Oper}(Y:∀o∈ops.toList,oA P C nt o=true){i:Nat}(M:ops[i]?=some o)(e:PQ C ops.toList o s K=some r):
  ∃J,K J=some r/\Db P ops i a w (λa' w'=>∃N,Out C E nt (gX C s o) o.dst (λk=>o.dst=some k) g w J a' w' N):=by
 have ae:o∈ops.toList:=by rw[<-l7] at M;exact fh M
 have aa:=Y o ae;have hd:=(uN aa).1;have go:Region.wanted o (yielded ops a.tmps)=true->∀{Z:TS},(∀j,Z.cD j=s.cD j)->cQ C E Z g w->Ev.step C o Z K=some r->∃J,K J=some r/\Db P ops i a w (λa' w'=>∃N,Out C E nt (gX C s o) o.dst (λk=>o.dst=some k) g w J a' w' N):=λhw{Z}af h1 e=>by
  obtain⟨J,h2,h3⟩:=acT hC hF h1 l aa e
  refine⟨J,h2,λnext Q hq=>?_⟩
  unfold wpOp
  simp only[M,hw,gE]
  refine .inl (h3 next Q λa' w'⟨N,h4⟩=>hq a' w' ⟨N,h4.mono (λq p hx=>.inl ?_) (λ_ h=>h)⟩)
  rw[<-acU af];exact hx
 have no:Region.wanted o (yielded ops a.tmps)=false->∀{Z:TS},cQ C E Z g w->K (eA C Z o.dst (.fp []))=some r->∃J,K J=some r/\Db P ops i a w (λa' w'=>∃N,Out C E nt (gX C s o) o.dst (λk=>o.dst=some k) g w J a' w' N):=λhw{Z}h1 e=>by
  obtain⟨N,h2⟩:=Vr (o:=o) (nb:=λk=>o.dst=some k) h1 l hd
  refine⟨_,e,λnext Q hq=>?_⟩
  unfold wpOp
  simp only[M,hw,iS,iO]
  exact hq _ _ ⟨N,h2.mono (λq p hx=>.inr hx) (λ_ h=>h)⟩
 unfold PQ at e;cases hg:o.guard with
 |none=>
  rw[hg] at e;exact go (by simp[Region.wanted,hg]) (λ_=>rfl) h e
 |some jw=>
  obtain⟨j,wv⟩:=jw;rw[hg] at e;simp only[] at e;cases D:oD ops.toList j with
  |none=>rw[D] at e;simp at e
  |some H=>
   rw[D] at e;simp only[] at e;rw[N5,l7] at D;have ab:H<nt:=by
    cases S:ops[j]? with
    |none=>rw[S] at D;simp at D
    |some oj=>
     rw[S] at D
     simp only[o4] at D
     have:=(uN (Y oj (by rw[<-l7] at S;exact fh S))).1
     rw[D] at this
     exact this
   have ad:a.tmps[H]?=some (g.tm H):=by
    have h1:=l.tm H ab
    have h2:H<a.tmps.size:=by rw[l.sz];exact ab
    rw[jN h2]
    rw[uD,jN h2] at h1
    simpa using h1
   have I:=h.fQ H;split at e
   ·rename_i x hx;rw[hx] at I;have F:g.tm H=.bool x:=I.pE;have hy:yielded ops a.tmps j=some x:=by simp[yielded,D,ad,F]
    have hw:Region.wanted o (yielded ops a.tmps)=(x==wv):=by
     simp only[Region.wanted,hg,hy]
     cases x<;>cases wv<;>rfl
    have U:∀y,x=y->cQ C E (s.raw H (.b y)) g w:=λy hy=>by subst hy;exact h.J4 (by rw[F];exact .b _ _)
    have rs:∀y,x=y->∀j,(s.raw H (.b y)).cD j=s.cD j:=λy hy=>by subst hy;exact TT hx (by simp)
    cases wv with
    |true=>
     simp only[] at e;rcases Cf.1 e with⟨A,e⟩|⟨A,e⟩
     ·exact go (by rw[hw,A];rfl) (rs true A) (U true A) e
     ·exact no (by rw[hw,A];rfl) (U false A) e
    |false=>
     simp only[] at e;rcases Cf.1 e with⟨A,e⟩|⟨A,e⟩
     ·exact no (by rw[hw,A];rfl) (U true A) e
     ·exact go (by rw[hw,A];rfl) (rs false A) (U false A) e
   ·rename_i hx;rw[hx] at I;have F:∃vs,g.tm H=.tuple vs:=by
     generalize g.tm H=u at I
     cases I with
     |fp _ _ vs _ _ _=>exact⟨vs,rfl⟩
    obtain⟨vs,F⟩:=F;have hy:yielded ops a.tmps j=none:=by simp[yielded,D,ad,F]
    exact no (by simp[Region.wanted,hg,hy]) h e
   ·simp at e
def TU(hC:ga P C)(M:re P C){ops:Array Oper}(u:∀o∈ops.toList,oA P C nt o=true){Q:Exit->Act->World->Prop}{g0:Gs}(N:∀D y F H,K D=some r->cQ C E D y H->eE nt y F->jf nt g0 y->Q .normal F H):
  ∀(e:List Oper)(i:Nat){s:TS}{g:Gs}{a:Act}{w:World},(∀j,e[j]?=ops[i+j]?)->K4 C ops.toList e s K=some r->cQ C E s g w->eE nt g a->jf nt g0 g->wpOps P ops Q (List.range' i e.length) a w
 |[],i,s,g,a,w,_,A,h,l,kp=>N s g a w A h l kp
 |o::e,i,s,g,a,w,S,A,h,l,kp=>by
  have x:ops[i]?=some o:=by simpa using(S 0).symm
  simp only[K4] at A;obtain⟨D,U,Y⟩:=acV hC M h l u x A;simp only[gy,QL];rw[wpOps_cons];refine Y _ _ λF H⟨y,I⟩=>?_;have J:o∈ops.toList:=by rw[<-l7] at x;exact fh x
  exact TU hC M u N e (i+1) (λj=>by have:=S (j+1);simpa[o6,vY 1 j] using this) U I.rel I.Dx (kp.trans (I.jI (uN (u o J)).1))
end
end
section
def lU(P:Program)(C:Cx)(nt:Nat):Code->Bool|.region _ e _=>e.toList.all (oA P C nt)|.seq a b=>lU P C nt a&&lU P C nt b|.cond c a b=>fD nt c&&lU P C nt a&&lU P C nt b|.block _ (.loop _)=>true|.block _ c=>lU P C nt c|.ret=>true|.exit _=>true|.skip=>true|_=>false
def Gm(P:Program)(C:Cx)(nt:Nat):Prop:=∀(E:Env)(R:Type)(r:R)(e:Array Oper)(s:TS)(K:TS->Option R)(g:Gs)(a:Act)(w:World)(Q:Exit->Act->World->Prop),(∀o∈e.toList,oA P C nt o=true)->px C e.toList e.toList [] s K=some r->cQ C E s g w->eE nt g a->(∀u j x y,K u=some r->cQ C E u j y->eE nt j x->jf nt g j->Q .normal x y)->wpAny P .any e Q e.size (Array.replicate e.size false) a w
section
variable{P:Program}{R:Type}{r:R}{D:Ctx R}{E:Env}{nt:Nat}
def Le(D:Ctx R)(E:Env)(nt:Nat)(r:R)(g:Gs)(K:Ex->TS->Option R)(Q:Exit->Act->World->Prop):Prop:=(∀e a j u,K .normal e=some r->cQ D.c E e a u->eE nt a j->jf nt g a->Q .normal j u)/\(∀i e a j u,K (.exit i) e=some r->cQ D.c E e a u->eE nt a j->jf nt g a->Q (.exit i) j u)/\(∀e a j u,D.Dg e=some r->cQ D.c E e a u->eE nt a j->jf nt g a->Q .ret j u)
def Wx(P:Program)(D:Ctx R)(nt:Nat)(id:Nat)(c:Code):Prop:=∀e,D.loops id=some e->∀(E:Env)(v:e.si.V)(k:e.so.V->Option R)(r:R)(g:Gs)(a:Act)(w:World)(Q:Exit->Act->World->Prop),e.L v k=some r->cQ D.c E (e.si.enc v) g w->eE nt g a->(∀o j u x,k o=some r->cQ D.c E (e.so.enc o) j x->eE nt j u->jf nt g j->Q .normal u x)->(∀y j u x,D.Dg y=some r->cQ D.c E y j x->eE nt j u->jf nt g j->Q .ret u x)->(Code.block id (.loop c)).wp P Q a w
def tF(P:Program)(D:Ctx R)(nt:Nat):Code->Prop|.seq a b=>tF P D nt a/\tF P D nt b|.cond _ a b=>tF P D nt a/\tF P D nt b|.block id (.loop c)=>Wx P D nt id c|.block _ c=>tF P D nt c|_=>True
def Le.jI{g A:Gs}{K:Ex->TS->Option R}{Q:Exit->Act->World->Prop}(h:Le D E nt r g K Q)(k:jf nt g A):Le D E nt r A K Q:=⟨λs2 g2 a e j u x y=>h.1 s2 g2 a e j u x (k.trans y),λi s2 g2 a e j u x y=>h.2.1 i s2 g2 a e j u x (k.trans y),λs2 g2 a e j u x y=>h.2.2 s2 g2 a e j u x (k.trans y)⟩
def acW{id:Nat}{c:Code}{s:TS}{K:Ex->TS->Option R}(a:∀j,c≠.loop j):ev D (.block id c) s K=ev D c s λe s'=>match e with|.normal=>K .normal s'|.exit i=>bif Nat.beq i id then K .normal s' else K (.exit i) s':=by
 cases c<;>first|rfl|exact absurd rfl (a _)
def zW(Z:P.follows .mixedOrders=true)(hC:ga P D.c)(hF:re P D.c)(J:Gm P D.c nt):∀(c:Code){s:TS}{K:Ex->TS->Option R}{g:Gs}{a:Act}{w:World}{Q:Exit->Act->World->Prop},ev D c s K=some r->lU P D.c nt c=true->tF P D nt c->cQ D.c E s g w->eE nt g a->Le D E nt r g K Q->c.wp P Q a w
 |.region id S aa,s,K,g,a,w,Q,j,u,_,h,l,y=>by
  have M:∀o∈S.toList,oA P D.c nt o=true:=by simp only[lU,jC] at u;exact u
  simp only[ev] at j;obtain⟨s1,I,j,h1⟩:=Ss _ h j;cases aa with
  |false=>
   refine wp_region ?_;have:=TU (Q:=Q) (g0:=g) hC hF M (λH A C F j h l kp=>y.1 H A C F j h l kp) S.toList 0 (by simp) j h1 (l.same rfl) jf.γ;rw[ZD];simpa using this
  |true=>
   refine wp_region_any Z ?_;have hw:cQ D.c E s1 {g with γ:=I} {w with drawn:=w.drawn+1}:=by
    have ad:dK (λ_ _=>False) I w I {w with drawn:=w.drawn+1}:=⟨λ_ h=>⟨h,rfl⟩,λ_ _ _ h _=>⟨h,rfl⟩,λ_ _ h=>⟨h,rfl⟩,iN _,λb hb=>h1.cL.new b hb,rfl,rfl,rfl⟩
    exact h1.grow (g:={g with γ:=I}) ad (λ_ _ h=>h.elim)
   exact J E R r S s1 (K .normal) {g with γ:=I} a _ Q M j hw (l.same rfl) (λH A C F j h l kp=>y.1 H A C F j h l (jf.γ.trans kp))
 |.seq c1 c2,s,K,g,a,w,Q,j,u,N,h,l,y=>by
  simp only[lU,dF] at u;simp only[ev] at j;refine wp_seq (zW Z hC hF J c1 j u.1 N.1 h l ⟨λH A C F j h l kp=>?_,λi H A C F j h l kp=>y.2.1 i H A C F j h l kp,λH A C F j h l kp=>y.2.2 H A C F j h l kp⟩);exact zW Z hC hF J c2 j u.2 N.2 h l (y.jI kp)
 |.cond x c1 c2,s,K,g,a,w,Q,j,u,N,h,l,y=>by
  simp only[lU,dF] at u;simp only[ev] at j;split at j
  ·rename_i b hb;have U:=iU h l u.1.1;rw[hb] at U;have U:=U.pE;rcases Cf.1 j with⟨rfl,j⟩|⟨rfl,j⟩
   ·exact wp_cond_true U (zW Z hC hF J c1 j u.1.2 N.1 h l y)
   ·exact wp_cond_false U (zW Z hC hF J c2 j u.2 N.2 h l y)
  ·simp at j
 |.block id c,s,K,g,a,w,Q,j,u,N,h,l,y=>by
  by_cases hc:∃c',c=.loop c'
  ·obtain⟨c',rfl⟩:=hc;simp only[ev,W6] at j;split at j
   ·rename_i ae hs;split at j
    ·rename_i v U;obtain⟨I,h1,_⟩:=No h U;exact N ae hs E v _ r {g with γ:=I} a w Q j h1 (l.same rfl) (λo A C F j h l kp=>y.1 _ A C F j h l (jf.γ.trans kp)) (λH A C F j h l kp=>y.2.2 H A C F j h l (jf.γ.trans kp))
    ·simp at j
   ·simp at j
  ·have Y:∀c',c≠.loop c':=λc' e=>hc ⟨c',e⟩;rw[acW Y] at j;have ab:lU P D.c nt c=true:=by
    cases c<;>first|exact u|exact absurd rfl (Y _)
   have af:tF P D nt c:=by
    cases c<;>first|exact N|exact absurd rfl (Y _)
   refine wp_block (zW Z hC hF J c j ab af h l ⟨λH A C F j h l kp=>y.1 H A C F j h l kp,λi H A C F j h l kp=>?_,λH A C F j h l kp=>y.2.2 H A C F j h l kp⟩);simp only[Exit.inBlock];simp only[] at j
   by_cases hi:i=id
   ·rw[cM hi];rw[hi] at j;simp only[Nat.beq_refl,cP] at j;exact y.1 H A C F j h l kp
   ·rw[cN hi];have:Nat.beq i id=false:=by
     cases hb:Nat.beq i id with
     |false=>rfl
     |true=>exact absurd (gU hb) hi
    rw[this,cR] at j;exact y.2.1 i H A C F j h l kp
 |.ret,s,K,g,a,w,Q,j,_,_,h,l,y=>wp_ret (y.2.2 s g a w j h l .refl)
 |.exit i,s,K,g,a,w,Q,j,_,_,h,l,y=>wp_exit (y.2.1 i s g a w j h l .refl)
 |.skip,s,K,g,a,w,Q,j,_,_,h,l,y=>wp_skip (y.1 s g a w j h l .refl)
 |.loop _,_,_,_,_,_,_,j,u,_,_,_,_=>by simp[lU] at u
 |.rangeFunc _ _ _ _,_,_,_,_,_,_,j,u,_,_,_,_=>by simp[lU] at u
 |.scope _,_,_,_,_,_,_,j,u,_,_,_,_=>by simp[lU] at u
 |.label _,_,_,_,_,_,_,j,u,_,_,_,_=>by simp[lU] at u
 |.goto _,_,_,_,_,_,_,j,u,_,_,_,_=>by simp[lU] at u
 |.refuse _,_,_,_,_,_,_,j,u,_,_,_,_=>by simp[lU] at u
def LN(P:Program)(c:Code)(Q:Exit->Act->World->Prop)(a:Act)(w:World):Prop:=∀(b:Frame)(k:List Item)(j:List Frame),∃e u x,Q e u x/\Arrives P (lone (b.at a (.code c::.inLoop c::k)) j w) b k j e u x
def aby{c:Code}{Q:Exit->Act->World->Prop}{a:Act}{w:World}(h:LN P c Q a w):(Code.loop c).wp P Q a w:=λb k u=>by
 obtain⟨e,x,y,A,j⟩:=h b k u;exact⟨e,x,y,A,.of_steps (.one step_loop) j⟩
def acX{c:Code}{Q:Exit->Act->World->Prop}{a:Act}{w:World}(h:c.wp P (Exit.then (LN P c Q) Q) a w):LN P c Q a w:=by
 intro b k M;obtain⟨e,u,y,F,j⟩:=h b (.inLoop c::k) M;cases e with
 |normal=>
  obtain⟨H,I,J,C,A⟩:=F b k M;exact⟨H,I,J,C,.of_steps (Steps.trans j (.one step_inLoop)) A⟩
 |exit id=>exact⟨_,u,y,F,.pass (x:=.inLoop c) rfl (λ_ _=>.inl (by simp)) j⟩
 |goto l=>exact⟨_,u,y,F,.pass (x:=.inLoop c) rfl (λ_ _=>.inl (by simp)) j⟩
 |ret=>exact⟨_,u,y,F,.pass (x:=.inLoop c) rfl (λ_ _=>.inl (by simp)) j⟩
 |panic N=>exact⟨_,u,y,F,.pass (x:=.inLoop c) rfl (λ_ _=>.inl (by simp)) j⟩
 |outgrown=>exact⟨_,u,y,F,.pass (x:=.inLoop c) rfl (λ_ _=>.inl (by simp)) j⟩
def Gn(D:Ctx R)(id:Nat)(c:Code)(a j:Live)(L:a.V->(j.V->Option R)->Option R)(v:a.V)(k:j.V->Option R):Option R:=
 ev D c (a.enc v) λe s=>
  match e with
  |.normal=>(match a.dec s with|some u=>L u k|none=>none)
  |.exit i=>bif Nat.beq i id then(match j.dec s with|some o=>k o|none=>none) else none
def aeC(hm:P.follows .mixedOrders=true)(hC:ga P D.c)(hF:re P D.c)(F:Gm P D.c nt){id n:Nat}{c:Code}{u H:Live}{L:Nat->u.V->(H.V->Option R)->Option R}(hD:D.loops id=some ⟨u,H,L n⟩)
  (h0:∀v k,L 0 v k=none)(hS:∀m v k,L (m+1) v k=Gn D id c u H (L m) v k)(I:lU P D.c nt c=true)(J:tF P D nt c):Wx P D nt id c:=by
 intro aa hs E v k r g a w Q e h l hn hr;rw[hD] at hs;cases hs;refine wp_block (aby ?_);have M:∀(m:Nat)(v:u.V)(x:Gs)(C:Act)(w1:World),L m v k=some r->cQ D.c E (u.enc v) x w1->eE nt x C->jf nt g x->LN P c (Exit.inBlock id Q) C w1:=by
  intro m
  induction m with
  |zero=>intro v x C w1 e;rw[h0] at e;simp at e
  |succ m ih=>
   intro v x C w1 e h l kp
   rw[hS] at e
   refine acX (zW hm hC hF F c e I J h l ⟨λN S y A e h l j=>?_,λi N S y A e h l j=>?_,λN S y A e h l j=>hr N S y A e h l (kp.trans j)⟩)
   ·simp only[] at e;split at e
    ·rename_i v' U;obtain⟨Y,Z,_⟩:=No h U;exact ih v' _ y A e Z (l.same rfl) ((kp.trans j).trans jf.γ)
    ·simp at e
   ·simp only[] at e
    by_cases hi:i=id
    ·subst hi;simp only[Nat.beq_refl,cP] at e;split at e
     ·rename_i o U;obtain⟨Y,Z,_⟩:=No h U;have:=hn o _ y A e Z (l.same rfl) ((kp.trans j).trans jf.γ);simpa[Exit.then,Exit.inBlock] using this
     ·simp at e
    ·have:Nat.beq i id=false:=by
       cases hb:Nat.beq i id with
       |false=>rfl
       |true=>exact absurd (gU hb) hi
     rw[this] at e;simp at e
 exact M n v g a w e h l .refl
end
end
section
def Pw(nt i:Nat):dX->Option Rt|.val _=>some (.cD i)|.pb _ _ _=>some (.box (nt+i))|.bd=>some (.box (nt+i))|.pr _=>some (.cD (nt+i))|.mu _=>some (.cD (nt+i))|.rp _=>none|.fn _ _=>none
def oM(ps:List dX)(nt:Nat)(γ:Nat->G):Nat->G:=λb=>
 match γ b with
 |.im=>.im
 |.at (.cE i) p=>match(ps[i]?).bind (Pw nt i) with|some q=>.at q p|none=>.fr
 |_=>.fr
def agS:Value->Nat|.pointer (some a)=>a.block|_=>0
def kj(ps:List dX)(nt:Nat)(γ:Nat->G)(vals:List Value)(hds:Nat->Value):Gs:=
 ⟨oM ps nt γ,λk=>agS (vals.getD (k-nt) undef),λk=>if k<nt then vals.getD k undef else hds (k-nt)⟩
def sC(C:Cx)(nt:Nat):Nat->List dX->Bool|_,[]=>true|i,.pr _::ps=>C.vs (nt+i)&&sC C nt (i+1) ps|i,.mu _::ps=>C.vs (nt+i)&&sC C nt (i+1) ps|i,_::ps=>sC C nt (i+1) ps
section
variable{C:Cx}{g:Gs}{w:World}{γ:Nat->G}{ps:List dX}{nt:Nat}{vals:List Value}{hds:Nat->Value}
def F1{b:Nat}(h:γ b=.im):oM ps nt γ b=.im:=by simp only[oM,h]
def OU{b:Nat}(h:γ b=.fr):oM ps nt γ b=.fr:=by simp only[oM,h]
def aeD{b i:Nat}{π:dv}{p:dX}{q:Rt}(h:γ b=.at (.cE i) π)(a:ps[i]?=some p)(e:Pw nt i p=some q):oM ps nt γ b=.at q π:=by simp only[oM,h,a,o4,e]
def N6{b:Nat}{q:Rt}{a:dv}(h:γ b=.at q a)(e:∀n,q≠.cE n):oM ps nt γ b=.fr:=by
 cases q with
 |cE n=>exact absurd rfl (e n)
 |_=>simp only[oM,h]
def zX(c:Rc)(a:Nat->Value)(s:TS):Prop:=(∀k,Rd c (some (.cD k,[])) (s.cD k) (a k))/\∀k,uf c k (s.box k)
def zX.raw{c:Rc}{tm:Nat->Value}{s:TS}{k:Nat}{tv:TV}(h:zX c tm s)(u:Rd c (some (.cD k,[])) tv (tm k)):zX c tm (s.raw k tv):=by
 refine⟨λj=>?_,h.2⟩
 by_cases a:j=k
 ·subst a;rcases wq s j tv with e|e<;>rw[e]
  ·exact u
  ·exact .un _ _
 ·rw[rN s tv a];exact h.1 j
def zX.bx{c:Rc}{tm:Nat->Value}{s:TS}{k:Nat}{u:BC}(h:zX c tm s)(x:uf c k u):zX c tm (s.bx k u):=by
 refine⟨h.1,λj=>?_⟩
 by_cases a:j=k
 ·subst a;rcases uP s j u with e|e<;>rw[e]
  ·exact x
  ·trivial
 ·rw[uO s u a];exact h.2 j
def Rd.agU{c a:Rc}{q e:Rt}{p j:dv}{u:TV}{v:Value}(h:Rd c (some (q,p)) u v)(x:iz u=true)(H:j9 c a)(A:Tn c a (λ_=>True) q p e j):Rd a (some (e,j)) u v:=
 h.mono _ H (λJ M D=>by
  simp only[di,eS] at D
  obtain⟨rfl,rfl⟩:=D
  exact⟨e,j,rfl,λb E F=>⟨A.jI b E F trivial,A.heap b E F⟩⟩) (λk I=>absurd I (CC x k)) (λr y=>absurd y (sd x r)) (λr y=>absurd y.mv (sd x r))
def zH:j9 (ea γ w) (Gs.rc C (kj ps nt γ vals hds) w):=λb a=>⟨F1 a,rfl⟩
def Gq{i:Nat}{p:dX}{q:Rt}(a:ps[i]?=some p)(e:Pw nt i p=some q):Tn (ea γ w) (Gs.rc C (kj ps nt γ vals hds) w) (λ_=>True) (.cE i) [] q []:=⟨λb j u _=>aeD u a e,λb j _ x=>absurd trivial x,λ_ _ _=>rfl⟩
def afV{i:Nat}{v:Value}(a:i<nt)(e:vals[i]?=some v):(kj ps nt γ vals hds).tm i=v:=by
 simp only[kj];rw[cM a,iT,e];rfl
def F3{i:Nat}:(kj ps nt γ vals hds).tm (nt+i)=hds i:=by
 simp only[kj];rw[cN (by omega),ajd]
def Px{i b:Nat}(a:vals[i]?=some (oG b)):(kj ps nt γ vals hds).bx (nt+i)=b:=by
 simp only[kj];rw[ajd,iT,a];rfl
def Vs(N:vals.length<=nt):∀(a:List dX)(i:Nat){x:oS a}{y:List Value},qE (ea γ w) hds i a x y->(∀j,a[j]?=ps[i+j]?)->(∀j,y[j]?=vals[i+j]?)->sC C nt i a=true->
  zX (Gs.rc C (kj ps nt γ vals hds) w) (kj ps nt γ vals hds).tm (pins nt i a x)
 |[],i,x,y,_,_,_,_=>⟨λk=>by
    have:(pins nt i [] x).cD k=.un:=MJ k
    rw[this];exact .un _ _,λk=>by
    have:(pins nt i [] x).box k=.none:=M0 k
    rw[this];trivial⟩
 |p::a,i,x,[],h,_,_,_=>h.elim
 |p::a,i,x,v::y,h,P,Q,H=>by
  have R:ps[i]?=some p:=by simpa using(P 0).symm
  have U:vals[i]?=some v:=by simpa using(Q 0).symm
  have hi:i<nt:=by
   have:=(eT.1 U).1
   omega
  have S:sC C nt (i+1) a=true:=by cases p<;>simp_all [sC]
  have I:=Vs N a (i+1) h.2 (λj=>by have:=P (j+1);simpa[o6,vY 1 j] using this) (λj=>by have:=Q (j+1);simpa[o6,vY 1 j] using this) S;have A:=afV (ps:=ps) (γ:=γ) (hds:=hds) hi U;have J:=h.1;have e:pins nt i (p::a) x=X5 nt i p x.1 (pins nt (i+1) a x.2):=rfl;rw[e];cases p with
  |val q=>
   refine I.raw ?_;rw[A];exact Rd.agU J (CK q x.1).1 zH (Gq R rfl)
  |pb t m m'=>
   obtain⟨b,D,M⟩:=J;have E:=Px (ps:=ps) (nt:=nt) (γ:=γ) (hds:=hds) (by rw[U,D]);refine(I.bx (k:=nt+i) (u:=.cells (jz m (enc false t x.1))) ?_).raw ?_
   ·have:=Cl (c':=Gs.rc C (kj ps nt γ vals hds) w) zH (Gq R rfl) zb M;show tS _ (.box (nt+i)) _ _;rw[show(Gs.rc C (kj ps nt γ vals hds) w).bx (nt+i)=b from E];exact this
   ·rw[A,D];have:=Rd.ptr (c:=Gs.rc C (kj ps nt γ vals hds) w) (some (.cD i,[])) (nt+i) 0;rwa[show(Gs.rc C (kj ps nt γ vals hds) w).bx (nt+i)=b from E] at this
  |bd=>
   obtain⟨b,D,M⟩:=J;have E:=Px (ps:=ps) (nt:=nt) (γ:=γ) (hds:=hds) (by rw[U,D]);refine(I.bx (k:=nt+i) (u:=.iL x.1) ?_).raw ?_
   ·have:=Cm (c':=Gs.rc C (kj ps nt γ vals hds) w) zH (Gq R rfl) M;show xA _ (.box (nt+i)) _ _;rw[show(Gs.rc C (kj ps nt γ vals hds) w).bx (nt+i)=b from E];exact this
   ·rw[A,D];have:=Rd.ptr (c:=Gs.rc C (kj ps nt γ vals hds) w) (some (.cD i,[])) (nt+i) 0;rwa[show(Gs.rc C (kj ps nt γ vals hds) w).bx (nt+i)=b from E] at this
  |pr t=>
   obtain⟨Y,b,o,Z,aa,ab,h2,h3,h4⟩:=J;have F:C.vs (nt+i)=true:=by simp only[sC,dF] at H;exact H.1
   refine(I.raw (k:=nt+i) (tv:=.own true t x.1.1) ?_).raw ?_
   ·rw[F3];exact Y.all rfl zH (Gq R rfl)
   ·rw[A,h4];refine Rd.ep _ (.cD (nt+i)) t x.1.2 0 b o Z aa trivial ?_ h2 h3;show va C.vs (kj ps nt γ vals hds).tm (kj ps nt γ vals hds).bx w (.cD (nt+i))=_;simp only[va];rw[cM F,F3,ab]
  |mu t=>
   obtain⟨Y,h4⟩:=J;have F:C.vs (nt+i)=true:=by simp only[sC,dF] at H;exact H.1
   refine(I.raw (k:=nt+i) (tv:=.own true t x.1) ?_).raw ?_
   ·rw[F3];exact Y.all rfl zH (Gq R rfl)
   ·rw[A,h4];refine Rd.vw _ (.cD (nt+i)) t _ trivial ?_;show va C.vs (kj ps nt γ vals hds).tm (kj ps nt γ vals hds).bx w (.cD (nt+i))=_;simp only[va];rw[cM F,F3]
  |rp t=>
   refine I.raw ?_;rw[A];exact(Fu (.inr ⟨t,x.1,rfl⟩) zH J).lift _
  |fn gg ts=>
   refine I.raw ?_;rw[A];exact(Fu (.inl ⟨gg,ts,x.1,rfl⟩) zH J).lift _
def abz(u:vals.length<=nt){x:oS ps}(h:qE (ea γ w) hds 0 ps x vals)(F:∀b,w.heap.size<=b->γ b=.fr)(e:Af C.gl C.gb γ w)(a:∀i,(∀p,¬ MV p (C.gl i))/\∀k,¬ MB k (C.gl i))(y:sC C nt 0 ps=true):
  cQ C ⟨w.heap.size,oM ps nt γ,w⟩ (pins nt 0 ps x) (kj ps nt γ vals hds) w:=by
 have D:=Vs (C:=C) (ps:=ps) u ps 0 h (by simp) (by simp) y;refine⟨D.1,D.2,⟨rfl,rfl,rfl,iN _,λb _ j=>⟨j,rfl⟩,λb _ j=>⟨j,rfl⟩,λb j=>OU (F b j)⟩,λi=>?_,a,λi o E=>⟨F1 (e.2 i o E).1,(e.2 i o E).2⟩⟩;exact(e.1 i).same (λb j=>⟨F1 j,rfl⟩) (λ_ _ h=>by simp at h) (λk H=>absurd H ((a i).2 k)) (λp A=>absurd A ((a i).1 p)) (λp A=>absurd A.mv ((a i).1 p))
def abA(a:vals.length<=nt):eE nt (kj ps nt γ vals hds) {tmps:=vals.toArray++Array.replicate (nt-vals.toArray.size) undef,defers:=[]} where
 df:=rfl
 sz:=by simp;omega
 tm k hk:=by
  simp only[kj];rw[cM hk,uD,iT]
  by_cases e:k<vals.length
  ·rw[QH (by simpa using e)];simp
  ·rw[Array.getElem?_append_right (by simpa using e),nI (by omega)];simp only[Mj,QM];rw[cM (by omega)];rfl
def TW{c:Rc}:∀{ps:List dX}{i:Nat}{x:oS ps}{a:List Value},qE c hds i ps x a->a.length=ps.length
 |[],_,_,_,h=>by simp[qE] at h;simp[h]
 |_::_,_,_,[],h=>h.elim
 |p::ps,i,x,v::a,h=>by simp[TW h.2]
end
end
section
structure Claim where
 q:Rt
 pre:dv
 n:Nat
 pre2:dv
 K:dv->Prop
open Classical in
noncomputable def xk:List Claim->Rt->dv->G
 |[],_,_=>.fr
 |c::cs,q,p=>if q=c.q then(if c.pre<+:p then(if c.K (p.drop c.pre.length) then .at (.cE c.n) (c.pre2++p.drop c.pre.length) else .im) else .fr) else xk cs q p
def M2{c:Claim}{π:dv}:∀{cs:List Claim},cs.Pairwise (λa b=>a.q≠b.q)->c∈cs->(c.K π->xk cs c.q (c.pre++π)=.at (.cE c.n) (c.pre2++π))/\(¬ c.K π->xk cs c.q (c.pre++π)=.im)
 |[],_,h=>by simp at h
 |c0::cs,y,h=>by
  rcases eG.1 h with rfl|h
  ·have j:List.drop c.pre.length (c.pre++π)=π:=ZC;simp only[xk,gE,s5];rw[j];exact⟨λu=>by rw[cM u],λu=>by rw[cN u]⟩
  ·have x:=(AB.1 y).1 c h;simp only[xk];rw[cN (λe=>x e.symm)];exact M2 (AB.1 y).2 h
def sR:fC->dv->Prop|.val q=>oT q|.nb t m=>sQ (.st t m)
def mJ(s:TS)(r:fC)(v:ResultVar)(n:Nat)(e:dv):List Claim:=
 match v with
 |.tmp k=>
  match s.cD k with
  |.vw (.cD j) _=>
   match s.cD j with
   |.own ..=>[⟨.cD j,[],n,e,sR r⟩]
   |_=>[]
  |.own ..=>[⟨.cD k,[],n,e,sR r⟩]
  |.agg _=>[⟨.cD k,[],n,e,sR r⟩]
  |.ptr j _=>[⟨.box j,[],n,e,sR r⟩]
  |_=>[]
 |.cell a _=>
  match s.cD a with
  |.ptr j _=>[⟨.box j,(match s.box j with|.cells [_]=>[(0,0)]|_=>[]),n,e,sR r⟩]
  |_=>[]
def code:Rt->Nat|.cD k=>2*k|.box k=>2*k+1|.cE _=>0
def SF(s:TS)(r:fC)(v:ResultVar)(n:Nat)(e:dv):(mJ s r v n e).map (λc=>code c.q)=PS s v/\∀c∈mJ s r v n e,c.n=n:=by
 unfold mJ PS;cases v with
 |tmp k=>
  simp only[];cases u:s.cD k with
  |vw p t=>
   cases p with
   |cD j=>
    simp only[];cases s.cD j<;>first|exact⟨rfl,by simp⟩|exact⟨rfl,by simp⟩
   |_=>exact⟨rfl,by simp⟩
  |_=>first|exact⟨rfl,by simp⟩|exact⟨rfl,by simp⟩
 |cell a t=>
  simp only[];cases s.cD a<;>exact⟨rfl,by simp⟩
def vD(nt i:Nat):dX->List Claim|.pb t _ a=>[⟨.box (nt+i),[],i,[],sQ (.st t a)⟩]|.bd=>[⟨.box (nt+i),[],i,[],λ_=>True⟩]|.pr _=>[⟨.cD (nt+i),[],i,[],λ_=>True⟩]|.mu _=>[⟨.cD (nt+i),[],i,[],λ_=>True⟩]|_=>[]
def zY(s:TS)(n:Nat)(one:Bool):Nat->List fC->List ResultVar->List Claim
 |j,r::a,v::e=>mJ s r v n (if one then[] else[(0,j)])++zY s n one (j+1) a e
 |_,_,_=>[]
def tT(nt:Nat):Nat->List dX->List Claim|_,[]=>[]|i,p::ps=>vD nt i p++tT nt (i+1) ps
def R1(s:TS)(n:Nat)(one:Bool):∀(j:Nat)(e:List fC)(a:List ResultVar),e.length=a.length->(zY s n one j e a).map (λc=>code c.q)=Ge s a
 |j,[],[],_=>rfl
 |j,[],_::_,h=>by simp at h
 |j,_::_,[],h=>by simp at h
 |j,r::e,v::a,h=>by
  simp only[zY,Ge,nq];rw[(SF _ _ _ _ _).1,R1 s n one (j+1) e a (by simpa using h)]
def Nq{nt:Nat}{c:Claim}:∀{ps:List dX}{i:Nat},c∈tT nt i ps->∃j,i<=j/\(c.q=.cD (nt+j)\/c.q=.box (nt+j))
 |[],_,h=>by simp[tT] at h
 |p::ps,i,h=>by
  simp only[tT,eJ] at h;rcases h with h|h
  ·cases p<;>simp[vD] at h<;>subst h<;>exact⟨i,iN _,by simp⟩
  ·obtain⟨j,e,a⟩:=Nq h;exact⟨j,by omega,a⟩
def TX{nt:Nat}:∀(ps:List dX)(i:Nat),(tT nt i ps).Pairwise (λa b=>a.q≠b.q)
 |[],_=>List.Pairwise.nil
 |p::ps,i=>by
  simp only[tT];refine AD.2 ⟨by cases p<;>simp[vD],TX ps (i+1),λa u b x=>?_⟩;obtain⟨j,y,e⟩:=Nq x;cases p<;>simp[vD] at u<;>subst u<;>rcases e with e|e<;>rw[e]<;>simp<;>omega
def Rx:∀{l:List Nat}{m:Nat},Gf m l=true->l.Pairwise (·≠·)/\∀k∈l,k<m
 |[],_,_=>⟨List.Pairwise.nil,by simp⟩
 |k::r,m,h=>by
  simp only[Gf] at h;cases a:fZ k r with
  |true=>rw[a] at h;simp at h
  |false=>
   rw[a,cR] at h;cases j:Nat.blt k m with
   |false=>rw[j] at h;simp at h
   |true=>
    rw[j,cP] at h;obtain⟨u,y⟩:=Rx h;have A:k<m:=by simpa[s6] using j
    refine⟨AB.2 ⟨λx hx e=>?_,u⟩,λx hx=>?_⟩
    ·subst e;rw[kf.2 hx] at a;cases a
    ·rcases eG.1 hx with rfl|hx
     ·exact A
     ·exact y x hx
def KN(s:TS)(nt n:Nat)(a:List fC)(e:List ResultVar)(ps:List dX):List Claim:=zY s n (a.length==1) 0 a e++tT nt 0 ps
def abB{s:TS}{nt n:Nat}{u:List fC}{x:List ResultVar}{ps:List dX}(E:u.length=x.length)(h:Gf (2*nt) (Ge s x)=true):(KN s nt n u x ps).Pairwise (λa b=>a.q≠b.q):=by
 obtain⟨A,D⟩:=Rx h;rw[<-R1 s n (u.length==1) 0 u x E] at A D;refine AD.2 ⟨?_,TX ps 0,λa F b H e=>?_⟩
 ·rw[List.pairwise_map] at A;exact A.imp λI e=>I (by rw[e])
 ·have:=D (code a.q) (ik.2 ⟨a,F,rfl⟩);obtain⟨j,_,y⟩:=Nq H;rw[e] at this;rcases y with y|y<;>rw[y] at this<;>simp only[code] at this<;>omega
open Classical in
noncomputable def oN(γ:Nat->G)(e:Nat)(a:Nat->G)(cs:List Claim):Nat->G:=λb=>
 let t:=match a b with|.at q p=>xk cs q p|x=>x
 match γ b with
 |.im=>.im
 |.at (.cE _) _=>t
 |.at q p=>.at q p
 |.fr=>if b<e then .fr else t
section
variable{C:Cx}{g':Gs}{w w':World}{γ:Nat->G}{ps:List dX}{nt:Nat}{cs:List Claim}
def Vt(j:xZ ⟨w.heap.size,oM ps nt γ,w⟩ g'.γ w')(D:∀b,w.heap.size<=b->γ b=.fr)(b:Nat)(A:g'.γ b≠.fr):
  (γ b=.im/\g'.γ b=.im)\/oN γ w.heap.size g'.γ cs b=(match g'.γ b with|.at q p=>xk cs q p|x=>x):=by
 have e:∀x,γ b=x->x≠.fr->b<w.heap.size:=λx hx u=>DN λy=>u (by rw[<-hx];exact D b y);cases a:γ b with
 |im=>exact .inl ⟨rfl,(j.im b (e _ a (by simp)) (F1 a)).1⟩
 |fr=>
  right
  simp only[oN,a]
  by_cases h:b<w.heap.size
  ·exact absurd (j.fr b h (OU a)).1 A
  ·rw[cN h]
 |_=>
  rename_i q p;cases q with
  |cE n=>right;simp only[oN,a]
  |_=>exact absurd (j.fr b (e _ a (by simp)) (N6 a (by simp))).1 A
def aeE(j:xZ ⟨w.heap.size,oM ps nt γ,w⟩ g'.γ w')(u:∀b,w.heap.size<=b->γ b=.fr):j9 (Gs.rc C g' w') (ea (oN γ w.heap.size g'.γ cs) w'):=λb x=>by
 refine⟨?_,rfl⟩;have a:g'.γ b=.im:=x;rcases Vt (cs:=cs) j u b (by rw[a];simp) with⟨e,_⟩|e
 ·show oN γ w.heap.size g'.γ cs b=.im;simp only[oN,e]
 ·show oN γ w.heap.size g'.γ cs b=.im;rw[e,a]
def aeF(E:xZ ⟨w.heap.size,oM ps nt γ,w⟩ g'.γ w')(F:∀b,w.heap.size<=b->γ b=.fr)(u:cs.Pairwise (λa b=>a.q≠b.q)){c:Claim}(D:c∈cs):
  Tn (Gs.rc C g' w') (ea (oN γ w.heap.size g'.γ cs) w') c.K c.q c.pre (.cE c.n) c.pre2:=by
 have x:∀b e,g'.γ b=.at c.q (c.pre++e)->oN γ w.heap.size g'.γ cs b=xk cs c.q (c.pre++e):=λb e j=>by
  rcases Vt (cs:=cs) E F b (by rw[j];simp) with⟨_,y⟩|y
  ·rw[j] at y;cases y
  ·rw[y,j]
 exact⟨λb e j A=>(x b e j).trans ((M2 u D).1 A),λb e j A=>(x b e j).trans ((M2 u D).2 A),λ_ _ _=>rfl⟩
def acY(e:xZ ⟨w.heap.size,oM ps nt γ,w⟩ g'.γ w')(A:∀b,w.heap.size<=b->γ b=.fr):dK (λq _=>∃n,q=.cE n) γ w (oN γ w.heap.size g'.γ cs) w':=by
 have j:∀b x,γ b=x->x≠.fr->b<w.heap.size:=λb x hx u=>DN λy=>u (by rw[<-hx];exact A b y);refine⟨λb a=>⟨by simp only[oN,a],(e.im b (j b _ a (by simp)) (F1 a)).2⟩,λb q p a hx=>?_,λb D a=>⟨by simp only[oN,a];rw[cM D],(e.fr b D (OU a)).2⟩,e.size,λb a=>?_,e.tape,e.os,e.output⟩
 ·cases q with
  |cE n=>exact absurd ⟨n,rfl⟩ hx
  |cD k=>exact⟨by simp only[oN,a],(e.fr b (j b _ a (by simp)) (N6 a (by simp))).2⟩
  |box k=>exact⟨by simp only[oN,a],(e.fr b (j b _ a (by simp)) (N6 a (by simp))).2⟩
 ·have E:=A b (Av e.size a);have F:=e.new b a;have I:=e.size;have H:¬ b<w.heap.size:=by
   have:w.heap.size<=w'.heap.size:=e.size
   omega
  simp only[oN,E,F];rw[cN H]
end
end
section
def CY{q:VS}{j:TV}{x:q.T}(e:q.dec j=some x):(∃u,j=.agg u)\/iz j=true:=by
 cases q with
 |el t m=>
  rcases Ci e with⟨u,rfl,_⟩|⟨y,e,_⟩
  ·exact .inl ⟨u,rfl⟩
  ·right
   obtain⟨H,A⟩:=(tr false e).get;cases t<;>simp[Ev.gJ] at y
   all_goals
    have D:=A 0 j _ rfl rfl;rcases D with rfl|⟨_,_,_,F⟩
    ·rfl
    ·simp[sc] at F
 |sl f t=>
  obtain⟨_,e⟩:=Fs e
  right
  rcases rT e with rfl|rfl|⟨d,rfl⟩|⟨rfl,_⟩|⟨rfl,_⟩<;>rfl
 |fS t=>have:=E0 e;subst this;exact .inr rfl
 |vec t=>have:=B8 e;subst this;exact .inr rfl
 |er=>rcases Cj e with rfl|⟨rfl,_⟩<;>exact .inr rfl
open Classical in
def KO{c D:Rc}{m F:Option Gp}{q:VS}{j:TV}{v:Value}{x:q.T}(M:j9 c D)(H:q.dec j=some x)(I:gB j=true)(h:Rd c m j v)(N:F.isSome=true):Rd D F (q.enc x) v:=by
 have y:iz j=true:=by
  rcases CY H with⟨S,rfl⟩|h
  ·simp[gB] at I
  ·exact h
 have Q:Rd {c with γ:=λb=>if c.γ b=.im then .im else .fr} none j v:=(h.anyM I none).stay y (λb e=>⟨by simp[e],rfl⟩) (λ_ _ h=>by simp at h);obtain⟨⟨U,Y⟩,rfl⟩:=ai4.1 N;have A:∀b r p,({c with γ:=λb=>if c.γ b=.im then .im else .fr}:Rc).γ b≠.at r p:=λb r p=>by
  simp only[];split<;>simp
 refine sj (c:={c with γ:=λb=>if c.γ b=.im then .im else .fr}) (r:=.cE 0) (p:=[]) (λb e=>?_) ⟨λb J e=>absurd e (A b _ _),λb J e=>absurd e (A b _ _),λb J e=>absurd e (A b _ _)⟩ H (Q.lift _);have u:(if c.γ b=.im then G.im else .fr)=.im:=e;split at u
 ·rename_i R;exact M b R
 ·cases u
def Dp(v:ResultVar)(e:Array Value):Sem Value:=
 match v with
 |.tmp t=>pure (e.getD t undef)
 |.cell a t=>do loadVar t (<-asAddr (e.getD a undef))
def Dq(nt:Nat):ResultVar->Bool|.tmp k=>Nat.blt k nt|.cell a _=>Nat.blt a nt
def Py(e:List (Nat×TI))(s:TS):ResultVar->Prop|.tmp _=>True|.cell a t=>∃k j,s.cD a=.ptr k j/\(lV e t).var=true/\((∃u,s.box k=.cells u/\(lV e t).sz=u.length/\((lV e t).ag=true/\u.length≠1\/(lV e t).ag=false/\u.length=1))\/∃x,∃y:List (El x),s.box k=.vec x y/\(lV e t).ag=true/\y.length=(lV e t).sz)
def IV{R:Type}{r:R}{D:List (Nat×TI)}{s:TS}:∀{rv:List ResultVar}{K:Option R},Dl D s rv K=some r->K=some r/\∀v∈rv,Py D s v
 |[],K,h=>⟨h,by simp⟩
 |.tmp k::rv,K,h=>by
  obtain⟨F,I⟩:=IV (rv:=rv) (K:=K) h;refine⟨F,λv A=>?_⟩;rcases eG.1 A with rfl|A
  ·trivial
  ·exact I v A
 |.cell a t::rv,K,h=>by
  simp only[Dl] at h;split at h
  ·rename_i k j S;split at h
   ·rename_i U M;obtain⟨x,F⟩:=dY.1 h;obtain⟨I,N⟩:=IV F;refine⟨I,λv A=>?_⟩;rcases eG.1 A with rfl|A
    ·rw[xb] at x;cases y:(lV D t).var with
     |false=>rw[y] at x;simp at x
     |true=>
      rw[y,cP] at x;cases H:Nat.beq (lV D t).sz U.length with
      |false=>rw[H] at x;simp at x
      |true=>
       rw[H,cP] at x;refine⟨k,j,S,y,.inl ⟨U,M,gU H,?_⟩⟩;cases J:(lV D t).ag with
       |true=>
        rw[J,cP] at x;refine .inl ⟨rfl,λe=>?_⟩;rw[e] at x;simp at x
       |false=>
        rw[J,cR] at x;exact .inr ⟨rfl,gU x⟩
    ·exact N v A
   ·rename_i Z Y M;obtain⟨x,F⟩:=dY.1 h;obtain⟨u,Q,F⟩:=fa.1 F;have Q:=mr.1 Q;obtain⟨I,N⟩:=IV F;refine⟨I,λv A=>?_⟩;rcases eG.1 A with rfl|A
    ·cases y:(lV D t).var with
     |false=>rw[y] at x;simp at x
     |true=>
      rw[y,cP] at x;refine⟨k,j,S,y,.inr ⟨Z,Y,M,x,?_⟩⟩;have h9:((Y.length:Nat):Int)=((lV D t).sz:Nat):=fG Q;omega
    ·exact N v A
   ·simp at h
  ·simp at h
section
variable{P:Program}{C:Cx}{E:Env}{s:TS}{g:Gs}{w:World}{nt:Nat}{a:Act}
def Qw(c:Rc)(n:Nat)(e:dv):(r:fC)->r.T->Value->Prop|.val q,x,u=>Rd c (some (.cE n,e)) (q.enc x) u|.nb t m,x,u=>e=[]->∃b,u=oG b/\tS c (.cE n) b (jz m (enc false t x))
def SG{b:Nat}{u:Array Value}{e:TypeId}{fr:Nat×Nat}(A:w.heap[b]?=some (.cells u e fr))(D:vA u.size fr):∀(j:Nat)v,u.toList[j]?=some v->eK w b (0+j)=some v:=λj v x=>by
 rw[l7] at x;show w.cell? ⟨b,0+j,none⟩=some v;have y:=(ZB.1 x).1;simp only[World.cell?,A,iB];have:=D j y;simp[this,x]
def aaK(e:Addr):(asAddr (.pointer (some e))).run P w=.ok e w:=by simp[asAddr,go_sem]
def aeG(hC:ga P C)(h:cQ C E s g w)(l:eE nt g a){c':Rc}{n:Nat}{pre2:dv}{r:fC}{v:ResultVar}{x:r.T}(hI:j9 (g.rc C w) c')(hT:∀cl∈mJ s r v n pre2,Tn (g.rc C w) c' cl.K cl.q cl.pre (.cE n) pre2)(hv:Dq nt v=true)(ai:Py C.ty s v)(y:Dk r (qy s v) s=some x):
  ∃u,(Dp v a.tmps).run P w=.ok u w/\Qw c' n pre2 r x u:=by
 cases v with
 |tmp k=>
  have hk:k<nt:=by simpa[Dq,s6] using hv
  refine⟨g.tm k,by simp only[Dp];rw[l.tm k hk];rfl,?_⟩;have I:=h.fQ k;cases r with
  |val q=>
   have y:q.dec (Ev.look s (s.cD k))=some x:=y;show Rd c' (some (.cE n,pre2)) (q.enc x) (g.tm k);cases D:s.cD k with
   |vw p t=>
    rw[D] at y I;cases p with
    |cD j=>
     simp only[Ev.look] at y;have ae:(g.rc C w).va (.cD j)=some (g.tm k):=by
      generalize g.tm k=u at I
      cases I with
      |vw _ _ _ _ _ ae=>exact ae
     obtain⟨_,af⟩:=OR ae;have N:=h.fQ j;rw[af] at N;cases R:s.cD j with
     |own d t' xs=>
      rw[R] at y N;have A:(⟨.cD j,[],n,pre2,oT q⟩:Claim)∈mJ s (.val q) (.tmp k) n pre2:=by simp only[mJ,D,R,sR,gf]
      exact sj hI (hT _ A) y N
     |eb t' xs=>
      rw[R] at y N;exact KO hI y rfl N rfl
     |_=>rw[R] at y;simp only[] at y;rcases CY y with⟨cs,J⟩|J<;>first|(cases J;done)|exact KO hI y rfl (.un (some (.cE 0,[])) _) rfl
    |_=>
     rcases CY y with⟨cs,J⟩|J
     ·simp[Ev.look] at J
     ·simp[Ev.look,iz,fO,dN] at J
   |own d t xs=>
    rw[D] at y I;have A:(⟨.cD k,[],n,pre2,oT q⟩:Claim)∈mJ s (.val q) (.tmp k) n pre2:=by simp only[mJ,D,sR,gf]
    exact sj hI (hT _ A) y I
   |agg cs=>
    rw[D] at y I;have A:(⟨.cD k,[],n,pre2,oT q⟩:Claim)∈mJ s (.val q) (.tmp k) n pre2:=by simp only[mJ,D,sR,gf]
    exact sj hI (hT _ A) y I
   |ko t xs r0 c0=>
    rw[D] at y;rcases CY y with⟨cs,J⟩|J<;>simp[Ev.look,iz,fO,dN] at J
   |fp cs=>
    rw[D] at y;rcases CY y with⟨cs,J⟩|J<;>simp[Ev.look,iz,fO,dN] at J
   |_=>rw[D] at y I;exact KO hI y rfl I rfl
  |nb t m=>
   intro hp;subst hp;have y:Dk (.nb t m) (Ev.look s (s.cD k)) s=some x:=y;cases D:s.cD k with
   |ptr j i=>
    rw[D] at y I;cases i with
    |succ i=>have:(none:Option (El t))=some x:=y;simp at this
    |zero=>
     have ap:qx (.st t m) (s.box j)=some x:=by
      have:(match s.box j with|.cells cs=>bif okF m cs then Ev.dec t cs else none|_=>none:Option (El t))=some x:=y
      cases S:s.box j with
      |cells cs=>rw[S] at this;exact this
      |_=>rw[S] at this;simp at this
     have A:(⟨.box j,[],n,[],sQ (.st t m)⟩:Claim)∈mJ s (.nb t m) (.tmp k) n []:=by simp only[mJ,D,sR,gf]
     refine⟨g.bx j,?_,Ka hI (hT _ A) ap (u3.1 (h.boxes j))⟩;generalize g.tm k=u at I;cases I;rfl
   |vw p t'=>
    rw[D] at y;cases p with
    |cD j=>
     simp only[Ev.look] at y;cases R:s.cD j<;>rw[R] at y<;>(have:(none:Option (El t))=some x:=y;simp at this)
    |_=>have:(none:Option (El t))=some x:=y;simp at this
   |_=>rw[D] at y;have:(none:Option (El t))=some x:=y;simp at this
 |cell Y U=>
  have hk:Y<nt:=by simpa[Dq,s6] using hv
  obtain⟨k,j,D,aj,aq⟩:=ai;have I:=h.fQ Y;rw[D] at I;have af:g.tm Y=.pointer (some ⟨g.bx k,j,none⟩):=by
   generalize g.tm Y=u at I
   cases I;rfl
  have N:j=0:=by
   cases j with
   |zero=>rfl
   |succ j=>
    exfalso
    have hr:qy s (.cell Y U)=.un:=by simp only[qy,D]
    rw[hr] at y
    cases r with
    |val q=>rcases CY (show q.dec .un=some x from y) with⟨cs,J⟩|J<;>first|(cases J;done)|skip
            cases q with
            |el t m=>
             rcases Ci (show(VS.el t m).dec .un=some x from y) with⟨cs,Z,_⟩|⟨M,y,_⟩
             ·cases Z
             ·cases t<;>simp[Ev.gJ,Ev.dec] at M y
            |sl f t=>obtain⟨_,Z⟩:=Fs (show(VS.sl f t).dec .un=some x from y);simp[fq] at Z
            |fS t=>have:=E0 (show(VS.fS t).dec .un=some x from y);cases this
            |vec t=>have:=B8 (show(VS.vec t).dec .un=some x from y);cases this
            |er=>rcases Cj (show VS.er.dec .un=some x from y) with Z|⟨Z,_⟩<;>cases Z
    |nb t m=>have:(none:Option (El t))=some x:=y;simp at this
  subst N;have aa:∀{vs:List Value},vs.length=(C.dj U).sz->(∀(j:Nat)v,vs[j]?=some v->eK w (g.bx k) (0+j)=some v)->(Dp (.cell Y U) a.tmps).run P w=.ok (if(C.dj U).ag=true then .agg vs.toArray else vs[0]?.getD undef) w:=λhl hc=>by
   simp only[Dp]
   rw[l.tm Y hk,af]
   have h1:=QE hC aj hl hc
   simp only[go_sem,aaK]
   exact h1
  have Q:=u3.1 (h.boxes k);rcases aq with⟨cs,S,ah,ak⟩|⟨t',xs,S,M,ah⟩
  ·rw[S] at Q;obtain⟨vs,e,fr,h1,h2,h3,h4,h5,h6⟩:=Q;refine⟨_,aa (vs:=vs.toList) (by simp only[DJ];rw[h4];exact ah.symm) (SG h1 h2),?_⟩;rcases ak with⟨M,F⟩|⟨M,F⟩
   ·have H:(C.dj U).ag=true:=M;rw[cM H];have ab:qy s (.cell Y U)=.agg cs:=by
     simp only[qy,D,S]
     match cs,F with
     |[c],F=>simp at F
     |[],_=>rfl
     |_::_::_,_=>rfl
    rw[ab] at y;cases r with
    |nb t m=>have:(none:Option (El t))=some x:=y;simp at this
    |val q=>
     have y:q.dec (.agg cs)=some x:=y;have au:∀tv∈cs,kF tv=true:=λtv av=>by
      cases q with
      |el t m=>
       rcases Ci y with⟨ay,he,_,_,y⟩|⟨_,_,hn⟩
       ·cases he;obtain⟨j,N⟩:=HF.1 av;obtain⟨hl,hc⟩:=(tr false y).get;have az:=(eT.1 N).1;have am:(enc false t x)[j]?=some ((enc false t x)[j]'(by omega)):=eN _;exact B7 (NX (hc j tv _ N am) (gj am))
       ·exact absurd rfl (hn cs)
      |sl f t=>obtain⟨_,Z⟩:=Fs y;simp[fq] at Z
      |fS t=>have:=E0 y;cases this
      |vec t=>have:=B8 y;cases this
      |er=>rcases Cj y with Z|⟨Z,_⟩<;>cases Z
     have aw:Rd (g.rc C w) (some (.box k,[])) (.agg cs) (.agg vs.toList.toArray):=by
      rw[Array.toArray_toList]
      exact .agg _ _ _ au h4 (λj tv v N hv=>(h6 j tv v N hv).1) (λj tv v N hv=>by simpa[lh] using(h6 j tv v N hv).2)
     have A:(⟨.box k,[],n,pre2,oT q⟩:Claim)∈mJ s (.val q) (.cell Y U) n pre2:=by
      simp only[mJ,D,S,sR,gf]
      congr 1
      match cs,F with
      |[c],F=>simp at F
      |[],_=>rfl
      |_::_::_,_=>rfl
     exact sj hI (hT _ A) y aw
   ·have H:¬ (C.dj U).ag=true:=by
      have:(C.dj U).ag=false:=M
      simp[this]
    rw[cN H]
    match cs,F,S,h4,h5,h6 with
    |[c],_,S,h4,h5,h6=>
     have an:vs[0]?=some (vs[0]'(by rw[h4];simp)):=jN _;have hu:vs.toList[0]?.getD undef=vs[0]'(by rw[h4];simp):=by rw[l7,an];rfl
     rw[hu];have ab:qy s (.cell Y U)=c:=by simp only[qy,D,S]
     rw[ab] at y;cases r with
     |nb t m=>
      have ax:=h5 c (by simp);cases c<;>first|(have:(none:Option (El t))=some x:=y;simp at this;done)|simp[jQ,fO,dN] at ax
     |val q=>
      have A:(⟨.box k,[(0,0)],n,pre2,oT q⟩:Claim)∈mJ s (.val q) (.cell Y U) n pre2:=by simp only[mJ,D,S,sR,gf]
      exact sj hI (hT _ A) y (h6 0 c _ rfl an).2
  ·rw[S] at Q;obtain⟨vs,e,fr,h1,h2,h3,ao,h4⟩:=Q;refine⟨_,aa (vs:=vs.toList) (by rw[h4,o8];exact ah) (SG h1 h2),?_⟩;have H:(C.dj U).ag=true:=M;rw[cM H,h4];have ab:qy s (.cell Y U)=.vec t' xs:=by simp only[qy,D,S]
   rw[ab] at y;cases r with
   |nb t m=>have:(none:Option (El t))=some x:=y;simp at this
   |val q=>exact KO hI (show q.dec (.vec t' xs)=some x from y) rfl (.vec (some (.cE 0,[])) _ _ ao) rfl
end
end
section
def An(c:Rc)(n:Nat)(one:Bool):Nat->(e:List fC)->j7 e->List Value->Prop
 |_,[],_,y=>y=[]
 |_,_::_,_,[]=>False
 |j,r::e,x,u::y=>Qw c n (if one then[] else[(0,j)]) r x.1 u/\An c n one (j+1) e x.2 y
section
variable{P:Program}{C:Cx}{E:Env}{s:TS}{g:Gs}{w:World}{nt:Nat}{a:Act}
def TY(hC:ga P C)(h:cQ C E s g w)(l:eE nt g a){c':Rc}{n:Nat}{one:Bool}(hI:j9 (g.rc C w) c'):∀(F:List fC)(D:List ResultVar)(j:Nat){x:j7 F},
  (∀y∈zY s n one j F D,Tn (g.rc C w) c' y.K y.q y.pre (.cE y.n) y.pre2)->(∀v∈D,Dq nt v=true)->(∀v∈D,Py C.ty s v)->pC F D s=some x->
  ∃N,(D.mapM λv=>Dp v a.tmps).run P w=.ok N w/\An c' n one j F x N
 |[],[],j,x,_,_,_,A=>⟨[],by simp[go_sem],rfl⟩
 |[],_::_,_,x,_,_,_,A=>by simp[pC] at A
 |_::_,[],_,x,_,_,_,A=>by simp[pC] at A
 |r::F,v::D,j,x,hT,hv,hf,A=>by
  have R:∃J I,Dk r (qy s v) s=some J/\pC F D s=some I/\x=(J,I):=by
   simp only[pC] at A
   cases M:Dk r (qy s v) s with
   |none=>rw[M] at A;simp at A
   |some J=>
    cases Q:pC F D s with
    |none=>rw[M,Q] at A;simp at A
    |some I=>rw[M,Q] at A;exact⟨J,I,rfl,rfl,(gV A).symm⟩
  obtain⟨J,I,M,Q,rfl⟩:=R;have S:=(SF s r v n (if one then[] else[(0,j)])).2;have U:∀y∈mJ s r v n (if one then[] else[(0,j)]),y.pre2=(if one then[] else[(0,j)]):=by
   intro y e
   unfold mJ at e
   cases v with
   |tmp k=>
    simp only[] at e
    split at e
    ·split at e
     ·simp only[gf] at e;subst e;rfl
     ·simp at e
    ·simp only[gf] at e;subst e;rfl
    ·simp only[gf] at e;subst e;rfl
    ·simp only[gf] at e;subst e;rfl
    ·simp at e
   |cell a t=>
    simp only[] at e;split at e
    ·simp only[gf] at e;subst e;rfl
    ·simp at e
  obtain⟨u,hu,hr⟩:=aeG hC h l (c':=c') (n:=n) (pre2:=if one then[] else[(0,j)]) hI (λy e=>by
   have:=hT y (by simp only[zY];exact eJ.2 (.inl e))
   rwa[S y e,U y e] at this) (hv v (by simp)) (hf v (by simp)) M;obtain⟨N,Y,Z⟩:=TY hC h l hI F D (j+1) (x:=I) (λy e=>hT y (by simp only[zY];exact eJ.2 (.inr e))) (λv H=>hv v (by simp[H])) (λv H=>hf v (by simp[H])) Q;refine⟨u::N,?_,hr,Z⟩;rw[List.mapM_cons];simp[go_sem,hu,Y]
def Vu{c:Rc}{n:Nat}{one:Bool}:∀{e:List fC}{j:Nat}{x:j7 e}{y:List Value},An c n one j e x y->y.length=e.length
 |[],_,_,_,h=>by simp[An] at h;simp[h]
 |_::_,_,_,[],h=>h.elim
 |r::e,j,x,u::y,h=>by simp[Vu h.2]
def TZ:∀{rs:List fC}{x:j7 rs}{c:Rc}{n j:Nat}{A:List Value},An c n false j rs x A->∀(i:Nat)e u,(gK rs x)[i]?=some e->A[i]?=some u->Rd c (some (.cE n,[(0,j+i)])) e u
 |[],_,_,_,_,_,_,i,e,u,h,_=>by simp[gK] at h
 |_::_,_,_,_,_,[],h,_,_,_,_,_=>h.elim
 |r::rs,x,c,n,j,H::A,h,i,e,u,y,D=>by
  cases i with
  |zero=>
   simp only[qS,di] at D;subst D;have F:=h.1;cases r with
   |val q=>
    simp only[gK,qS,di] at y;subst y;simpa[Qw] using F
   |nb t m=>
    simp only[gK,qS,di] at y;subst y;exact .un _ _
  |succ i=>
   have I:=TZ (rs:=rs) h.2 i e u (by cases r<;>simpa[gK] using y) (by simpa using D);rwa[show j+(i+1)=j+1+i by omega]
def N7:∀{rs:List fC}{x:j7 rs},(gK rs x).length=rs.length
 |[],_=>rfl
 |.val q::rs,x=>by simp[gK,N7 (rs:=rs)]
 |.nb t m::rs,x=>by simp[gK,N7 (rs:=rs)]
def aeH:∀(j:List fC)(x:j7 j)u,u∈gK j x->iz u=true:=by
 intro j;induction j with
 |nil=>intro x u e;simp[gK] at e
 |cons r j y=>
  intro x u e;cases r with
  |val q=>
   simp only[gK,eG] at e;rcases e with rfl|e
   ·exact(CK q x.1).1
   ·exact y _ _ e
  |nb t m=>
   simp only[gK,eG] at e;rcases e with rfl|e
   ·rfl
   ·exact y _ _ e
def aeI{c:Rc}{n:Nat}{e:List fC}{x:j7 e}{us:List Value}(h:An c n (e.length==1) 0 e x us):rA c n e x (if h:us.toArray.size=1 then us.toArray[0] else .tuple us.toArray):=by
 have y:=Vu h
 match e,x,us,h,y with
 |[],x,[],h,_=>exact .fp _ _ _ (by simp[gK]) rfl (by simp[gK])
 |[.val q],x,[u],h,_=>exact h.1
 |[.nb t m],x,[u],h,_=>exact h.1 rfl
 |r1::A::e,x,us,h,y=>
  have D:¬ us.toArray.size=1:=by simp at y⊢;omega
  rw[dif_neg D];have J:An c n false 0 (r1::A::e) x us:=h;have F:Rd c (some (.cE n,[])) (.fp (gK (r1::A::e) x)) (.tuple us.toArray):=by
   refine .fp _ _ _ (λH I=>aeH _ _ H I) (by simp[N7] at y⊢;exact y) (λj H v M N=>?_)
   have:=TZ J j H v M (by simpa using N)
   simpa[lh] using this
  cases r1<;>(cases A<;>exact F)
def Ua(h:cQ C E s g w){c':Rc}(hI:j9 (g.rc C w) c'){Q:Nat->Value}{vals:List Value}(R:∀i,g.tm (nt+i)=Q i)(S:∀i b,vals[i]?=some (oG b)->g.bx (nt+i)=b){ad:Nat->G}{w0:World}:
  ∀(A:List dX)(i:Nat){o:n8 A}{x:oS A}{u:List Value},(∀cl∈tT nt i A,Tn (g.rc C w) c' cl.K cl.q cl.pre (.cE cl.n) cl.pre2)->qE (ea ad w0) Q i A x u->(∀j,u[j]?=vals[i+j]?)->zT nt i A s=some o->Ae c' Q i A o u
 |[],i,o,x,u,_,_,_,_=>trivial
 |p::A,i,o,x,[],_,hp,_,_=>hp.elim
 |p::A,i,o,x,v::u,hT,hp,aa,U=>by
  have ae:∃o1 o2,Qh nt i p s=some o1/\zT nt (i+1) A s=some o2/\o=(o1,o2):=by
   simp only[zT] at U
   cases M:Qh nt i p s with
   |none=>rw[M] at U;simp at U
   |some o1=>
    cases h2:zT nt (Nat.succ i) A s with
    |none=>rw[M,h2] at U;simp at U
    |some o2=>rw[M,h2] at U;exact⟨o1,o2,rfl,rfl,(gV U).symm⟩
  obtain⟨o1,o2,M,h2,rfl⟩:=ae;have hv:vals[i]?=some v:=by simpa using(aa 0).symm
  refine⟨?_,Ua h hI R S A (i+1) (λcl Y=>hT cl (by simp only[tT];exact eJ.2 (.inr Y))) hp.2 (λj=>by have:=aa (j+1);simpa[o6,vY 1 j] using this) h2⟩;have J:∀cl∈vD nt i p,Tn (g.rc C w) c' cl.K cl.q cl.pre (.cE cl.n) cl.pre2:=λcl Y=>hT cl (by simp only[tT];exact eJ.2 (.inl Y));have ab:=hp.1;cases p with
  |val q=>trivial
  |rp t=>trivial
  |fn gg ts=>trivial
  |pb t m m'=>
   obtain⟨b,D,_⟩:=ab;have F:=S i b (by rw[hv,D]);have af:qx (.st t m') (s.box (nt+i))=some o1:=by
    have:(match s.box (nt+i) with|.cells cs=>bif okF m' cs then Ev.dec t cs else none|_=>none:Option (El t))=some o1:=M
    cases H:s.box (nt+i) with
    |cells cs=>rw[H] at this;exact this
    |_=>rw[H] at this;simp at this
   have I:=Ka hI (J ⟨.box (nt+i),[],i,[],sQ (.st t m')⟩ (by simp[vD])) af (u3.1 (h.boxes (nt+i)));refine⟨b,D,?_⟩;have e:(g.rc C w).bx (nt+i)=b:=F;rw[e] at I;exact I
  |bd=>
   obtain⟨b,D,_⟩:=ab;have F:=S i b (by rw[hv,D]);have N:=u3.1 (h.boxes (nt+i));have hs:s.box (nt+i)=.iL o1:=by
    have:(match s.box (nt+i) with|.iL x=>some x|_=>none:Option cq)=some o1:=M
    cases H:s.box (nt+i) with
    |iL y=>rw[H] at this;exact congrArg BC.iL (gV this)
    |_=>rw[H] at this;simp at this
   rw[hs] at N;have I:=Cm hI (J ⟨.box (nt+i),[],i,[],λ_=>True⟩ (by simp[vD])) N;refine⟨b,D,?_⟩;have e:(g.rc C w).bx (nt+i)=b:=F;rw[e] at I;exact I
  |pr t=>
   have hs:s.cD (nt+i)=.own true t o1:=by
    have:(match s.cD (nt+i) with|.own true Z xs=>if h:Z=t then some (j2 h xs) else none|_=>none:Option (List (El t)))=some o1:=M
    cases H:s.cD (nt+i) with
    |own d Z xs=>
     rw[H] at this
     cases d with
     |false=>simp at this
     |true=>
      simp only[] at this
      split at this
      ·rename_i ht;subst ht;exact congrArg (TV.own true Z) (gV this)
      ·simp at this
    |_=>rw[H] at this;simp at this
   have h0:=h.fQ (nt+i);rw[hs,R] at h0;exact h0.all rfl hI (J ⟨.cD (nt+i),[],i,[],λ_=>True⟩ (by simp[vD]))
  |mu t=>
   have hs:s.cD (nt+i)=.own true t o1:=by
    have:(match s.cD (nt+i) with|.own true Z xs=>if h:Z=t then some (j2 h xs) else none|_=>none:Option (List (El t)))=some o1:=M
    cases H:s.cD (nt+i) with
    |own d Z xs=>
     rw[H] at this
     cases d with
     |false=>simp at this
     |true=>
      simp only[] at this
      split at this
      ·rename_i ht;subst ht;exact congrArg (TV.own true Z) (gV this)
      ·simp at this
    |_=>rw[H] at this;simp at this
   have h0:=h.fQ (nt+i);rw[hs,R] at h0;exact h0.all rfl hI (J ⟨.cD (nt+i),[],i,[],λ_=>True⟩ (by simp[vD]))
def SH:∀{e:List fC}{j:List ResultVar}{x:j7 e},pC e j s=some x->e.length=j.length
 |[],[],_,_=>rfl
 |[],_::_,_,h=>by simp[pC] at h
 |_::_,[],_,h=>by simp[pC] at h
 |r::e,v::j,x,h=>by
  simp only[pC] at h;cases u:Dk r (qy s v) s with
  |none=>rw[u] at h;simp at h
  |some A=>
   cases y:pC e j s with
   |none=>rw[u,y] at h;simp at h
   |some D=>simp[SH y]
def agV(hm:P.follows .mixedOrders=true){f:Nat}{u:Func}{code:Code}(hf:P.funcs[f]?=some u)(hb:u.body=some code)(am:u.ntmps=nt)(Q:u.name≠ "runtime.NumGoroutine"){c:gN}(D:Ctx c.X)(hC:ga P D.c)(hF:re P D.c)(an:Gm P D.c nt)
  (Y:∀i,(∀p,¬ MV p (D.c.gl i))/\∀k,¬ MB k (D.c.gl i)){g0:j7 c.rs×n8 c.ps->c.X}(Z:D.Dg=Pp D.c.ty nt u.results.toList c.ps c.rs g0)(ao:∀y,c.back (g0 y)=y)(ap:lU P D.c nt code=true)(M:tF P D nt code)(aa:sC D.c nt 0 c.ps=true)
  (ab:c.ps.length<=nt)(aq:∀v∈u.results.toList,Dq nt v=true)(au:∀a y,c.f a=some y->Ha D nt code c.ps a=some y):Enters P f/\Gl P D.c.gl D.c.gb f c:=by
 refine⟨⟨u,hf,Q,by rw[hb];rfl⟩,λγ w vals hds x y hn av R hy=>?_⟩;have ad:vals.length<=nt:=by rw[TW R];exact ab
 have ae:=abz ad R hn av Y aa;have af:=abA (ps:=c.ps) (γ:=γ) (hds:=hds) ad;have ah:=au x y hy;unfold Ha at ah;refine calls_of_wp hf hb ?_;rw[am];have done:∀F N I H,D.Dg F=some y->cQ D.c ⟨w.heap.size,oM c.ps nt γ,w⟩ F N H->eE nt N I->jf nt (kj c.ps nt γ vals hds) N->
   I.defers=[]/\∃v,(results u I.tmps).run P H=.ok v H/\∃U A,Ending.returned v=.returned U/\dK (λq _=>∃n,q=.cE n) γ w A H/\rA (ea A H) c.ps.length c.rs (c.back y).1 U/\Ae (ea A H) hds 0 c.ps (c.back y).2 vals:=by
  intro F N I H j h l kp
  refine⟨l.df,?_⟩
  rw[Z] at j
  unfold Pp at j
  obtain⟨aw,j⟩:=dY.1 j
  obtain⟨j,ai⟩:=IV j
  cases hx:pC c.rs u.results.toList F with
  |none=>rw[hx] at j;simp at j
  |some xr=>
   cases ho:zT nt 0 c.ps F with
   |none=>rw[hx,ho] at j;simp at j
   |some ou=>
    rw[hx,ho] at j
    have ax:g0 (xr,ou)=y:=gV j
    have S:c.back y=(xr,ou):=by rw[<-ax];exact ao _
    rw[S]
    have ay:=abB (nt:=nt) (n:=c.ps.length) (ps:=c.ps) (SH hx) aw
    have aj:=aeE (C:=D.c) (cs:=KN F nt c.ps.length c.rs u.results.toList c.ps) h.cL hn
    have ak:=λ{cl:Claim}(J:cl∈KN F nt c.ps.length c.rs u.results.toList c.ps)=>aeF (C:=D.c) h.cL hn ay J
    obtain⟨us,az,aA⟩:=TY hC h l (n:=c.ps.length) (one:=c.rs.length==1) aj c.rs u.results.toList 0 (λcl J=>ak (eJ.2 (.inl J))) aq ai hx
    refine⟨_,?_,_,_,rfl,acY (cs:=KN F nt c.ps.length c.rs u.results.toList c.ps) h.cL hn,aeI aA,?_⟩
    ·have e:results u I.tmps=(do let vs<-u.results.mapM (λv=>Dp v I.tmps);pure (if h:vs.size=1 then vs[0] else .tuple vs)):=by
       unfold results
       congr 2
     rw[e,Array.mapM_eq_mapM_toList];simp[go_sem,az]
    ·exact Ua h aj (vals:=vals) (λi=>by rw[(kp (nt+i) (by omega)).1];exact F3) (λi b hv=>by rw[(kp (nt+i) (by omega)).2];exact Px hv) c.ps 0 (λcl J=>ak (eJ.2 (.inr J))) R (by simp) ho
 refine zW hm hC hF an code ah ap M ae af ⟨λF N I H j h l kp=>?_,λi F N I H j h l kp=>by simp at j,λF N I H j h l kp=>?_⟩
 ·obtain⟨h1,v,h2,U,A,he,h3⟩:=done F N I H j h l kp;exact⟨h1,v,h2,U,A,he,h3⟩
 ·obtain⟨h1,v,h2,U,A,he,h3⟩:=done F N I H j h l kp;exact⟨h1,v,h2,U,A,he,h3⟩
end
end
section
section
variable{P:Program}{C:Cx}{E:Env}{nt n:Nat}{o:Oper}{s u:TS}{g g1:Gs}{a:Act}{w A:World}{R:Type}{r:R}{K:TS->Option R}
def abC{k:Nat}{v:TV}(h:whole v=true):gB (nE C k v)=true:=by
 cases v<;>simp_all [whole,nE,gB]<;>cases C.vs k<;>rfl
def aal(hC:ga P C)(h:cQ C E s g w)(l:eE nt g a)(U:ij nt o.dst){x:Operand}(M:o.op=.assign x)(hx:fD nt x=true)
  (J:o.dst=none\/(∃d,o.dst=some d/\C.al d=true)\/((∀p t,dn C s x≠.vw p t)/\∀p t N hi,dn C s x≠.sl p t N hi))(F:Ev.step C o s K=some r):gW P C E nt o g a w K r (λ_=>False):=by
 have y:(∀d,o.dst=some d->C.al d=true)->gW P C E nt o g a w K r (λ_=>False):=λY=>
  (Sy h l U M hx hC.gl F).mono λq⟨_,d,e,H⟩=>by rw[Y d e] at H;cases H
 cases j:o.dst with
 |none=>exact y λd e=>by rw[j] at e;cases e
 |some d=>
  cases D:C.al d with
  |true=>exact y λZ e=>by rw[j] at e;cases e;exact D
  |false=>
   have J:(∀p t,dn C s x≠.vw p t)/\∀p t N hi,dn C s x≠.sl p t N hi:=by
    rcases J with e|⟨Z,e,H⟩|h3
    ·rw[j] at e;cases e
    ·rw[j] at e;cases e;rw[D] at H;cases H
    ·exact h3
   have I:(execOp a.eval o).run P w=.ok (.value (a.eval x)) w:=by simp[execOp,M]
   have Q:=iU h l hx;have S:=IN (s:=s) hC.gl (x:=x);simp only[Ev.step,M] at F;generalize dn C s x=v at*;clear y;cases v<;>simp only[j,D,cR,cv] at F<;>first
    |exact absurd rfl (J.1 _ _)
    |exact absurd rfl (J.2 _ _ _ _)
    |exact kx h l U Q rfl I (by rw[j];exact F)
    |(exfalso;rcases S with⟨_,e⟩|⟨_,e⟩|e<;>first|(simp at e;done)|(simp[gB] at e;done))
    |(simp at F;done)
    |skip
def aeJ(hC:ga P C)(h:cQ C E s g w)(l:eE nt g a)(Z:oA P C nt o=true)(F:oE C s o=true)(ad:nY s o=[])(I:Ev.step C o s K=some r):gW P C E nt o g a w K r (λ_=>False):=by
 obtain⟨M,hx⟩:=uN Z;have S:=Z;simp only[oA,dF] at S;have H:=S.2;simp only[oE] at F;cases D:o.op with
 |move x=>
  have N:=hx x (by simp[D,Op.operands]);rw[D] at F;have ae:iH s x=s->gB (dn C s x)=true->gW P C E nt o g a w K r (λ_=>False):=λe1 U=>by
   simp only[Ev.step,D,e1] at I
   exact kx h l M (iU h l N) U (by simp[execOp,D]) I
  cases x with
  |tmp k=>exact ae (R0 F) (abC F)
  |const v=>
   refine(J5 hC h l M D N I).mono λq⟨k,e,_⟩=>by cases e
  |global i=>exact(J5 hC h l M D N I).mono λq⟨k,e,_⟩=>by cases e
  |func i=>exact(J5 hC h l M D N I).mono λq⟨k,e,_⟩=>by cases e
 |assign x=>
  have N:=hx x (by simp[D,Op.operands]);refine aal hC h l M D N ?_ I;rw[D] at F;cases x with
  |tmp k=>
   simp only[] at F;cases aa:o.dst with
   |none=>exact .inl rfl
   |some d=>
    refine .inr ?_;cases ab:C.al d with
    |true=>exact .inl ⟨d,rfl,ab⟩
    |false=>
     refine .inr ?_;simp only[aa,ab] at F;simp only[dn];generalize s.cD k=v at F;cases v<;>first
      |(simp at F;done)
      |(exact⟨λp t=>by simp[nE],λp t lo hi=>by simp[nE]⟩)
  |const v=>
   refine .inr (.inr ⟨λp t e=>?_,λp t lo hi e=>?_⟩)
   ·obtain⟨k,U,_⟩:=vc (C:=C) (s:=s) (λi=>(h.ln i).1) (p:=p) (x:=.const v) (by rw[e];exact .vw _);cases U
   ·obtain⟨k,U,_⟩:=vc (C:=C) (s:=s) (λi=>(h.ln i).1) (p:=p) (x:=.const v) (by rw[e];exact .sl _ _ _);cases U
  |global i=>
   refine .inr (.inr ⟨λp t e=>?_,λp t lo hi e=>?_⟩)
   ·exact(h.ln i).1 p (by simp only[dn] at e;rw[e];exact .vw _)
   ·exact(h.ln i).1 p (by simp only[dn] at e;rw[e];exact .sl _ _ _)
  |func i=>exact .inr (.inr ⟨λp t e=>by simp[dn] at e,λp t lo hi e=>by simp[dn] at e⟩)
 |load t x=>exact U8 hC h l M D (hx x (by simp[D,Op.operands])) I
 |nilCheck x=>exact Rp h l M D (hx x (by simp[D,Op.operands])) I
 |binOp op t x y t'=>
  rw[D] at H;exact Tz hC h l M D (hx x (by simp[D,Op.operands])) (hx y (by simp[D,Op.operands])) H I
 |unOp op t x=>exact U6 h l M D (hx x (by simp[D,Op.operands])) I
 |makeInterface t x=>
  rw[D] at H;exact Q7 hC h l M D I (λhb=>by simp[hb] at H)
 |makeFunc f first af=>
  cases f with
  |func fi=>
   rw[D] at H;have hf:first=#[]:=by simpa using H
   exact Rq h l M D hf (λz hz=>hx z (by simp only[D,Op.operands,HD];exact eJ.2 (.inr hz))) I
  |_=>simp[Ev.step,D] at I
 |slice t x lo hi mx=>
  have hb:∀z:Option Operand,(∀y,z=some y->y∈o.op.operands.toList)->Dn nt z=true:=λz hz=>by
   cases z with
   |none=>rfl
   |some y=>exact hx y (hz y rfl)
  exact TC hC h l M D (hx x (by simp[D,Op.operands])) (hb lo λy hy=>by simp[D,Op.operands,hy]) (hb hi λy hy=>by simp[D,Op.operands,hy]) (hb mx λy hy=>by simp[D,Op.operands,hy]) I
 |fieldAddr t x j=>exact Re hC h l M D (hx x (by simp[D,Op.operands])) I
 |indexAddr t x i=>exact Rf hC h l M D (hx x (by simp[D,Op.operands])) (hx i (by simp[D,Op.operands])) I
 |index t x i=>exact TA hC h l M D (hx x (by simp[D,Op.operands])) (hx i (by simp[D,Op.operands])) I
 |extract x i=>
  rw[D] at F;cases x with
  |tmp k=>
   refine(RU h l M D (hx _ (by simp[D,Op.operands])) I).mono λq⟨_,vs,e1,U⟩=>?_;simp only[e1,U] at F;simp at F
  |_=>simp[Ev.step,D] at I
 |call c=>
  obtain⟨Q,args,Y⟩:=c;rw[D] at F;cases Q with
  |value f=>simp at F
  |invoke f m=>simp at F
  |builtin b=>
   rw[D] at H;have J:∀x∈args.toList,fD nt x=true:=λx N=>hx x (by simp[D,Op.operands,Call.operands];simpa using N);obtain⟨args⟩:=args;obtain⟨Y⟩:=Y;cases b with
   |len=>
    match args,Y,D,H,J with
    |[x],t::ts,D,H,J=>exact Wm hC h l M D (J x (by simp)) I
    |[],_,D,H,_=>simp at H
    |_::_::_,_,D,H,_=>simp at H
    |[_],[],D,H,_=>simp[Ev.step,D] at I
   |append=>simp only[ad,W5] at F;cases F
   |min=>
    match args,D,H,J with
    |[x,y],D,H,J=>exact Wk h l M D (J x (by simp)) (J y (by simp)) I
    |[],D,H,_=>simp at H
    |[_],D,H,_=>simp at H
    |_::_::_::_,D,H,_=>simp at H
   |max=>
    match args,D,H,J with
    |[x,y],D,H,J=>exact Wl h l M D (J x (by simp)) (J y (by simp)) I
    |[],D,H,_=>simp at H
    |[_],D,H,_=>simp at H
    |_::_::_::_,D,H,_=>simp at H
   |_=>simp at F
 |_=>rw[D] at F;simp at F
end
end
section
section
variable{α:Type}
def fj:Tr α->Nat->Bool
 |.lf,_=>false
 |.nd l _ r,n=>if n=0 then true else if n % 2=1 then fj l (n/2) else fj r (n/2-1)
def zI(v:α):∀(t:Tr α)(i:Nat),fj (t.set i v)=fj t
 |.lf,_=>rfl
 |.nd l x r,i=>by
  rw[EV];funext n;split
  ·rfl
  ·split
   ·simp only[fj,zI v l]
   ·simp only[fj,zI v r]
def xc(f:α->α):∀(t:Tr α),fj (t.map f)=fj t
 |.lf=>rfl
 |.nd l x r=>by
  funext n;simp only[Tr.map,fj,xc f l,xc f r]
def N8(z:α):∀(n i:Nat),i+1<2^n->fj (Tr.full z n) i=true
 |0,i,h=>by simp at h
 |n+1,i,h=>by
  simp only[Tr.full,fj];split
  ·rfl
  ·rw[uF] at h;split
   ·exact N8 z n _ (by omega)
   ·exact N8 z n _ (by omega)
def tG(z:α):∀(t:Tr α)(i:Nat),fj t i=false->t.get z i=z
 |.lf,_,_=>rfl
 |.nd l x r,i,h=>by
  rw[mW];simp only[fj] at h;split at h
  ·simp at h
  ·rename_i e;rw[cN e];split at h
   ·rename_i a;rw[cM a];exact tG z l _ h
   ·rename_i a;rw[cN a];exact tG z r _ h
def Et(z v:α):∀(t:Tr α)(i:Nat),fj t i=true->(t.set i v).get z i=v
 |.lf,_,h=>by simp[fj] at h
 |.nd l x r,i,h=>by
  simp only[fj] at h;rw[EV];split at h
  ·rename_i a;rw[cM a,mW,cM a]
  ·rename_i a;rw[cN a];split at h
   ·rename_i e;rw[cM e,mW,cN a,cM e];exact Et z v l _ h
   ·rename_i e;rw[cN e,mW,cN a,cN e];exact Et z v r _ h
def E2(f:Nat->α)(t:Tr α):∀(l:List Nat),fj (l.foldr (λk t=>t.set k (f k)) t)=fj t
 |[]=>rfl
 |k::l=>by simp only[HG];rw[zI,E2 f t l]
def zi(z:α)(f:Nat->α)(t:Tr α)(j:Nat):∀(l:List Nat),(l.foldr (λk t=>t.set k (f k)) t).get z j=if fZ j l=true/\fj t j=true then f j else t.get z j
 |[]=>by simp[fZ]
 |k::l=>by
  simp only[HG]
  by_cases a:k=j
  ·subst a
   by_cases e:fj t k=true
   ·rw[Et _ _ _ _ (by rw[E2];exact e),cM ⟨by simp[fZ],e⟩]
   ·rw[tG _ _ _ (by rw[zI,E2];simpa using e),cN (λh=>e h.2),tG _ _ _ (by simpa using e)]
  ·rw[wc _ _ _ _ _ a,zi z f t j l];have:fZ j (k::l)=fZ j l:=by
    simp only[fZ]
    cases u:Nat.beq j k with
    |true=>exact absurd (gU u).symm a
    |false=>rfl
   rw[this]
end
def kA(I O:TV->Bool):TV->TV
 |.agg a=>.agg (a.map λc=>if I c=true then .un else c)
 |v=>if O v=true then .un else v
def tU{I O:TV->Bool}{v:TV}(h:∀a,v≠.agg a):kA I O v=if O v=true then .un else v:=by
 cases v<;>first|rfl|exact absurd rfl (h _)
def xB(I O j u:TV->Bool)(v:TV):kA I O (kA j u v)=kA (λv=>I v||j v) (λv=>O v||u v) v:=by
 by_cases a:∃cs,v=.agg cs
 ·obtain⟨cs,rfl⟩:=a;simp only[kA,DO,TV.agg.injEq];refine yo λc _=>?_;simp only[QN]
  by_cases x:j c=true<;>simp[x]
 ·have a:∀cs,v≠.agg cs:=λcs e=>a ⟨cs,e⟩;rw[tU a,tU a];cases x:u v with
  |true=>simp only[gE,Bool.or_true];simp[kA]
  |false=>simp only[iS,iO,HH];exact tU a
def Co{I O a e:TV->Bool}(j:∀v,I v=a v)(u:∀v,O v=e v)(v:TV):kA I O v=kA a e v:=by
 rw[funext j,funext u]
def aeK(I O a e:TV->Bool)(v:TV):kA I O (kA a e v)=kA a e (kA I O v):=by
 rw[xB,xB];exact Co (λv=>Bool.or_comm _ _) (λv=>Bool.or_comm _ _) v
def Lf(I O:TV->Bool):kA I O .un=.un:=by simp[kA]
def Gr{I O:TV->Bool}{v:TV}(h:∀cs,v=.agg cs->∀c∈cs,I c=false)(j:(∀cs,v≠.agg cs)->O v=false):kA I O v=v:=by
 by_cases a:∃cs,v=.agg cs
 ·obtain⟨cs,rfl⟩:=a;simp only[kA,TV.agg.injEq]
  conv=>rhs;rw[<-QO cs]
  refine yo λc u=>?_;rw[h cs rfl c u];simp
 ·have a:∀cs,v≠.agg cs:=λcs e=>a ⟨cs,e⟩;rw[tU a,j a];simp
def kn:TV->Bool|.agg a=>Dv a|v=>xX v
def Vv:∀{u:List TV},Dv u=true->∀c∈u,c≠.un
 |[],_,c,a=>by simp at a
 |v::x,h,c,a=>by
  simp only[Dv] at h;cases j:xX v with
  |false=>rw[j] at h;simp at h
  |true=>
   rw[j,cP] at h;rcases eG.1 a with rfl|a
   ·intro e;subst e;simp[xX] at j
   ·exact Vv h c a
def Vw:∀{x:List TV},xY x=true->∀c∈x,kn c=true
 |[],_,c,j=>by simp at j
 |v::C,h,c,j=>by
  have u:kn v=true/\xY C=true:=by
   unfold xY at h
   split at h
   ·rename_i a;simp at a
   ·rename_i x y a;simp only[lN] at a;obtain⟨rfl,rfl⟩:=a;cases j:Dv x with
    |false=>rw[j] at h;simp at h
    |true=>rw[j] at h;exact⟨j,h⟩
   ·rename_i D y A a;simp only[lN] at a;obtain⟨rfl,rfl⟩:=a;have e:kn v=xX v:=by cases v<;>first|rfl|exact absurd rfl (A _)
    rw[e];cases j:xX v with
    |false=>rw[j] at h;simp at h
    |true=>rw[j] at h;exact⟨rfl,h⟩
  rcases eG.1 j with rfl|j
  ·exact u.1
  ·exact Vw u.2 c j
def agW{I O:TV->Bool}{v u:TV}(h:kA I O v=u)(j:kn u=true):v=u:=by
 by_cases a:∃cs,v=.agg cs
 ·obtain⟨cs,rfl⟩:=a;simp only[kA] at h;subst h;have:=Vv j
  congr 1
  conv=>lhs;rw[<-QO cs]
  refine yo λc y=>?_
  by_cases x:I c=true
  ·exact absurd rfl (this .un (ik.2 ⟨c,y,by simp[x]⟩))
  ·simp[x]
 ·have a:∀cs,v≠.agg cs:=λcs e=>a ⟨cs,e⟩;rw[tU a] at h;split at h
  ·subst h;simp[kn,xX] at j
  ·exact h
def fT(a:Pl->Bool):TV->Bool|.vw p _=>a p|.pa p _ _=>a p|.sl p _ _ _=>a p|.ep p _ _ _=>a p|_=>false
def nj(d:Nat):TV->Bool|.ptr k _=>Nat.beq k d|.pe k _=>Nat.beq k d|.fn _ a=>nS d a|_=>false
def lM(a:Pl->Bool):TV->Bool|.pa p _ _=>a p|_=>false
def OV{α:Type}(b:Bool)(x y:α):(bif b then x else y)=if b=true then x else y:=by cases b<;>rfl
def Ub(a:Pl->Bool)(v:TV):ky a v=if fT a v=true then .un else v:=by
 cases v<;>simp only[ky,fT,OV]<;>first|rfl|simp
def Kc(j:Pl->Bool)(v:TV):Ev.kill j v=kA (fT j) (fT j) v:=by
 by_cases a:∃cs,v=.agg cs
 ·obtain⟨cs,rfl⟩:=a;simp only[Ev.kill,kA,TV.agg.injEq];exact yo λc _=>Ub j c
 ·have a:∀cs,v≠.agg cs:=λcs e=>a ⟨cs,e⟩;rw[tU a,<-Ub];cases v<;>first|rfl|exact absurd rfl (a _)
def acZ(d:Nat)(v:TV):Ev.gr d v=kA (λ_=>false) (nj d) v:=by
 cases v<;>simp only[Ev.gr,kA,nj,OV]<;>first|rfl|simp
def Uc(a:Pl->Bool)(v:TV):Ev.q8 a v=kA (λ_=>false) (lM a) v:=by
 cases v<;>simp only[Ev.q8,kA,lM,OV]<;>first|rfl|simp
def kB(f w:Acc)(n:List Nat)(p:Pl):Bool:=pM f w p||p.iR ⟨[],n⟩
def mP(f w:Acc)(n:List Nat)(v:TV):Bool:=fT (kB f w n) v
def lp(f w:Acc)(n:List Nat)(a:List Pl)(v:TV):Bool:=fT (kB f w n) v||n.any (λd=>nj d v)||lM (sF a) v
def kl(f w:Acc)(n:List Nat)(a:List Pl):TV->TV:=kA (mP f w n) (lp f w n a)
def N9:∀(p:Pl)(d:Nat)(n:List Nat),p.iR ⟨[],d::n⟩=(p.ig d||p.iR ⟨[],n⟩)
 |.cD k,d,n=>by simp[Pl.iR,Pl.ig,fZ]
 |.cell k c,d,n=>by
  simp only[Pl.iR,Pl.ig,fZ];cases h:Nat.beq k d with
  |true=>have:=gU h;subst this;simp
  |false=>
   have:Nat.beq d k=false:=by
    cases a:Nat.beq d k with
    |false=>rfl
    |true=>have:=gU a;subst this;rw[h] at a;cases a
   rw[this];rfl
 |.sub p t r c,d,n=>by simp only[Pl.iR,Pl.ig];exact N9 p d n
def Vx:∀(p:Pl),p.iR ⟨[],[]⟩=false
 |.cD k=>rfl
 |.cell k c=>rfl
 |.sub p t r c=>by simp only[Pl.iR];exact Vx p
def Wy(a b:Pl->Bool)(v:TV):(fT a v||fT b v)=fT (λp=>a p||b p) v:=by cases v<;>rfl
def SI(f w:Acc):kB f w []=pM f w:=by
 funext p;simp only[kB,Vx,HH]
def R2(f w:Acc)(s:TS)(k:Nat):∀(n:List Nat),(rb f w n s).cD k=kA (mP f w n) (lp f w n []) (s.cD k)
 |[]=>by
  simp only[rb,List.foldr_nil];rw[qW,Kc];refine Co (λv=>?_) (λv=>?_) _
  ·simp only[mP,SI]
  ·have:lM (sF []) v=false:=by cases v<;>rfl
   simp only[lp,SI,HH,List.any_nil,this]
 |d::n=>by
  have a:=R2 f w s k n;simp only[rb,HG] at a⊢;rw[BO,a,Kc,acZ,xB,xB];refine Co (λv=>?_) (λv=>?_) _
  ·simp only[mP,ZE];rw[Wy];cases v<;>simp only[fT]<;>first|rfl|(simp only[kB,N9];cases Pl.ig d _<;>simp)
  ·have:lM (sF []) v=false:=by cases v<;>rfl
   simp only[lp,List.any_cons,this,HH];have e:fT (kB f w (d::n)) v=(fT (Pl.ig d) v||fT (kB f w n) v):=by
    rw[Wy]
    cases v<;>simp only[fT]<;>first|rfl|(simp only[kB,N9];cases Pl.ig d _<;>simp)
   rw[e];cases nj d v<;>cases fT (Pl.ig d) v<;>cases fT (kB f w n) v<;>cases n.any (λd=>nj d v)<;>rfl
def E3(f w:Acc)(s:TS):∀(n:List Nat),(rb f w n s).h=s.h
 |[]=>rfl
 |d::n=>by have:=E3 f w s n;simp only[rb,HG] at this⊢;exact this
def Ud(q:Pl)(a:List Pl)(v:TV):lM (sF (q::a)) v=(lM q.jD v||lM (sF a) v):=by
 cases v<;>simp only[lM]<;>first|rfl|(simp only[sF];cases Pl.jD q _<;>rfl)
def H4(s:TS)(k:Nat){f w:Acc}{n:List Nat}:∀(a:List Pl),(tM a (rb f w n s)).cD k=kl f w n a (s.cD k)
 |[]=>R2 f w s k n
 |p::a=>by
  have e:=H4 s k (f:=f) (w:=w) (n:=n) a;simp only[tM];rw[y9,e,Uc];simp only[kl];rw[xB];refine Co (λv=>rfl) (λv=>?_) _;simp only[lp,Ud];cases lM p.jD v<;>cases fT (kB f w n) v<;>cases n.any (λd=>nj d v)<;>simp
def Eu(s:TS):∀(a:List Pl),(tM a s).h=s.h
 |[]=>rfl
 |p::a=>by simp only[tM];exact Eu s a
def SJ{d:Nat}:∀{a:List TV},nS d a=true↔d∈a.flatMap nA
 |[]=>by simp[nS]
 |v::a=>by
  simp only[nS,List.flatMap_cons,eJ];have e:ptrTo d v=true↔d∈nA v:=by
   cases v<;>simp[ptrTo,nA]<;>exact eq_comm
  cases h:ptrTo d v with
  |true=>simp[e.1 h]
  |false=>
   rw[h] at e;simp only[cR];rw[SJ];constructor
   ·exact .inr
   ·rintro(h|h)
    ·exact absurd (e.2 h) (by simp)
    ·exact h
def R3{f w:Acc}{n:List Nat}{x:List Pl}{v:TV}(h:qp f w n x v=true):mP f w n v=false/\lp f w n x v=false:=by
 have y:∀p:Pl,(bif pM f w p then false else bif p.iR ⟨[],n⟩ then false else true)=true->kB f w n p=false:=λp h=>by
  simp only[kB]
  cases e:pM f w p<;>cases j:p.iR ⟨[],n⟩<;>simp[e,j] at h⊢
 have D:∀k,(bif fZ k n then false else true)=true->n.any (λd=>Nat.beq k d)=false:=λk h=>by
  cases u:fZ k n with
  |true=>rw[u] at h;simp at h
  |false=>
   rw[ZF]
   intro d A C
   have:=gU C
   subst this
   rw[kf.2 A] at u
   cases u
 cases v with
 |vw p t=>simp only[qp] at h;simp[mP,lp,fT,nj,lM,y p h]
 |pa p t H=>
  simp only[qp] at h;have e:kB f w n p=false:=y p (by
   cases e:pM f w p<;>cases j:p.iR ⟨[],n⟩<;>simp[e,j] at h⊢);have j:sF x p=false:=by
   cases e:pM f w p<;>cases j:p.iR ⟨[],n⟩<;>cases E:sF x p<;>simp[e,j,E] at h⊢
  simp[mP,lp,fT,nj,lM,e,j]
 |sl p t a b=>simp only[qp] at h;simp[mP,lp,fT,nj,lM,y p h]
 |ep p t a b=>simp only[qp] at h;simp[mP,lp,fT,nj,lM,y p h]
 |ptr k c=>simp only[qp] at h;have:=D k h;simp[mP,lp,fT,nj,lM] at this⊢;exact this
 |pe k c=>simp only[qp] at h;have:=D k h;simp[mP,lp,fT,nj,lM] at this⊢;exact this
 |fn g F=>
  simp only[qp] at h;refine⟨rfl,?_⟩;simp only[lp,fT,lM,ZE,HH];rw[ZF];intro d A C;have u:meets n (F.flatMap nA)=true:=by
   simp only[meets,List.any_eq_true]
   exact⟨d,A,d,SJ.1 (by simpa[nj] using C),by simp⟩
  rw[u] at h;simp at h
 |_=>simp[mP,lp,fT,nj,lM]
def SK{f w:Acc}{n:List Nat}{e:List Pl}:∀{j:List TV},GF f w n e j=true->∀v∈j,qp f w n e v=true
 |[],_,v,a=>by simp at a
 |u::j,h,v,a=>by
  simp only[GF] at h;cases x:qp f w n e u with
  |false=>rw[x] at h;simp at h
  |true=>
   rw[x,cP] at h;rcases eG.1 a with rfl|a
   ·exact x
   ·exact SK h v a
def Nr{f w:Acc}{n:List Nat}{y:List Pl}:∀{E:List TV},pA f w n y E=true->∀v∈E,kl f w n y v=v
 |[],_,v,A=>by simp at A
 |u::E,h,v,A=>by
  have C:kl f w n y u=u/\pA f w n y E=true:=by
   unfold pA at h
   split at h
   ·rename_i a;simp at a
   ·rename_i H F a;simp only[lN] at a;obtain⟨rfl,rfl⟩:=a;cases j:GF f w n y H with
    |false=>rw[j] at h;simp at h
    |true=>
     rw[j] at h;refine⟨Gr (λD e c I=>?_) (λx=>absurd rfl (x _)),h⟩;cases e;exact(R3 (SK j c I)).1
   ·rename_i J F x a;simp only[lN] at a;obtain⟨rfl,rfl⟩:=a;cases j:qp f w n y u with
    |false=>rw[j] at h;simp at h
    |true=>
     rw[j] at h;exact⟨Gr (λD e=>absurd e (x D)) (λ_=>(R3 j).2),h⟩
  rcases eG.1 A with rfl|A
  ·exact C.1
  ·exact Nr C.2 v A
abbrev FS:=(Nat->TV)×(Nat->BC)
def fs(s:TS):FS:=(s.cD,s.box)
structure Rec where
 W:Nat->Bool
 B:Nat->Bool
 kl:TV->TV
 o:Nat->TV
 ob:Nat->BC
def Rec.app(ρ:Rec)(S:FS):FS:=(λk=>if ρ.W k=true then ρ.o k else ρ.kl (S.1 k),λk=>if ρ.B k=true then ρ.ob k else S.2 k)
structure Comm(ρ σ:Rec):Prop where
 W:∀k,ρ.W k=true->σ.W k=true->False
 B:∀k,ρ.B k=true->σ.B k=true->False
 o:∀k,ρ.W k=true->σ.kl (ρ.o k)=ρ.o k
 o':∀k,σ.W k=true->ρ.kl (σ.o k)=σ.o k
 kl:∀v,ρ.kl (σ.kl v)=σ.kl (ρ.kl v)
def Comm.app{ρ j:Rec}(h:Comm ρ j)(S:FS):ρ.app (j.app S)=j.app (ρ.app S):=by
 refine DL (funext λk=>?_) (funext λk=>?_)
 ·simp only[Rec.app]
  by_cases a:ρ.W k=true<;>by_cases e:j.W k=true
  ·exact(h.W k a e).elim
  ·simp only[a,e,gE,iO,iS];exact(h.o k a).symm
  ·simp only[a,e,gE,iO,iS];exact h.o' k e
  ·simp only[a,e,iO,iS];exact h.kl _
 ·simp only[Rec.app]
  by_cases a:ρ.B k=true<;>by_cases e:j.B k=true
  ·exact(h.B k a e).elim
  ·simp only[a,e,gE,iO,iS]
  ·simp only[a,e,gE,iO,iS]
  ·simp only[a,e,iO,iS]
def run(a:Nat->Rec):Nat->(Nat->Bool)->FS->FS
 |0,_,S=>S
 |n+1,A,S=>if A n=true then(a n).app (run a n A S) else run a n A S
def wJ{a:Nat->Rec}{A A':Nat->Bool}{S:FS}:∀{n:Nat},(∀k,k<n->A k=A' k)->run a n A S=run a n A' S
 |0,_=>rfl
 |n+1,h=>by
  simp only[run];rw[h n (by omega),wJ (n:=n) λk e=>h k (by omega)]
def Oa{a:Nat->Rec}{A:Nat->Bool}{S:FS}{m:Nat}:∀{n:Nat},m<=n->(∀k,m<=k->k<n->A k=false)->run a n A S=run a m A S
 |0,h,_=>by rw[Nat.le_zero.1 h]
 |n+1,h,e=>by
  by_cases j:m=n+1
  ·rw[j]
  ·simp only[run];rw[e n (by omega) (by omega)];simp only[iS,iO];exact Oa (by omega) λk u x=>e k u (by omega)
def xQ(A:Nat->Bool)(i:Nat):Nat->Bool:=λk=>if k=i then true else A k
def OW{ρ:Nat->Rec}{A:Nat->Bool}{S:FS}{i:Nat}(u:A i=false):∀{n:Nat},i<n->(∀j,i<j->j<n->A j=true->Comm (ρ i) (ρ j))->(ρ i).app (run ρ n A S)=run ρ n (xQ A i) S
 |0,h,_=>by omega
 |n+1,h,x=>by
  by_cases y:n=i
  ·subst y;simp only[run];rw[u];simp only[iS,iO,xQ,gE]
   congr 1
   exact wJ λk F=>by simp only[xQ];rw[cN (by omega)]
  ·have C:=OW (ρ:=ρ) (S:=S) u (n:=n) (by omega) λj D H E=>x j D (by omega) E;simp only[run];have e:xQ A i n=A n:=by simp only[xQ];rw[cN y]
   rw[e]
   by_cases a:A n=true
   ·rw[cM a,cM a,(x n (by omega) (by omega) a).app,C]
   ·rw[cN a,cN a,C]
structure qN(R:Acc)(S T:FS):Prop where
 sl:∀k∈R.sl,S.1 k=T.1 k
 bx:∀k∈R.bx,S.2 k=T.2 k
structure ur(ρ:Rec)(R:Acc)(T:FS):Prop where
 sl:∀k∈R.sl,ρ.W k=true->False
 bx:∀k∈R.bx,ρ.B k=true->False
 kl:∀k∈R.sl,ρ.kl (T.1 k)=T.1 k
 kn:∀k∈R.sl,∀v,ρ.kl v=T.1 k->v=T.1 k
def ur.iff{ρ:Rec}{R:Acc}{T S:FS}(h:ur ρ R T):qN R (ρ.app S) T↔qN R S T:=by
 constructor
 ·intro k;refine⟨λj a=>?_,λj a=>?_⟩
  ·have:=k.sl j a;simp only[Rec.app] at this;rw[cN (λe=>h.sl j a e)] at this;exact h.kn j a _ this
  ·have:=k.bx j a;simp only[Rec.app] at this;rwa[cN (λe=>h.bx j a e)] at this
 ·intro k;refine⟨λj a=>?_,λj a=>?_⟩
  ·simp only[Rec.app];rw[cN (λe=>h.sl j a e),k.sl j a,h.kl j a]
  ·simp only[Rec.app];rw[cN (λe=>h.bx j a e),k.bx j a]
def Ue{a:Nat->Rec}{A Q:Nat->Bool}{S T:FS}{R:Acc}{n:Nat}(F:∀k,Q k=true->A k=true)
  (H:∀k,k<n->A k=true->Q k=false->ur (a k) R T/\∀j,k<j->j<n->Q j=true->Comm (a k) (a j)):qN R (run a n A S) T↔qN R (run a n Q S) T:=by
 have C:∀m,m<=n->(qN R (run a n (λk=>Q k||(decide (k<m)&&A k)) S) T↔qN R (run a n Q S) T):=by
  intro m
  induction m with
  |zero=>
   intro _
   rw[wJ (A':=Q) λk _=>by simp]
  |succ m I=>
   intro U
   rw[<-I (by omega)]
   by_cases x:A m=true/\Q m=false
   ·obtain⟨J,M⟩:=H m (by omega) x.1 x.2;have e:run a n (λk=>Q k||(decide (k<m+1)&&A k)) S=(a m).app (run a n (λk=>Q k||(decide (k<m)&&A k)) S):=by
     rw[OW (by simp[x.2]) (by omega) (λj N D y=>M j N D (by
      simp only[yp,dF,dQ] at y
      rcases y with y|y
      ·exact y
      ·omega))]
     refine wJ λk _=>?_
     simp only[xQ]
     by_cases u:k=m
     ·subst u;rw[cM rfl];simp[x.1]
     ·rw[cN u];have:decide (k<m+1)=decide (k<m):=by
       apply HI.2
       simp only[dQ]
       omega
      rw[this]
    rw[e];exact J.iff
   ·rw[wJ (A':=λk=>Q k||(decide (k<m)&&A k))];intro k _
    by_cases u:k=m
    ·subst u;cases E:Q k with
     |true=>rfl
     |false=>
      cases P:A k with
      |true=>exact absurd ⟨P,E⟩ x
      |false=>simp
    ·have:decide (k<m+1)=decide (k<m):=by
       apply HI.2
       simp only[dQ]
       omega
     rw[this]
 have:=C n (iN n);rw[<-this,wJ (A':=λk=>Q k||(decide (k<n)&&A k))];intro k u;have:decide (k<n)=true:=by simpa using u
 rw[this];cases E:Q k with
 |true=>simp[F k E]
 |false=>simp
end
section
def pF(e j:Nat->Bool)(w f:Acc)(n:List Nat)(ps:List Pl)(out:TS):Rec:=⟨λk=>fZ k w.sl&&e k,λk=>fZ k w.bx&&j k,kl f w n ps,out.cD,out.box⟩
def Ns(f w:Acc)(s:TS):∀(n:List Nat),fj (rb f w n s).t=fj s.t
 |[]=>xc _ _
 |d::n=>by
  have:=Ns f w s n;simp only[rb,HG] at this⊢;rw[<-this];exact xc _ _
def M3(s:TS):∀(ps:List Pl),fj (tM ps s).t=fj s.t
 |[]=>rfl
 |p::ps=>by
  rw[<-M3 s ps];exact xc _ _
section
variable(w f:Acc)(n:List Nat)(ps:List Pl)(out s:TS)
def Wz:fj (j5 w f n ps out s).t=fj s.t:=by
 simp only[j5,merge];rw[E2,M3,Ns]
def WA:fj (j5 w f n ps out s).h=fj s.h:=by
 simp only[j5,merge];rw[E2,Eu,E3]
def F4:fs (j5 w f n ps out s)=(pF (fj s.t) (fj s.h) w f n ps out).app (fs s):=by
 refine DL (funext λk=>?_) (funext λk=>?_)
 ·simp only[fs,Rec.app,pF,TS.cD,j5,merge];rw[zi,M3,Ns];have:=H4 (f:=f) (w:=w) (n:=n) s k ps;simp only[TS.cD] at this;rw[this];simp only[dF]
 ·simp only[fs,Rec.app,pF,TS.box,j5,merge];rw[zi,Eu,E3];simp only[dF]
end
def afW{on:Pl->Bool}{v:TV}{p:Pl}(h:MV p v)(e:∀j,v≠.agg j):fT on v=on p:=by
 cases h<;>first|rfl|exact absurd rfl (e _)
section
variable{f w:Acc}{n:List Nat}{ps:List Pl}{v:TV}{p:Pl}{k:Nat}
def Xh(h:MV p (kl f w n ps v)):MV p v/\kB f w n p=false:=by
 by_cases j:∃cs,v=.agg cs
 ·obtain⟨cs,rfl⟩:=j;simp only[kl,kA] at h;cases h with
  |agg _ t y=>
   obtain⟨c,A,x⟩:=ik.1 y;split at x
   ·cases x
   ·rename_i u;subst x;exact⟨.agg _ _ A,by simpa[mP,fT] using u⟩
 ·have j:∀cs,v≠.agg cs:=λcs e=>j ⟨cs,e⟩;simp only[kl] at h;rw[tU j] at h;split at h
  ·cases h
  ·rename_i u;refine⟨h,?_⟩;have:=afW (on:=kB f w n) h j;rw[<-this];simp only[lp,yp,DM,qd] at u;exact u.1.1
def agX(h:MB k (kl f w n ps v)):MB k v/\k∉n:=by
 by_cases u:∃cs,v=.agg cs
 ·obtain⟨cs,rfl⟩:=u;simp only[kl,kA] at h;cases h
 ·have u:∀cs,v≠.agg cs:=λcs e=>u ⟨cs,e⟩;simp only[kl] at h;rw[tU u] at h;split at h
  ·cases h
  ·rename_i x;refine⟨h,λy=>?_⟩;simp only[lp,yp,DM,qd] at x;have:=ZF.1 x.1.2 k y;cases h with
   |ptr j=>simp[nj] at this
   |pe j=>simp[nj] at this
   |fn g cs j A=>
    simp only[nj,qd] at this;exact Nf this j A
def agY(h:MP p (kl f w n ps v)):MP p v:=by
 by_cases j:∃cs,v=.agg cs
 ·obtain⟨cs,rfl⟩:=j;simp only[kl,kA] at h;cases h
 ·have j:∀cs,v≠.agg cs:=λcs e=>j ⟨cs,e⟩;simp only[kl] at h;rw[tU j] at h;split at h
  ·cases h
  ·exact h
end
def Rd.kA{c:Rc}{m:Option Gp}{x:TV}{v:Value}(h:Rd c m x v)(I O:TV->Bool):Rd c m (Sd.kA I O x) v:=by
 by_cases u:∃cs,x=.agg cs
 ·obtain⟨cs,rfl⟩:=u;cases h with
  |agg _ _ vs F H J M=>
   refine .agg _ _ _ (λx A=>?_) (by simpa using H) (λj x v D u=>?_) (λj x v D u=>?_)
   ·simp only[ik] at A;obtain⟨a,y,rfl⟩:=A;split
    ·rfl
    ·exact F a y
   all_goals
    rw[iA] at D;cases y:cs[j]? with
    |none=>simp[y] at D
    |some a=>
     simp only[y,jx,di] at D;subst D
     first
      |exact J j a v y u
      |(split
        ·exact .un _ _
        ·exact M j a v y u)
 ·have u:∀cs,x≠.agg cs:=λcs e=>u ⟨cs,e⟩;rw[tU u];split
  ·exact .un _ _
  ·exact h
def zJ{a:Acc}:∀{p:Pl},p.iR a=true↔(∃k,(gp p).1=.cD k/\k∈a.sl)\/∃k,(gp p).1=.box k/\k∈a.bx
 |.cD k=>by simp[Pl.iR,gp,kf]
 |.cell k c=>by simp[Pl.iR,gp,kf]
 |.sub p t r c=>by simp only[Pl.iR,gp];exact zJ
def JD:∀(p:Pl),(∀k,(gp p).1=.cD k->k∈p.root.sl)/\∀k,(gp p).1=.box k->k∈p.root.bx
 |.cD k=>by simp[Pl.root,gp]
 |.cell k c=>by simp[Pl.root,gp]
 |.sub p t r c=>by simp only[Pl.root,gp];exact JD p
def abD{v:TV}{p:Pl}(h:MV p v)(e:∀j,v≠.agg j):K5 v=p.root:=by
 cases h<;>first|rfl|exact absurd rfl (e _)
def IW{p:Pl}{t:Ty}:∀{j:List TV},TV.vw p t∈j->(∀k∈p.root.sl,k∈(GD j).sl)/\∀k∈p.root.bx,k∈(GD j).bx
 |[],h=>by simp at h
 |c::j,h=>by
  simp only[GD,Acc.add];rcases eG.1 h with rfl|h
  ·exact⟨λk e=>eJ.2 (.inl e),λk e=>eJ.2 (.inl e)⟩
  ·exact⟨λk e=>eJ.2 (.inr ((IW h).1 k e)),λk e=>eJ.2 (.inr ((IW h).2 k e))⟩
def IX{v:TV}{p:Pl}(h:MV p v):(∀k,(gp p).1=.cD k->k∈(sA v).sl)/\∀k,(gp p).1=.box k->k∈(sA v).bx:=by
 by_cases j:∃cs,v=.agg cs
 ·obtain⟨cs,rfl⟩:=j;cases h with
  |agg _ t x=>
   simp only[sA];exact⟨λk u=>(IW x).1 k ((JD p).1 k u),λk u=>(IW x).2 k ((JD p).2 k u)⟩
 ·have j:∀cs,v≠.agg cs:=λcs e=>j ⟨cs,e⟩;have:sA v=K5 v:=by cases v<;>first|rfl|exact absurd rfl (j _)
  rw[this,abD h j];exact JD p
def IY{v:TV}:∀{j:List TV},v∈j->(∀k∈(sA v).sl,k∈(looks j).sl)/\∀k∈(sA v).bx,k∈(looks j).bx
 |[],h=>by simp at h
 |c::u,h=>by
  simp only[looks,Acc.add];rcases eG.1 h with rfl|h
  ·exact⟨λk e=>eJ.2 (.inl e),λk e=>eJ.2 (.inl e)⟩
  ·exact⟨λk e=>eJ.2 (.inr ((IY h).1 k e)),λk e=>eJ.2 (.inr ((IY h).2 k e))⟩
def Cp{nr:Bool}{s:TS}{k:Nat}:∀{u:List Operand},.tmp k∈u->k∈(ue nr s u).sl/\
  (nr=false->(∀j∈Lm (s.cD k),j∈(ue nr s u).bx)/\(∀j∈(sA (s.cD k)).sl,j∈(ue nr s u).sl)/\∀j∈(sA (s.cD k)).bx,j∈(ue nr s u).bx)
 |[],h=>by simp at h
 |x::u,h=>by
  rcases eG.1 h with rfl|h
  ·simp only[ue,Acc.add];refine⟨by simp,λD=>?_⟩;subst D;simp only[cR,eJ];exact⟨λj e=>.inl e,λj e=>.inr (.inl e),λj e=>.inr (.inl e)⟩
  ·obtain⟨y,A⟩:=Cp (nr:=nr) (s:=s) h;cases x with
   |tmp J=>
    simp only[ue,Acc.add,eJ];refine⟨.inr (.inr y),λD=>?_⟩;obtain⟨F,H,I⟩:=A D;exact⟨λj e=>.inr (.inr (F j e)),λj e=>.inr (.inr (H j e)),λj e=>.inr (.inr (I j e))⟩
   |const v=>exact⟨y,A⟩
   |global v=>exact⟨y,A⟩
   |func v=>exact⟨y,A⟩
def aeL(v:Value)(k:Nat):¬ MB k (xV v):=by
 have u:∀v,¬ MB k (qJ v):=λv h=>by unfold qJ at h;split at h<;>cases h
 by_cases x:∃j,v=.agg j
 ·obtain⟨j,rfl⟩:=x;intro h;simp only[xV] at h;cases h
 ·rw[Gg v λj e=>x ⟨j,e⟩];exact u v
structure vE(X:Rt->dv->Prop)(W F:Acc):Prop where
 sl:∀k p,X (.cD k) p->k∈W.sl
 bx:∀k p,X (.box k) p->k∈W.bx
 top:∀k,X (.box k) []->k∈F.bx
def vE.mono{X Y:Rt->dv->Prop}{W F:Acc}(h:vE X W F)(e:∀q p,Y q p->X q p):vE Y W F:=⟨λk p hx=>h.sl k p (e _ _ hx),λk p hx=>h.bx k p (e _ _ hx),λk hx=>h.top k (e _ _ hx)⟩
def ac0(W F:Acc):vE (XZ λ_=>False) W F:=⟨λk p hx=>by rcases hx.1 with h|⟨n,h⟩<;>simp at h,λk p hx=>by rcases hx.1 with h|⟨n,h⟩<;>simp at h,λk hx=>(hx.2 ⟨⟨k,rfl⟩,rfl⟩).elim⟩
section
variable{C:Cx}{s t:TS}{o:Oper}
def agZ{j:List Nat}{d:Option Nat}{a:Acc}:(∀k∈a.sl,k∈((Acc.mk (dH d) []).add ((Acc.mk [] j).add a)).sl)/\∀k∈a.bx,k∈((Acc.mk (dH d) []).add ((Acc.mk [] j).add a)).bx:=by
 simp only[Acc.add,eJ];exact⟨λk e=>.inr (.inr e),λk e=>.inr (.inr e)⟩
def ac1(N:∀i,(∀p,¬ MV p (C.gl i))/\∀k,¬ MB k (C.gl i))(hc:vm C s o=none)(D:oE C s o=false):vE (λq p=>XZ (oZ s o) q p\/Am C s o q p) (ic C s o) (mH C s o):=by
 have hW:ic C s o=(Acc.mk (dH o.dst) []).add (Ac C s o):=by simp only[ic,hc,D,cR]
 have Q:∀a:Acc,a=ue (vk C s o) s o.op.operands.toList->(∀k∈a.sl,k∈(ic C s o).sl)/\∀k∈a.bx,k∈(ic C s o).bx:=λa ha=>by
  rw[hW,Ac,ha]
  exact agZ
 obtain⟨R,s2⟩:=Q _ rfl;have S:∀x∈o.op.operands.toList,vk C s o=false->∀q,ed s x q->(∀k,q=.cD k->k∈(ic C s o).sl)/\∀k,q=.box k->k∈(ic C s o).bx:=λx hx I q y=>by
  obtain⟨k,rfl,y⟩:=y
  obtain⟨u,U⟩:=Cp (nr:=vk C s o) (s:=s) hx
  obtain⟨h3,h4,h5⟩:=U I
  rcases y with rfl|⟨p,D,rfl⟩
  ·exact⟨λj e=>by cases e;exact R _ u,λj e=>by cases e⟩
  ·exact⟨λj e=>R _ (h4 j ((IX D).1 j e)),λj e=>s2 _ (h5 j ((IX D).2 j e))⟩
 have hz:∀q,oZ s o q->(∀k,q=.cD k->k∈(ic C s o).sl)/\∀k,q=.box k->k∈(ic C s o).bx:=λq y=>by
  unfold oZ at y
  split at y
  ·rename_i x J;obtain⟨k,rfl,rfl⟩:=y;exact⟨λj e=>by cases e;exact R _ (Cp (by simp[J,Op.operands])).1,λj e=>by cases e⟩
  ·rename_i Y;have I:vk C s o=false:=by
    unfold vk
    split
    ·exact D
    ·rename_i Z;cases F:Ln o with
     |false=>rfl
     |true=>
      exfalso;unfold Ln at F;unfold oE at D;split at F
      ·rename_i x e;exact Y x e
      ·rename_i x e;exact Z x e
      all_goals first
       |(rename_i e;rw[e] at D;simp at D;done)
       |(simp at F;done)
   obtain⟨x,hx,y⟩:=y;exact S x hx I q y
 have H:∀q p,Am C s o q p->∃k,q=.box k/\k∈(ic C s o).bx/\k∈(mH C s o).bx:=λq p y=>by
  obtain⟨ty,ad,x,J,k,M,rfl,rfl⟩:=y
  have I:vk C s o=false:=by simp[vk,Ln,J]
  have A:k∈nA (dn C s ad):=by
   rcases M with⟨j,e⟩|⟨j,e⟩<;>rw[e]<;>simp[nA]
  refine⟨k,rfl,?_,?_⟩
  ·cases ad with
   |tmp j=>
    have e:nA (dn C s (.tmp j))=nA (s.cD j):=by
     simp only[dn]
     cases s.cD j<;>first|rfl|(simp only[nE];cases C.vs j<;>rfl)
    rw[e] at A;refine s2 _ (((Cp (nr:=vk C s o) (s:=s) (k:=j) (by simp[J,Op.operands])).2 I).1 k ?_);revert A;cases s.cD j<;>simp[nA,Lm]
   |const v=>
    exfalso;rcases M with⟨j,e⟩|⟨j,e⟩<;>exact absurd (show MB k (xV v) by simp only[dn] at e;rw[e];constructor) (aeL v k)
   |global i=>
    exfalso;rcases M with⟨j,e⟩|⟨j,e⟩<;>exact absurd (show MB k (C.gl i) by simp only[dn] at e;rw[e];constructor) ((N i).2 k)
   |func i=>exfalso;rcases M with⟨j,e⟩|⟨j,e⟩<;>simp[dn] at e
  ·simp only[mH,hc,J];exact A
 refine⟨λk p hx=>?_,λk p hx=>?_,λk hx=>?_⟩
 ·rcases hx with⟨u|⟨n,u⟩,_⟩|hx
  ·exact(hz _ u).1 k rfl
  ·cases u
  ·obtain⟨j,e,_⟩:=H _ _ hx;cases e
 ·rcases hx with⟨u|⟨n,u⟩,_⟩|hx
  ·exact(hz _ u).2 k rfl
  ·cases u
  ·obtain⟨j,e,u,_⟩:=H _ _ hx;cases e;exact u
 ·rcases hx with⟨_,U⟩|hx
  ·exact(U ⟨⟨k,rfl⟩,rfl⟩).elim
  ·obtain⟨j,e,_,u⟩:=H _ _ hx;cases e;exact u
def abE{c:Call}{x:Operand}{f:Nat}{u:List TV}{q:gN}(ho:o.op=.call c)(J:c.callee=.value x)(Q:dn C s x=.fn f u)(hs:C.fn f (w9 (c.args.toList.map (dn C s)++u))=some q):
  vE (vq C s o) (ic C s o) (mH C s o):=by
 have hW:vm C s o=some ((bif q.ua then⟨[],[]⟩ else looks ((c.args.toList.map (dn C s))++u)).add ⟨[],mG q.ps ((c.args.toList.map (dn C s))++u)⟩,mG q.ps ((c.args.toList.map (dn C s))++u)):=by
  simp only[vm,ho,J,Q,hs]
 have sl:∀k∈(bif q.ua then(⟨[],[]⟩:Acc) else looks ((c.args.toList.map (dn C s))++u)).sl,k∈(ic C s o).sl:=λk D=>by
  simp only[ic,hW,Acc.add,eJ]
  exact .inr (.inl D)
 have aa:∀k,.tmp k∈c.args.toList->k∈(ic C s o).sl:=λk D=>by
  simp only[ic,hW,Acc.add,eJ]
  refine .inl (.inr (N4.2 ?_))
  simp only[ho,Op.operands,Call.operands,J,HD]
  exact eJ.2 (.inr D)
 have bx:∀k∈(bif q.ua then(⟨[],[]⟩:Acc) else looks ((c.args.toList.map (dn C s))++u)).bx,k∈(ic C s o).bx:=λk D=>by
  simp only[ic,hW,Acc.add,eJ]
  exact .inr (.inl D)
 have R:∀k∈mG q.ps ((c.args.toList.map (dn C s))++u),k∈(ic C s o).bx/\k∈(mH C s o).bx:=λk D=>by
  simp only[ic,mH,hW,Acc.add,eJ]
  exact⟨.inr (.inr D),D⟩
 have M:∀H Z,vq C s o H Z->(∃k,.tmp k∈c.args.toList/\H=.cD k/\¬ kW H Z)\/((((q.ua=false/\∃I∈(c.args.toList.map (dn C s)++u),∃F,MV F I/\(gp F).1=H)\/∃n,H=.cE n)/\¬ kW H Z)\/∃k,H=.box k/\k∈mG q.ps (c.args.toList.map (dn C s)++u)):=λH Z hx=>by
  obtain⟨c',x',f',ab,e1,e2,e3,hx⟩:=hx
  rw[ho] at e1
  cases e1
  rw[J] at e2
  cases e2
  rw[Q] at e3
  cases e3
  rcases hx with⟨⟨y,hy,k,rfl,rfl⟩,hb⟩|⟨q',S,hx⟩
  ·exact .inl ⟨k,hy,rfl,hb⟩
  ·rw[hs] at S;cases S;exact .inr hx
 have U:q.ua=false->∀I∈(c.args.toList.map (dn C s)++u),∀F,MV F I->(∀k,(gp F).1=.cD k->k∈(ic C s o).sl)/\∀k,(gp F).1=.box k->k∈(ic C s o).bx:=λY I A F N=>by
  rw[Y] at sl bx
  exact⟨λk D=>sl k ((IY A).1 k ((IX N).1 k D)),λk D=>bx k ((IY A).2 k ((IX N).2 k D))⟩
 refine⟨λk p hx=>?_,λk p hx=>?_,λk hx=>?_⟩
 ·rcases M _ _ hx with⟨j,hj,e,_⟩|⟨⟨Y,I,A,F,N,e⟩|⟨n,e⟩,_⟩|⟨j,e,_⟩
  ·cases e;exact aa _ hj
  ·exact(U Y I A F N).1 k e
  ·cases e
  ·cases e
 ·rcases M _ _ hx with⟨j,hj,e,_⟩|⟨⟨Y,I,A,F,N,e⟩|⟨n,e⟩,_⟩|⟨j,e,h1⟩
  ·cases e
  ·exact(U Y I A F N).2 k e
  ·cases e
  ·cases e;exact(R _ h1).1
 ·rcases M _ _ hx with⟨j,hj,e,_⟩|⟨_,hb⟩|⟨j,e,h1⟩
  ·cases e
  ·exact(hb ⟨⟨k,rfl⟩,rfl⟩).elim
  ·cases e;exact(R _ h1).2
end
section
variable{P:Program}{C:Cx}{E:Env}{nt:Nat}{o:Oper}{s s':TS}{g g':Gs}{a b:Act}{w w':World}
def abF(h:cQ C E s g w){X:Rt->dv->Prop}{nb:Nat->Prop}(y:Out C E nt X o.dst nb g w s' b w' g'){W F:Acc}{n:List Nat}{ps:List Pl}{M:Pl->Bool}(S:vE X W F)(hd:∀d,o.dst=some d->d∈W.sl/\d∈F.sl)(hn:∀k,nb k->k∈n/\k∈W.bx):
  cQ C E (j5 W F n ps (s'.kill M) s) g' w':=by
 have hT:=F4 W F n ps (s'.kill M) s;have sl:∀k,(j5 W F n ps (s'.kill M) s).cD k=if(fZ k W.sl&&fj s.t k)=true then Ev.kill M (s'.cD k) else kl F W n ps (s.cD k):=λk=>by
  have:=congrFun (congrArg Prod.fst hT) k
  simp only[fs,Rec.app,pF] at this
  rw[this,qW]
  rfl
 have bx:∀k,(j5 W F n ps (s'.kill M) s).box k=if(fZ k W.bx&&fj s.h k)=true then s'.box k else s.box k:=λk=>by
  have:=congrFun (congrArg Prod.snd hT) k
  simp only[fs,Rec.app,pF] at this
  rw[this,To]
  rfl
 generalize j5 W F n ps (s'.kill M) s=T at sl bx;have N:cQ C E (tM ps (rb F W n s)) g w:=h.uh (λk=>by rw[H4];exact(h.fQ k).kA _ _) (λk=>.inl (by simp only[TS.box];rw[Eu,E3]));have s1:∀k,(tM ps (rb F W n s)).cD k=kl F W n ps (s.cD k):=λk=>H4 s k ps;have b1:∀k,(tM ps (rb F W n s)).box k=s.box k:=λk=>by simp only[TS.box];rw[Eu,E3]
 refine N.nF y.gD (λk=>?_) (λk=>?_)
 ·rw[sl]
  by_cases A:k∈W.sl
  ·left
   rw[kf.2 A,nJ]
   by_cases x:fj s.t k=true
   ·rw[cM x];exact(y.rel.fQ k).kill M
   ·rw[cN x];have:s.cD k=.un:=tG _ _ _ (by simpa using x);rw[this];simp only[kl,Lf];exact .un _ _
  ·have Q:fZ k W.sl=false:=by
     cases h:fZ k W.sl with
     |false=>rfl
     |true=>exact absurd (kf.1 h) A
   rw[Q];simp only[yq,iS,iO]
   right
   refine⟨(s1 k).symm,y.tm k (λe=>A (hd k e).1),λp hx=>A (S.sl k p hx),?_⟩;rw[s1];have U:∀p,kB F W n p=false->p.iR F=false/\(p.jG=true->p.iR W=false)/\p.iR ⟨[],n⟩=false:=λp D=>by
    simp only[kB,Bool.or_eq_false_iff,pM] at D
    obtain⟨N,h2⟩:=D
    cases h3:p.iR F with
    |true=>rw[h3] at N;simp at N
    |false=>
     rw[h3,cR] at N
     refine⟨rfl,λhs=>?_,h2⟩
     rw[hs,cP] at N
     exact N
   have J:∀p,kB F W n p=false->p.jG=true->∀π,¬ X (gp p).1 π:=λp D hs π hx=>by
    have:=(U p D).2.1 hs
    have h3:p.iR W=true:=zJ.2 (by
     cases Y:(gp p).1 with
     |cD k=>rw[Y] at hx;exact .inl ⟨k,rfl,S.sl k π hx⟩
     |box k=>rw[Y] at hx;exact .inr ⟨k,rfl,S.bx k π hx⟩
     |cE m=>exact(jk p m Y).elim)
    rw[h3] at this
    cases this
   refine⟨λj R=>y.bx j (λZ=>(agX R).2 (hn j Z).1),λp D=>?_,λp D π=>?_⟩
   ·obtain⟨H,I⟩:=Xh D;obtain⟨o1,o2,o3⟩:=U p I;have aa:=(h.fQ k).tR H;have:=nv y.gD p aa (oq y.gD λq Y t hx=>by
     obtain⟨e1,e2⟩:=qe Y
     rw[e1] at hx
     exact J p I e2 _ hx) (λj R _=>y.tm j (λe=>by
      have:p.iR F=true:=zJ.2 (.inl ⟨j,wT.1 R,(hd j e).2⟩)
      rw[o1] at this;cases this)) (λj R=>⟨y.bx j (λZ=>by
      have:p.iR ⟨[],n⟩=true:=zJ.2 (.inr ⟨j,zo.1 R,(hn j Z).1⟩)
      rw[o3] at this;cases this),λhx=>by
      have:p.iR F=true:=zJ.2 (.inr ⟨j,zo.1 R,S.top j hx⟩)
      rw[o1] at this;cases this⟩);exact⟨this.1,λ_=>this.2⟩
   ·have H:=agY D;have I:=(Xh D.mv).2;refine J p I ?_ _;have hr:=h.fQ k;generalize s.cD k=z at H hr;generalize g.tm k=u at hr;cases H;cases hr;assumption
 ·rw[bx]
  by_cases A:k∈W.bx
  ·left
   rw[kf.2 A,nJ]
   by_cases x:fj s.h k=true
   ·rw[cM x];exact y.rel.boxes k
   ·rw[cN x];have:s.box k=.none:=tG _ _ _ (by simpa using x);rw[this];trivial
  ·right
   have Q:fZ k W.bx=false:=by
    cases h:fZ k W.bx with
    |false=>rfl
    |true=>exact absurd (kf.1 h) A
   rw[Q];simp only[yq,iS,iO];exact⟨(b1 k).symm,y.bx k (λZ=>A (hn k Z).2),λp hx=>A (S.bx k p hx)⟩
end
end
section
def M4{e:Type}{f f':Nat->e}{t:Tr e}:∀{l:List Nat},(∀k∈l,f k=f' k)->l.foldr (λk t=>t.set k (f k)) t=l.foldr (λk t=>t.set k (f' k)) t
 |[],_=>rfl
 |k::l,h=>by
  simp only[HG];rw[M4 (l:=l) λj u=>h j (by simp[u]),h k (by simp)]
section
variable{R:Acc}{s S:TS}
def Ry(h:qN R (fs S) (fs s)):nc R S=nc R s:=by
 simp only[nc];rw[M4 (f:=λk=>S.cD k) (f':=λk=>s.cD k) h.sl,M4 (f:=λk=>S.box k) (f':=λk=>s.box k) h.bx]
def R4(k:Nat):(nc R s).cD k=if fZ k R.sl=true/\fj ql k=true then s.cD k else .un:=by
 simp only[TS.cD,nc];rw[zi];simp only[ql,wo];rfl
def abG(k:Nat):(nc R s).box k=if fZ k R.bx=true/\fj sr k=true then s.box k else .none:=by
 simp only[TS.box,nc];rw[zi];simp only[sr,wo];rfl
def aaL:(∀k,(nc R s).cD k=s.cD k\/(nc R s).cD k=.un)/\∀k,(nc R s).box k=s.box k\/(nc R s).box k=.none:=by
 refine⟨λk=>?_,λk=>?_⟩
 ·rw[R4];split
  ·exact .inl rfl
  ·exact .inr rfl
 ·rw[abG];split
  ·exact .inl rfl
  ·exact .inr rfl
def ac2{k:Nat}(h:k∈R.sl)(e:k<2047):(nc R s).cD k=s.cD k:=by
 rw[R4,cM ⟨kf.2 h,N8 _ _ _ (by omega)⟩]
end
section
variable{C:Cx}{s t S:TS}{o:Oper}
def E4(j:∀k,t.cD k=S.cD k\/t.cD k=.un)(u:∀k,t.box k=S.box k\/t.box k=.none):∀(p:Pl){v:TV},gn C t p=some v->v≠.un->gn C S p=some v
 |.cD k,v,h,x=>by
  simp only[gn] at h⊢;split at h
  ·rename_i A;rw[cM A];simp only[di] at h;rcases j k with e|e
   ·rw[<-e,h]
   ·rw[e] at h;exact absurd h.symm x
  ·simp at h
 |.cell k c,v,h,x=>by
  simp only[gn] at h⊢;rcases u k with e|e
  ·rw[<-e];exact h
  ·rw[e] at h;simp at h
 |.sub p H i c,v,h,x=>by
  simp only[gn] at h⊢;split at h
  ·rename_i d D F y;rw[E4 j u p y (by simp)];exact h
  ·rename_i D F y;rw[E4 j u p y (by simp)];exact h
  ·simp at h
def abH{R:Type}{e:Ty}{y:TV}(j:eZ e=true)(K:Bool->List (El e)->TS->Option R):mF C e y s K=(mF C e y s λd u _=>some (d,u)).bind λx=>K x.1 x.2 s:=by
 cases y with
 |vw p t=>
  simp only[mF,j,cP,nQ]
  congr 1;funext v
  cases v<;>first|rfl|simp only[nN,Gk]
 |sl p t0 A D=>
  simp only[mF,j,cP,nQ]
  congr 1;funext v
  cases v<;>first|rfl|simp only[fw,fE,gk,nN,Gk]
 |s x=>simp only[mF];unfold castLT;split<;>rfl
 |_=>first|rfl|simp only[mF,nN,Gk]
def abI{e:Ty}{y:TV}(A:∀k,t.cD k=S.cD k\/t.cD k=.un)(D:∀k,t.box k=S.box k\/t.box k=.none)(F:eZ e=true){x:Bool×List (El e)}(h:(mF C e y t λd u _=>some (d,u))=some x):(mF C e y S λd u _=>some (d,u))=some x:=by
 cases y with
 |vw p H=>
  simp only[mF,F,cP,uZ] at h⊢;cases j:gn C t p with
  |none=>rw[j] at h;simp at h
  |some v=>
   rw[j,o4] at h;rw[E4 A D p j (λe=>by subst e;simp at h),o4];exact h
 |sl p t0 I J=>
  simp only[mF,F,cP,uZ] at h⊢;cases j:gn C t p with
  |none=>rw[j] at h;simp at h
  |some v=>
   rw[j,o4] at h;rw[E4 A D p j (λe=>by subst e;simp at h),o4];exact h
 |_=>exact h
def aeM{e:Ty}{u:Nat}{p:Pl}{H:Ty}{y:TV}{d:Option Nat}{s':TS}(N:∀k,t.cD k=S.cD k\/t.cD k=.un)(Q:∀k,t.box k=S.box k\/t.box k=.none)(I:p.jG=true)
  (h:(xW C e u (.vw p H) y t λv A=>some (eA C A d v))=some s'):
  ∃D,s'=eA C (t.gv p.jD) d (.pa p e D)/\(xW C e u (.vw p H) y S λv A=>some (eA C A d v))=some (eA C (S.gv p.jD) d (.pa p e D)):=by
 unfold xW at h⊢;cases F:eZ e with
 |false=>
  exfalso;have U:=Wt (C:=C) (s:=t) e y (λd Y s=>some (d,Y,s)) λx:Bool×List (El e)×TS=>(match(TV.vw p H) with
   |.vw p _=>j4 C x.2.2 p λv=>
    match v with
    |.own Z t' J=>castLT t' e J λJ=>ck (cZ u J x.2.1) λD=>
     bif p.jG then(bif eZ e then(λv A=>some (eA C A d v)) (.pa p e D) (x.2.2.gv p.jD) else none) else nf x.2.2 p λs'=>(λv A=>some (eA C A d v)) (.own (bif eZ e then true else bif x.1 then Z else false) e D) s'
    |_=>none
   |_=>none:Option TS);simp only[Gk,I,F,cP,cR] at U;simp only[I,F,cP,cR] at h;have h:=U.trans h;obtain⟨x,_,hx⟩:=Aw.1 h;rw[uZ] at hx;obtain⟨v,_,j⟩:=Aw.1 hx;split at j
  ·unfold castLT at j;split at j
   ·unfold ck at j;obtain⟨z,_,M⟩:=Aw.1 j;simp at M
   ·simp at j
  ·simp at j
 |true=>
  rw[abH F] at h⊢;obtain⟨⟨d0,Y⟩,hx,h⟩:=Aw.1 h;rw[abI N Q F hx,o4];simp only[I,F,cP,uZ] at h⊢;obtain⟨v,j,h⟩:=Aw.1 h;rw[E4 N Q p j (λe=>by subst e;simp at h),o4];split at h
  ·unfold castLT at h⊢;split at h
   ·rename_i hc;rw[Mh hc];unfold ck at h⊢;obtain⟨D,M,h⟩:=Aw.1 h;dsimp only;rw[M,o4];simp only[di] at h;exact⟨D,h.symm,rfl⟩
   ·simp at h
  ·simp at h
def ac3(h:∀k,.tmp k∈o.op.operands.toList->t.cD k=s.cD k):oZ t o=oZ s o/\Am C t o=Am C s o/\vq C t o=vq C s o/\oE C t o=oE C s o/\nY t o=nY s o:=by
 have I:∀x∈o.op.operands.toList,dn C t x=dn C s x:=λx hx=>Cn λk Z=>h k (Z ▸hx);have U:∀x∈o.op.operands.toList,ed t x=ed s x:=λx hx=>by
  funext q
  refine propext ⟨λ⟨k,e,j⟩=>⟨k,e,?_⟩,λ⟨k,e,j⟩=>⟨k,e,?_⟩⟩
  ·rw[<-h k (e ▸hx)];exact j
  ·rw[h k (e ▸hx)];exact j
 have h3:xP t o=xP s o:=by
  funext q
  refine propext ⟨λ⟨x,hx,j⟩=>⟨x,hx,by rw[<-U x hx];exact j⟩,λ⟨x,hx,j⟩=>⟨x,hx,by rw[U x hx];exact j⟩⟩
 have Y:nY t o=nY s o:=by
  unfold nY
  cases F:o.op with
  |call c=>
   simp only[]
   cases M:c.callee with
   |builtin b=>
    cases b with
    |append=>
     simp only[]
     cases ha:c.args.toList with
     |nil=>rfl
     |cons x xs=>
      cases x with
      |tmp k=>simp only[];rw[h k (by simp[F,Op.operands,Call.operands,M,ha])]
      |_=>rfl
    |_=>rfl
   |_=>rfl
  |_=>rfl
 refine⟨?_,?_,?_,?_,Y⟩
 ·unfold oZ;split
  ·rfl
  ·exact h3
 ·funext q p;refine propext ⟨λ⟨N,H,x,e,j⟩=>⟨N,H,x,e,?_⟩,λ⟨N,H,x,e,j⟩=>⟨N,H,x,e,?_⟩⟩
  ·rw[<-I H (by simp[e,Op.operands])];exact j
  ·rw[I H (by simp[e,Op.operands])];exact j
 ·funext q p;have J:∀c x,o.op=.call c->c.callee=.value x->dn C t x=dn C s x/\c.args.toList.map (dn C t)=c.args.toList.map (dn C s):=λc x u A=>by
   refine⟨I x (by simp[u,Op.operands,Call.operands,A]),yo λy hy=>I y ?_⟩
   simp only[u,Op.operands,Call.operands,A,HD]
   exact eJ.2 (.inr hy)
  refine propext ⟨λ⟨c,x,f,D,u,A,Q,j⟩=>⟨c,x,f,D,u,A,?_,?_⟩,λ⟨c,x,f,D,u,A,Q,j⟩=>⟨c,x,f,D,u,A,?_,?_⟩⟩
  ·rw[<-(J c x u A).1];exact Q
  ·rw[<-(J c x u A).2];exact j
  ·rw[(J c x u A).1];exact Q
  ·rw[(J c x u A).2];exact j
 ·unfold oE;rw[Y];cases F:o.op with
  |move x=>
   cases x with
   |tmp k=>simp only[];rw[h k (by simp[F,Op.operands])]
   |_=>rfl
  |assign x=>
   cases x with
   |tmp k=>simp only[];rw[h k (by simp[F,Op.operands])]
   |_=>rfl
  |extract x i=>
   cases x with
   |tmp k=>simp only[];rw[h k (by simp[F,Op.operands])]
   |_=>rfl
  |_=>rfl
end
section
variable{P:Program}{C:Cx}{E:Env}{nt:Nat}{o:Oper}{S st s':TS}{g:Gs}{a:Act}{w:World}
def M5(h:ra o=true):vm C S o=none:=by
 unfold ra at h;unfold vm;cases e:o.op with
 |call c=>
  rw[e] at h;simp only[] at h⊢;cases j:c.callee with
  |value x=>rw[j] at h;cases h
  |_=>rfl
 |_=>rfl
def ag0{d:Nat}(h:o.dst=some d):d∈(ic C S o).sl/\d∈(mH C S o).sl:=by
 constructor
 ·unfold ic;split
  ·simp[Acc.add,h,dH]
  ·cases oE C S o<;>simp[Acc.add,h,dH]
 ·unfold mH;split
  ·simp[h,dH]
  ·split<;>simp[h,dH]
def WB{k:Nat}(u:oE C S o=false)(h:k∈mI o):k∈(ic C S o).bx:=by
 unfold ic;split
 ·simp[Acc.add,dH,Fw h]
 ·rw[u,cR];simp only[Acc.add,Ac,eJ];refine .inr (.inl ?_);have j:=Fw h;unfold mI at h;split at h
  ·rename_i e;first|(rw[j];simp[dH];done)|(rw[e,j];simp[dH];done)
  ·rename_i e;first|(rw[j];simp[dH];done)|(rw[e,j];simp[dH];done)
  ·rename_i c e
   first|(rw[j];simp[dH];done)|(rw[e,j];simp[dH];done)
  ·simp at h
def aaM{c:Call}{x:Operand}{f:Nat}{F:List TV}(H:o.op=.call c)(u:c.callee=.value x)(A:dn C S x=.fn f F):vE (vq C S o) (ic C S o) (mH C S o):=by
 cases J:C.fn f (w9 (c.args.toList.map (dn C S)++F)) with
 |some q=>exact abE H u A J
 |none=>
  have M:vm C S o=none:=by simp only[vm,H,u,A,J]
  have N:oE C S o=false:=by simp only[oE,H,u]
  have D:∀Q Y,vq C S o Q Y->∃k,.tmp k∈c.args.toList/\Q=.cD k:=λQ Y hx=>by
   obtain⟨c',x',f',Z,e1,e2,e3,hx⟩:=hx
   rw[H] at e1
   cases e1
   rw[u] at e2
   cases e2
   rw[A] at e3
   cases e3
   rcases hx with⟨⟨y,hy,k,rfl,rfl⟩,hb⟩|⟨q',I,hx⟩
   ·exact⟨k,hy,rfl⟩
   ·rw[J] at I;cases I
  refine⟨λk p hx=>?_,λk p hx=>?_,λk hx=>?_⟩
  ·obtain⟨j,U,e⟩:=D _ _ hx;cases e;simp only[ic,M,N,cR,Acc.add,Ac,eJ];refine .inr (.inr (Cp ?_).1);simp only[H,Op.operands,Call.operands,u,HD];exact eJ.2 (.inr U)
  ·obtain⟨j,U,e⟩:=D _ _ hx;cases e
  ·obtain⟨j,U,e⟩:=D _ _ hx;cases e
def Pz{e:List Oper}{k:Nat}(h: .tmp k∈o.op.operands.toList):k∈(jJ C e st o).sl:=by
 simp only[jJ,Ac,Acc.add,eJ];exact .inr (.inr (Cp h).1)
def Out.PX{X:Rt->dv->Prop}{nb:Nat->Prop}{u:Act}{x:World}{g':Gs}(h:Out C E nt X o.dst nb g w s' u x g')(j:ij nt o.dst)(y:∀k,nb k->o.dst=some k):jf nt g g':=λk D=>by
 have:o.dst≠some k:=λe=>by rw[e] at j;exact absurd (show k<nt from j) (by omega)
 exact⟨h.tm k this,h.bx k λA=>this (y k A)⟩
def lF(C:Cx)(d:Option Nat):Pl->Bool:=match d with
 |some d=>if C.vs d=true then Pl.l6 d elseλ_=>false
 |none=>λ_=>false
def R5{d:Option Nat}{q:Pl}(h:lF C d q=true):∃k,d=some k/\q.l6 k=true:=by
 cases d with
 |none=>simp[lF] at h
 |some k=>
  simp only[lF] at h;split at h
  ·exact⟨k,rfl,h⟩
  ·simp at h
def PY{I O:TV->Bool}(e:∀v,I v=false)(j:∀v,O v=false)(v:TV):kA I O v=v:=Gr (λ_ _ c _=>e c) λ_=>j v
def B9(v:TV):fT (λ_=>false) v=false:=by cases v<;>rfl
def Ob(S:TS)(d:Option Nat)(v:TV):(∀k,d≠some k->(eA C S d v).cD k=kA (fT (lF C d)) (fT (lF C d)) (S.cD k))/\
  ∀k,d=some k->(eA C S d v).cD k=(if fj S.t k=true then kA (fT (lF C d)) (fT (lF C d)) v else .un):=by
 cases d with
 |none=>exact⟨λk _=>(PY B9 B9 _).symm,λk h=>by cases h⟩
 |some d=>
  simp only[eA,TS.put,lF];cases x:C.vs d with
  |true=>
   simp only[cP,gE];refine⟨λk u=>?_,λk u=>?_⟩
   ·rw[rN _ _ (λe=>u (by rw[e])),qW,Kc]
   ·cases u;split
    ·rename_i j;rw[<-Kc];exact Et _ _ _ _ (by simp only[TS.kill];rw[xc];exact j)
    ·rename_i j;exact tG _ _ _ (by simp only[TS.raw,TS.kill];rw[zI,xc];simpa using j)
  |false=>
   simp only[cR,iS,iO];refine⟨λk u=>?_,λk u=>?_⟩
   ·rw[rN _ _ (λe=>u (by rw[e])),PY B9 B9]
   ·cases u;rw[PY B9 B9];split
    ·rename_i j;exact Et _ _ _ _ j
    ·rename_i j;exact tG _ _ _ (by simp only[TS.raw];rw[zI];simpa using j)
def Vy(S:TS)(d:Option Nat)(v:TV)(k:Nat):(eA C S d v).box k=S.box k:=by
 cases d with
 |none=>rfl
 |some d=>simp only[eA,TS.put];cases C.vs d<;>rfl
def afX{t:TS}{p:Pl}{e:Ty}{x:List (El e)}{N:Gs}{w':World}{u:List Oper}(h:cQ C E (eA C (S.gv p.jD) o.dst (.pa p e x)) N w'):
  cQ C E (j5 ⟨dH o.dst,[]⟩ ⟨dH o.dst,[]⟩ [] [p] (pB C u o st (eA C (t.gv p.jD) o.dst (.pa p e x))) S) N w':=by
 have I:=F4 ⟨dH o.dst,[]⟩ ⟨dH o.dst,[]⟩ [] [p] (pB C u o st (eA C (t.gv p.jD) o.dst (.pa p e x))) S;refine h.uh (λk=>?_) (λk=>?_)
 ·have this:(j5 ⟨dH o.dst,[]⟩ ⟨dH o.dst,[]⟩ [] [p] (pB C u o st (eA C (t.gv p.jD) o.dst (.pa p e x))) S).cD k=if(fZ k (dH o.dst)&&fj S.t k)=true then(pB C u o st (eA C (t.gv p.jD) o.dst (.pa p e x))).cD k else kl ⟨dH o.dst,[]⟩ ⟨dH o.dst,[]⟩ [] [p] (S.cD k):=congrFun (congrArg Prod.fst I) k
  rw[this];clear this I;have D:=h.fQ k;obtain⟨Y,Z⟩:=Ob (C:=C) (S.gv p.jD) o.dst (.pa p e x)
  by_cases F:o.dst=some k
  ·rw[Z k F] at D;have e1:fj (S.gv p.jD).t k=fj S.t k:=congrFun (xc _ _) k;rw[e1] at D
   by_cases y:fj S.t k=true
   ·rw[cM y] at D;have J:fZ k (dH o.dst)=true:=kf.2 (by simp[F,dH]);rw[J,y,nJ,cM rfl];simp only[pB];rw[qW,(Ob (C:=C) (t.gv p.jD) o.dst (.pa p e x)).2 k F];split
    ·exact D.kill _
    ·exact .un _ _
   ·have Q:fj S.t k=false:=by simpa using y
    rw[Q,ZG,cN (by simp)];have:S.cD k=.un:=tG _ _ _ Q;rw[this];simp only[kl,Lf];exact .un _ _
  ·rw[Y k F,y9,Uc] at D;have J:fZ k (dH o.dst)=false:=by
    cases hm:fZ k (dH o.dst) with
    |false=>rfl
    |true=>
     have:=kf.1 hm
     cases H:o.dst with
     |none=>rw[H] at this;simp[dH] at this
     |some d=>rw[H] at this;simp[dH] at this;exact absurd (by rw[H,this]) F
   rw[J,yq,cN (by simp)];have j:=D.kA (mP ⟨dH o.dst,[]⟩ ⟨dH o.dst,[]⟩ []) (lp ⟨dH o.dst,[]⟩ ⟨dH o.dst,[]⟩ [] [p]);rw[xB,xB] at j;have U:∀v,fT (lF C o.dst) v=true->fT (kB ⟨dH o.dst,[]⟩ ⟨dH o.dst,[]⟩ []) v=true:=λv A=>by
    have one:∀q,lF C o.dst q=true->kB ⟨dH o.dst,[]⟩ ⟨dH o.dst,[]⟩ [] q=true:=λq hq=>by
     obtain⟨d,H,ho⟩:=R5 hq
     have:q.iR ⟨dH o.dst,[]⟩=true:=zJ.2 (.inl ⟨d,xa.1 ho,by simp[H,dH]⟩)
     simp only[kB,pM,this,cP,ZH]
    cases v<;>simp only[fT] at A⊢<;>first|exact one _ A|(cases A;done)
   have M:kA (λv=>mP ⟨dH o.dst,[]⟩ ⟨dH o.dst,[]⟩ [] v||(fT (lF C o.dst) v||false)) (λv=>lp ⟨dH o.dst,[]⟩ ⟨dH o.dst,[]⟩ [] [p] v||(fT (lF C o.dst) v||lM p.jD v)) (S.cD k)=kl ⟨dH o.dst,[]⟩ ⟨dH o.dst,[]⟩ [] [p] (S.cD k):=by
    refine Co (λv=>?_) (λv=>?_) _
    ·simp only[mP,HH];cases A:fT (lF C o.dst) v with
     |false=>simp
     |true=>rw[U v A];rfl
    ·simp only[lp,Ud];have:lM (sF []) v=false:=by cases v<;>rfl
     rw[this];cases A:fT (lF C o.dst) v with
     |false=>cases lM p.jD v<;>cases fT (kB ⟨dH o.dst,[]⟩ ⟨dH o.dst,[]⟩ []) v<;>rfl
     |true=>rw[U v A];rfl
   first
    |(rw[M] at j;exact j)
    |(rw[<-M];exact j)
    |(rw[<-M];simpa only[Bool.or_assoc] using j)
 ·left
  have:=congrFun (congrArg Prod.snd I) k;simp only[fs,Rec.app,pF] at this;rw[this,Vy];simp only[fZ,yq,iS,iO];rfl
def aeN(hC:ga P C)(hF:re P C)(aq:nt<2047)(h:cQ C E S g w)(l:eE nt g a)(J:oA P C nt o=true){F:List Oper}(hA:qN (jJ C F st o) (fs S) (fs st))(A:Ev.step C o (nc (jJ C F st o) st) some=some s'):
  vC P o a w (λY Z=>∃g',cQ C E (j5 (ic C st o) (mH C st o) (mI o) (nY st o) (pB C F o st s') S) g' Z/\eE nt g' Y/\jf nt g g'):=by
 obtain⟨hd,hx⟩:=uN J;rw[<-Ry hA] at A;obtain⟨w1,w2⟩:=aaL (R:=jJ C F st o) (s:=S);have hT:cQ C E (nc (jJ C F st o) S) g w:=h.uh (λk=>by
  rcases w1 k with e|e<;>rw[e]
  ·exact h.fQ k
  ·exact .un _ _) w2;have M:∀k,.tmp k∈o.op.operands.toList->(nc (jJ C F st o) S).cD k=st.cD k:=λk A=>by
  have h1:=hx _ A
  have h2:k<nt:=by simpa[fD,s6] using h1
  rw[ac2 (Pz A) (by omega)]
  exact hA.sl k (Pz A)
 generalize nc (jJ C F st o) S=t at A w1 w2 hT M;obtain⟨c1,c2,c3,c4,c5⟩:=ac3 (C:=C) M;have ab:∀{X:Rt->dv->Prop}{nb:Nat->Prop}{Y Z},(∃g',Out C E nt X o.dst nb g w s' Y Z g')->vE X (ic C st o) (mH C st o)->(∀k,nb k->k∈mI o/\k∈(ic C st o).bx)->
   ∃g',cQ C E (j5 (ic C st o) (mH C st o) (mI o) (nY st o) (pB C F o st s') S) g' Z/\eE nt g' Y/\jf nt g g':=λ⟨g',D⟩hX hn=>
  ⟨g',abF h D hX (λd e=>ag0 e) hn,D.Dx,D.PX hd λk Q=>Fw (hn k Q).1⟩
 cases H:ra o with
 |false=>
  cases D:o.op with
  |call c=>
   cases j:c.callee with
   |value x=>
    obtain⟨s2,e,I⟩:=Vq hC hF hT l J D j A;cases e;refine I.mono λY Z hh=>ab hh ?_ λk Q=>?_
    ·rw[c3];have ad:=A;simp only[Ev.step,D,j] at ad;split at ad
     ·rename_i f au ah;rw[Cn (s:=st) λk e=>M k (by simp[D,Op.operands,Call.operands,j,e])] at ah;exact aaM D j ah
     ·simp at ad
    ·have ai:k∈mI o:=by simp[mI,D,j,Q,dH]
     exact⟨ai,WB (by simp only[oE,D,j]) ai⟩
   |invoke x m=>simp[Ev.step,D,j] at A
   |builtin b=>simp[ra,D,j] at H
  |_=>simp[ra,D] at H
 |true=>
  cases hp:oE C st o with
  |false=>
   obtain⟨s2,e,I⟩:=step_ok hC hT l J H A;cases e;refine I.mono λY Z hh=>ab hh ?_ λk Q=>⟨Q,WB hp Q⟩;rw[c1,c2];exact ac1 h.ln (M5 H) hp
  |true=>
   cases u:nY st o with
   |nil=>
    obtain⟨s2,e,I⟩:=aeJ hC hT l J (by rw[c4];exact hp) (by rw[c5];exact u) A;cases e;rw[<-u];exact I.mono λY Z hh=>ab hh (ac0 _ _) λk Q=>Q.elim
   |cons p ps=>
    have ap:=u;unfold nY at u;split at u
    ·rename_i c D;split at u
     ·rename_i j;split at u
      ·rename_i k xs ha;split at u
       ·rename_i p' τ aj;cases N:p'.jG with
        |false=>rw[N] at u;simp at u
        |true=>
         rw[N,cP] at u;simp only[lN] at u;obtain⟨rfl,rfl⟩:=u;cases xs with
         |nil=>simp[Ev.step,D,j,ha] at A
         |cons y ys=>
          cases ys with
          |cons _ _=>simp[Ev.step,D,j,ha] at A
          |nil=>
           cases U:c.argTypes.toList with
           |nil=>simp[Ev.step,D,j,ha,U] at A
           |cons ty av=>
            cases ae:C.dj ty with
            |sl e sz aw=>
             simp only[Ev.step,D,j,ha,U,ae] at A;have aa:∀k,.tmp k∈o.op.operands.toList->t.cD k=S.cD k:=λk A=>(M k A).trans (hA.sl k (Pz A)).symm;have hm:∀z∈[Operand.tmp k,y],z∈o.op.operands.toList:=λz hz=>by
              rw[<-ha] at hz
              simp only[D,Op.operands,Call.operands,j]
              simpa using hz
             have ex:dn C t (.tmp k)=.vw p' τ:=by simp only[dn,M k (hm _ (by simp)),aj,nE]
             have ak:dn C S (.tmp k)=.vw p' τ:=by rw[<-ex];exact(Cn λk A=>aa k (A ▸hm _ (by simp))).symm
             have am:dn C t y=dn C S y:=Cn λk A=>aa k (A ▸hm _ (by simp));rw[ex,am] at A;obtain⟨zs,e1,e2⟩:=aeM w1 w2 N A;have an:Ev.step C o S some=some (eA C (S.gv p'.jD) o.dst (.pa p' e zs)):=by
              simp only[Ev.step,D,j,ha,U,ae]
              rw[ak]
              exact e2
             obtain⟨s2,e3,I⟩:=step_ok hC h l J H an;cases e3;refine I.mono λY Z⟨g',af⟩=>⟨g',?_,af.Dx,af.PX hd λk Q=>Fw Q⟩;have hW:ic C st o=⟨dH o.dst,[]⟩:=by simp only[ic,M5 H,hp,cP]
             have ao:mH C st o=⟨dH o.dst,[]⟩:=by simp only[mH,M5 H,D]
             have hn:mI o=[]:=by simp only[mI,D,j]
             rw[hW,ao,hn];subst e1;exact afX af.rel
            |_=>simp[Ev.step,D,j,ha,U,ae] at A
       ·simp at u
      ·simp at u
     ·simp at u
    ·simp at u
end
end
section
def Gt(ops:List Oper)(L:Nat->Bool):Prop:=∀j o,ops[j]?=some o->L j=true->∀e∈o.after.toList,Region.binds .any e=true->L e.on=true
def PZ(ops:List Oper)(j p:Nat):Prop:=∀L,Gt ops L->(∀o,ops[j]?=some o->∀e∈o.after.toList,Region.binds .any e=true->L e.on=true)->∀i,Nat.testBit p i=true->L i=true
def MD{done:List Nat}{i:Nat}:∀{j:List Edge},Nat.testBit (zF done j) i=true->∃e∈j,Region.binds .any e=true/\(i=e.on\/Nat.testBit (done.getD e.on 0) i=true)
 |[],h=>by simp[zF] at h
 |e::j,h=>by
  simp only[zF] at h;cases u:Region.binds .any e with
  |false=>
   rw[u,cR] at h;obtain⟨x,y,a⟩:=MD h;exact⟨x,by simp[y],a⟩
  |true=>
   rw[u,cP] at h;have h:Nat.testBit ((Nat.shiftLeft 1 e.on|||done.getD e.on 0)|||zF done j) i=true:=h;rw[Nat.testBit_or,Nat.testBit_or,yp,yp] at h;rcases h with(h|h)|h
   ·refine⟨e,by simp,u,.inl ?_⟩;have h:Nat.testBit (1<<<e.on) i=true:=h;rw[Nat.testBit_shiftLeft] at h;simp only[dF,dQ] at h;have a:=h.2;cases A:i-e.on with
    |zero=>omega
    |succ m=>rw[A,Nat.testBit_succ] at a;simp at a
   ·exact⟨e,by simp,u,.inr h⟩
   ·obtain⟨x,y,a⟩:=MD h;exact⟨x,by simp[y],a⟩
def R6{ops:List Oper}:∀(y pre:List Oper)(done:List Nat),ops=pre++y->done.length=pre.length->(∀j p,done[j]?=some p->PZ ops j p)->(pz y done).length=ops.length/\∀j p,(pz y done)[j]?=some p->PZ ops j p
 |[],pre,done,e,F,D=>by simp only[pz];exact⟨by rw[F,e];simp,D⟩
 |o::y,pre,done,e,F,D=>by
  simp only[pz];refine R6 y (pre++[o]) _ (by rw[e];simp) (by simp[F]) λj p a=>?_
  by_cases H:j<done.length
  ·rw[o7 H] at a;exact D j p a
  ·rw[qb (by omega)] at a;have I:j-done.length=0:=by
    cases hx:j-done.length with
    |zero=>rfl
    |succ m=>rw[hx] at a;simp at a
   rw[I] at a;simp only[qS,di] at a;subst a;have J:ops[j]?=some o:=by
    rw[e,qb (by omega)]
    have:j-pre.length=0:=by omega
    rw[this];rfl
   intro L Q S i u;obtain⟨E,U,Y,u⟩:=MD u;have A:=S o J E U Y;rcases u with rfl|u
   ·exact A
   ·cases x:done[E.on]? with
    |none=>
     have:done.getD E.on 0=0:=by simp[iT,x]
     rw[this] at u;simp at u
    |some q=>
     have:done.getD E.on 0=q:=by simp[iT,x]
     rw[this] at u;exact D _ q x L Q (λZ M e2 N P=>Q _ Z M A e2 N P) i u
def R7{e:Nat}{y:qK}:∀{u:List qK}{i:Nat},GG e y u i=true->∀k x,u[k]?=some x->Nat.testBit e (i+k)=true\/CS x y=true
 |[],i,_,k,x,a=>by simp at a
 |x::u,i,h,k,z,a=>by
  simp only[GG] at h;cases j:(bif Nat.testBit e i then true else CS x y) with
  |false=>rw[j] at h;simp at h
  |true=>
   rw[j,cP] at h;cases k with
   |zero=>
    simp only[qS,di] at a;subst a;rw[rI];cases A:Nat.testBit e i with
    |true=>exact .inl rfl
    |false=>rw[A,cR] at j;exact .inr j
   |succ k=>
    have:=R7 h k z (by simpa using a);rwa[show Nat.succ i+k=i+(k+1) by omega] at this
def R8:∀{A:List Nat}{u done:List qK},vl A u done=true->∀j p y,A[j]?=some p->u[j]?=some y->∀i x,(done++u)[i]?=some x->i<done.length+j->Nat.testBit p i=true\/CS x y=true
 |[],[],done,_,j,p,y,a,e,i,x,hx,D=>by simp at a
 |p0::A,[],done,_,j,p,y,a,e,i,x,hx,D=>by simp at e
 |[],F::u,done,h,j,p,y,a,e,i,x,hx,D=>by simp at a
 |p0::A,F::u,done,h,j,p,y,a,e,i,x,hx,D=>by
  simp only[vl] at h;cases E:GG p0 F done 0 with
  |false=>rw[E] at h;simp at h
  |true=>
   rw[E,cP] at h;cases j with
   |zero=>
    simp only[qS,di] at a e;subst a;subst e;rw[o7 (by omega)] at hx;have:=R7 E i x hx;rwa[iB] at this
   |succ j=>
    refine R8 h j p y (by simpa using a) (by simpa using e) i x ?_ (by simp;omega);simpa using hx
def H5:∀{u:List Oper}{i:Nat},u6 i u=true->∀j o,u[j]?=some o->∀e∈o.after.toList,Region.binds .any e=true->e.on<i+j
 |[],i,_,j,o,h=>by simp at h
 |o0::u,i,h,j,o,x=>by
  simp only[u6] at h;cases y:(o0.after.toList.all λe=>bif Region.binds .any e then Nat.blt e.on i else true) with
  |false=>rw[y] at h;simp at h
  |true=>
   rw[y,cP] at h;cases j with
   |zero=>
    simp only[qS,di] at x;subst x;intro e A a;have:=jC.1 y e A;rw[a,cP,s6] at this;omega
   |succ j=>
    intro e A a;have:=H5 h j o (by simpa using x) e A a;omega
def Uf{a b:List Nat}(h:meets a b=false):∀k,k∈a->k∈b->False:=λk e j=>by
 have:meets a b=true:=by
  simp only[meets,List.any_eq_true]
  exact⟨k,e,k,j,by simp⟩
 rw[this] at h;cases h
def Rz{a b:Acc}(h:a.meets b=false):(∀k,k∈a.sl->k∈b.sl->False)/\∀k,k∈a.bx->k∈b.bx->False:=by
 simp only[Acc.meets] at h;cases e:Ev.meets a.sl b.sl with
 |true=>rw[e] at h;simp at h
 |false=>rw[e,cR] at h;exact⟨Uf e,Uf h⟩
structure Item where
 s:TS
 d:qK
 out:TS
def Item.ρ(a:Item)(e j:Nat->Bool):Rec:=pF e j a.d.w a.d.f a.d.n a.d.p a.out
section
variable(C:Cx)(ops:List Oper)
structure sS(o:Oper)(it:Item):Prop where
 r:it.d.r=jJ C ops it.s o
 v:it.d.v=(jJ C ops it.s o).sl.map it.s.cD
 kn:xY it.d.v=true
 go:∀f w n ps,pA f w n ps it.d.o=true->∀k∈it.d.w.sl,kl f w n ps (it.out.cD k)=it.out.cD k
 how:((∀j w,o.guard=some (j,w)->∃gd,oD ops j=some gd/\gd∈(jJ C ops it.s o).sl/\it.s.cD gd=.b w)/\∃s',Ev.step C o (nc (jJ C ops it.s o) it.s) some=some s'/\it.d=C6 C ops o it.s s'/\it.out=pB C ops o it.s s')\/
  ((∃j w gd,o.guard=some (j,w)/\oD ops j=some gd/\gd∈(jJ C ops it.s o).sl/\((∃x,it.s.cD gd=.b x/\x≠w)\/it.s.cD gd=.fp []))/\it.d=CT C ops o it.s/\it.out=mZ o)
end
def xd(e j:Nat->Bool):FS->List Item->FS->Prop|F,[],a=>a=F|F,u::l,a=>fs u.s=F/\xd e j ((u.ρ e j).app F) l a
section
variable{C:Cx}{ops:List Oper}{R:Type}{r:R}{K:TS->Option R}
def afY{o:Oper}(f w:Acc)(n:List Nat)(a:List Pl)(k:Nat):kl f w n a ((mZ o).cD k)=(mZ o).cD k:=by
 have:(mZ o).cD k=.fp []\/(mZ o).cD k=.un:=by
  simp only[TS.cD,mZ]
  rw[zi .un (λ_=>TV.fp []),ql,wo]
  split
  ·exact .inl rfl
  ·exact .inr rfl
 rcases this with e|e<;>rw[e]<;>first|(simp only[kl,Lf];done)|skip
 refine Gr (λj e=>by cases e) λ_=>?_;simp[lp,fT,nj,lM]
def afZ{s:TS}{k:Nat}{v:TV}(h:s.cD k=v)(a:v≠.un):fs (s.raw k v)=fs s:=DL (funext λj=>TT h a j) rfl
def af0{R:Acc}{s t:TS}(h:fs s=fs t):qN R (fs s) (fs t):=by rw[h];exact⟨λ_ _=>rfl,λ_ _=>rfl⟩
def Vz{ot oh:Nat->Bool}:∀(F:List Oper)(J:List qK)(s:TS),px C ops F J s K=some r->fj s.t=ot->fj s.h=oh->
  ∃l:List Item,l.length=F.length/\vl (pz ops []) (J++l.map (·.d)) []=true/\u6 0 ops=true/\(∃H,K H=some r/\xd ot oh (fs s) l (fs H))/\∀(j:Nat)o it,F[j]?=some o->l[j]?=some it->sS C ops o it
 |[],J,s,h,ht,Y=>by
  simp only[px] at h;cases h1:vl (pz ops []) J [] with
  |false=>rw[h1] at h;simp at h
  |true=>
   rw[h1,cP] at h;cases h2:u6 0 ops with
   |false=>rw[h2] at h;simp at h
   |true=>
    rw[h2,cP] at h;exact⟨[],rfl,by simpa using h1,rfl,⟨s,h,rfl⟩,λj o it hj=>by simp at hj⟩
 |o::F,J,s,h,ht,Y=>by
  simp only[px] at h;cases Q:xY ((jJ C ops s o).sl.map s.cD) with
  |false=>rw[Q] at h;simp at h
  |true=>
  rw[Q,cP] at h;have U:∀(it:Item)(u:TS)(T:TS),it.s=s->fs u=fs s->fj u.t=ot->fj u.h=oh->sS C ops o it->T=j5 it.d.w it.d.f it.d.n it.d.p it.out u->px C ops F (J++[it.d]) T K=some r->
    ∃l:List Item,l.length=(o::F).length/\vl (pz ops []) (J++l.map (·.d)) []=true/\u6 0 ops=true/\(∃H,K H=some r/\xd ot oh (fs s) l (fs H))/\∀(j:Nat)P it,(o::F)[j]?=some P->l[j]?=some it->sS C ops P it:=λit u T e1 Z e3 e4 hI hT h=>by
   have aa:fj T.t=ot:=by rw[hT,Wz,e3]
   have ab:fj T.h=oh:=by rw[hT,WA,e4]
   obtain⟨l,h1,h2,h3,⟨H,h4,h5⟩,h6⟩:=Vz F _ T h aa ab
   refine⟨it::l,by simp[h1],by simpa using h2,h3,⟨H,h4,by rw[e1],?_⟩,λj P ad hj hl=>?_⟩
   ·have:fs T=(it.ρ ot oh).app (fs s):=by
      rw[hT,F4,e3,e4,Z];rfl
    rw[<-this];exact h5
   ·cases j with
    |zero=>
     simp only[qS,di] at hj hl;subst hj;subst hl;exact hI
    |succ j=>exact h6 j P ad (by simpa using hj) (by simpa using hl)
  have M:∀(u:TS),fs u=fs s->fj u.t=ot->fj u.h=oh->(∀j w,o.guard=some (j,w)->∃A,oD ops j=some A/\A∈(jJ C ops s o).sl/\s.cD A=.b w)->
    (GH C (jJ C ops s o) o u λs'=>px C ops F (J++[C6 C ops o s s']) (j5 (ic C s o) (mH C s o) (mI o) (nY s o) (pB C ops o s s') u) K)=some r->
    ∃l:List Item,l.length=(o::F).length/\vl (pz ops []) (J++l.map (·.d)) []=true/\u6 0 ops=true/\(∃H,K H=some r/\xd ot oh (fs s) l (fs H))/\∀(j:Nat)P it,(o::F)[j]?=some P->l[j]?=some it->sS C ops P it:=λu Z e3 e4 I h=>by
   simp only[GH] at h
   rw[Ry (af0 Z)] at h
   obtain⟨s',ae,h⟩:=acF h
   refine U ⟨s,C6 C ops o s s',pB C ops o s s'⟩ u _ rfl Z e3 e4 ⟨rfl,rfl,Q,λf w n ps hl k hk=>?_,.inl ⟨I,s',ae,rfl,rfl⟩⟩ rfl h
   exact Nr hl _ (ik.2 ⟨k,hk,rfl⟩)
  have E:∀(u:TS),fs u=fs s->fj u.t=ot->fj u.h=oh->(∃j w A,o.guard=some (j,w)/\oD ops j=some A/\A∈(jJ C ops s o).sl/\((∃x,s.cD A=.b x/\x≠w)\/s.cD A=.fp []))->
    px C ops F (J++[CT C ops o s]) (j5 ⟨dH o.dst,[]⟩ ⟨dH o.dst,[]⟩ [] [] (mZ o) u) K=some r->
    ∃l:List Item,l.length=(o::F).length/\vl (pz ops []) (J++l.map (·.d)) []=true/\u6 0 ops=true/\(∃H,K H=some r/\xd ot oh (fs s) l (fs H))/\∀(j:Nat)P it,(o::F)[j]?=some P->l[j]?=some it->sS C ops P it:=λu Z e3 e4 I h=>
   U ⟨s,CT C ops o s,mZ o⟩ u _ rfl Z e3 e4 ⟨rfl,rfl,Q,λf w n ps _ k _=>afY f w n ps k,.inr ⟨I,rfl,rfl⟩⟩ rfl h
  cases I:o.guard with
  |none=>
   rw[I] at h;exact M s rfl ht Y (λj w e=>by rw[I] at e;cases e) h
  |some jw=>
   obtain⟨j,w⟩:=jw;rw[I] at h;simp only[] at h;cases D:oD ops j with
   |none=>rw[D] at h;simp at h
   |some A=>
    rw[D] at h;simp only[] at h;have N:A∈(jJ C ops s o).sl:=by simp[jJ,Acc.add,Wa,I,D,dH]
    split at h
    ·rename_i x hx;have S:∀y,x=y->fs (s.raw A (.b y))=fs s:=λy e=>by subst e;exact afZ hx (by simp)
     have o1:∀v,fj (s.raw A v).t=ot:=λv=>by simp only[TS.raw];rw[zI,ht]
     cases w with
     |true=>
      simp only[] at h;rcases Cf.1 h with⟨a,h⟩|⟨a,h⟩
      ·exact M _ (S _ a) (o1 _) Y (λj' w' e=>by rw[I] at e;cases e;exact⟨A,D,N,by rw[hx,a]⟩) h
      ·exact E _ (S _ a) (o1 _) Y ⟨j,_,A,I,D,N,.inl ⟨x,hx,by rw[a];simp⟩⟩ h
     |false=>
      simp only[] at h;rcases Cf.1 h with⟨a,h⟩|⟨a,h⟩
      ·exact E _ (S _ a) (o1 _) Y ⟨j,_,A,I,D,N,.inl ⟨x,hx,by rw[a];simp⟩⟩ h
      ·exact M _ (S _ a) (o1 _) Y (λj' w' e=>by rw[I] at e;cases e;exact⟨A,D,N,by rw[hx,a]⟩) h
    ·rename_i hx;exact E s rfl ht Y ⟨j,w,A,I,D,N,.inr hx⟩ h
    ·simp at h
end
end
section
def Ug{C:Cx}{u:List Oper}{ox F:Oper}{x y:Item}{H I:Nat->Bool}(A:sS C u F y)
  (J:x.d.w.meets (y.d.r.add y.d.w)=false)(M:pA x.d.f x.d.w x.d.n x.d.p y.d.v=true):ur (x.ρ H I) y.d.r (fs y.s):=by
 obtain⟨N,Q⟩:=Rz J;have D:∀k∈y.d.r.sl,y.s.cD k∈y.d.v:=λk e=>by
  rw[A.v]
  rw[A.r] at e
  exact ik.2 ⟨k,e,rfl⟩
 refine⟨λk e j=>?_,λk e j=>?_,λk e=>?_,λk e v R=>?_⟩
 ·simp only[Item.ρ,pF,dF] at j;exact N k (kf.1 j.1) (eJ.2 (.inl e))
 ·simp only[Item.ρ,pF,dF] at j;exact Q k (kf.1 j.1) (eJ.2 (.inl e))
 ·exact Nr M _ (D k e)
 ·exact agW R (Vw A.kn _ (D k e))
def pair{C:Cx}{j:List Oper}{ox N:Oper}{x y:Item}{A D:Nat->Bool}(hx:sS C j ox x)(Q:sS C j N y)(h:CS x.d y.d=true):
  Comm (x.ρ A D) (y.ρ A D)/\ur (x.ρ A D) y.d.r (fs y.s)/\ur (y.ρ A D) x.d.r (fs x.s):=by
 unfold CS at h;cases F:x.d.w.meets (y.d.r.add y.d.w) with
 |true=>rw[F] at h;simp at h
 |false=>
 rw[F,cR] at h;cases H:y.d.w.meets (x.d.r.add x.d.w) with
 |true=>rw[H] at h;simp at h
 |false=>
 rw[H,cR] at h;cases I:pA x.d.f x.d.w x.d.n x.d.p y.d.v with
 |false=>rw[I] at h;simp at h
 |true=>
 rw[I,cP] at h;cases J:pA y.d.f y.d.w y.d.n y.d.p x.d.v with
 |false=>rw[J] at h;simp at h
 |true=>
 rw[J,cP] at h;cases M:pA x.d.f x.d.w x.d.n x.d.p y.d.o with
 |false=>rw[M] at h;simp at h
 |true=>
 rw[M,cP] at h;obtain⟨R,S⟩:=Rz F;refine⟨⟨λk e u=>?_,λk e u=>?_,λk e=>?_,λk e=>?_,λv=>aeK _ _ _ _ _⟩,Ug (ox:=ox) Q F I,Ug (ox:=N) hx H J⟩
 ·simp only[Item.ρ,pF,dF] at e u;exact R k (kf.1 e.1) (eJ.2 (.inr (kf.1 u.1)))
 ·simp only[Item.ρ,pF,dF] at e u;exact S k (kf.1 e.1) (eJ.2 (.inr (kf.1 u.1)))
 ·simp only[Item.ρ,pF,dF] at e;exact hx.go _ _ _ _ h k (kf.1 e.1)
 ·simp only[Item.ρ,pF,dF] at e;exact Q.go _ _ _ _ M k (kf.1 e.1)
def Lt(e j:Nat->Bool)(l:List Item)(i:Nat):Rec:=match l[i]? with
 |some u=>u.ρ e j
 |none=>⟨λ_=>false,λ_=>false,id,λ_=>.un,λ_=>(⟨ql,sr⟩:TS).box 0⟩
def aeO{e oh:Nat->Bool}{l:List Item}{i:Nat}{j:Item}(h:l[i]?=some j):Lt e oh l i=j.ρ e oh:=by simp only[Lt,h]
def SL{D oh:Nat->Bool}{ρ:Nat->Rec}{F0:FS}:∀(l:List Item)(m:Nat)(F x:FS),(∀j it,l[j]?=some it->ρ (m+j)=it.ρ D oh)->F=run ρ m (λ_=>true) F0->xd D oh F l x->
  x=run ρ (m+l.length) (λ_=>true) F0/\∀j it,l[j]?=some it->fs it.s=run ρ (m+j) (λ_=>true) F0
 |[],m,F,x,_,A,h=>⟨by simp only[xd] at h;rw[h,A];rfl,λj it e=>by simp at e⟩
 |it::l,m,F,x,y,A,h=>by
  simp only[xd] at h;have H:ρ m=it.ρ D oh:=y 0 it rfl;obtain⟨I,J⟩:=SL (ρ:=ρ) (F0:=F0) l (m+1) _ x (λj u e=>by
   have:=y (j+1) u (by simpa using e)
   rwa[show m+1+j=m+(j+1) by omega]) (by simp only[run,gE];rw[H,A]) h.2;refine⟨by rw[I,gy,show m+1+l.length=m+(l.length+1) by omega],λj u e=>?_⟩;cases j with
  |zero=>
   simp only[qS,di] at e;subst e;rw[h.1,A];rfl
  |succ j=>
   rw[J j u (by simpa using e),show m+1+j=m+(j+1) by omega]
def SN{p q:Nat->Bool}{i:Nat}(e:∀k,p k=true->q k=true)(u:p i=false)(x:q i=true):∀{l:List Nat},i∈l->l.countP p<l.countP q
 |[],h=>by simp at h
 |a::l,h=>by
  have y:l.countP p<=l.countP q:=List.countP_mono_left λk _=>e k
  by_cases A:a=i
  ·subst A;rw[QP,QP,u,x];simp only[iS,iO,gE];omega
  ·have D:i∈l:=by rcases eG.1 h with rfl|h;exact absurd rfl A;exact h
   have F:=SN e u x D;rw[QP,QP]
   by_cases j:p a=true
   ·rw[j,e a j];simp only[gE];omega
   ·have:p a=false:=by simpa using j
    rw[this];simp only[iS,iO];omega
section
variable{P:Program}{C:Cx}{E:Env}{nt:Nat}{o:Oper}{g:Gs}{a:Act}{w:World}
def ac4{S:TS}{I:Gs}{w':World}(h:cQ C E (eA C S o.dst (.fp [])) I w'):cQ C E (j5 ⟨dH o.dst,[]⟩ ⟨dH o.dst,[]⟩ [] [] (mZ o) S) I w':=by
 have F:=F4 ⟨dH o.dst,[]⟩ ⟨dH o.dst,[]⟩ [] [] (mZ o) S;refine h.uh (λk=>?_) (λk=>?_)
 ·have this:(j5 ⟨dH o.dst,[]⟩ ⟨dH o.dst,[]⟩ [] [] (mZ o) S).cD k=if(fZ k (dH o.dst)&&fj S.t k)=true then(mZ o).cD k else kl ⟨dH o.dst,[]⟩ ⟨dH o.dst,[]⟩ [] [] (S.cD k):=congrFun (congrArg Prod.fst F) k
  rw[this];clear this F;have x:=h.fQ k;obtain⟨N,Q⟩:=Ob (C:=C) S o.dst (.fp [])
  by_cases D:o.dst=some k
  ·rw[Q k D] at x
   by_cases j:fj S.t k=true
   ·rw[cM j] at x;have H:fZ k (dH o.dst)=true:=kf.2 (by simp[D,dH]);rw[H,j,nJ,cM rfl];have R:kA (fT (lF C o.dst)) (fT (lF C o.dst)) (.fp [])=.fp []:=Gr (λcs e=>by cases e) λ_=>rfl;rw[R] at x;have:(mZ o).cD k=.fp []\/(mZ o).cD k=.un:=by
     simp only[TS.cD,mZ]
     rw[zi .un (λ_=>TV.fp []),ql,wo]
     split
     ·exact .inl rfl
     ·exact .inr rfl
    rcases this with e|e<;>rw[e]
    ·exact x
    ·exact .un _ _
   ·have J:fj S.t k=false:=by simpa using j
    rw[J,ZG,cN (by simp)];have:S.cD k=.un:=tG _ _ _ J;rw[this];simp only[kl,Lf];exact .un _ _
  ·rw[N k D] at x;have H:fZ k (dH o.dst)=false:=by
    cases U:fZ k (dH o.dst) with
    |false=>rfl
    |true=>
     have:=kf.1 U
     cases y:o.dst with
     |none=>rw[y] at this;simp[dH] at this
     |some d=>rw[y] at this;simp[dH] at this;exact absurd (by rw[y,this]) D
   rw[H,yq,cN (by simp)];have A:=x.kA (mP ⟨dH o.dst,[]⟩ ⟨dH o.dst,[]⟩ []) (lp ⟨dH o.dst,[]⟩ ⟨dH o.dst,[]⟩ [] []);rw[xB] at A;have M:∀v,fT (lF C o.dst) v=true->fT (kB ⟨dH o.dst,[]⟩ ⟨dH o.dst,[]⟩ []) v=true:=λv u=>by
    have one:∀q,lF C o.dst q=true->kB ⟨dH o.dst,[]⟩ ⟨dH o.dst,[]⟩ [] q=true:=λq Y=>by
     obtain⟨d,y,Z⟩:=R5 Y
     have:q.iR ⟨dH o.dst,[]⟩=true:=zJ.2 (.inl ⟨d,xa.1 Z,by simp[y,dH]⟩)
     simp only[kB,pM,this,cP,ZH]
    cases v<;>simp only[fT] at u⊢<;>first|exact one _ u|(cases u;done)
   have eq:kA (λv=>mP ⟨dH o.dst,[]⟩ ⟨dH o.dst,[]⟩ [] v||fT (lF C o.dst) v) (λv=>lp ⟨dH o.dst,[]⟩ ⟨dH o.dst,[]⟩ [] [] v||fT (lF C o.dst) v) (S.cD k)=kl ⟨dH o.dst,[]⟩ ⟨dH o.dst,[]⟩ [] [] (S.cD k):=by
    refine Co (λv=>?_) (λv=>?_) _
    ·simp only[mP];cases u:fT (lF C o.dst) v with
     |false=>simp
     |true=>rw[M v u];rfl
    ·simp only[lp];cases u:fT (lF C o.dst) v with
     |false=>simp
     |true=>rw[M v u];rfl
   rw[<-eq];exact A
 ·left
  have:=congrFun (congrArg Prod.snd F) k;simp only[fs,Rec.app,pF] at this;rw[this,Vy];simp only[fZ,yq,iS,iO]
def ML{S:TS}(h:cQ C E S g w)(l:eE nt g a){A:Array Oper}(I:∀o∈A.toList,oA P C nt o=true){j y:Nat}(e:oD A.toList j=some y):
  (∀x,S.cD y=.b x->yielded A a.tmps j=some x)/\(S.cD y=.fp []->yielded A a.tmps j=none):=by
 rw[N5,l7] at e;have J:y<nt:=by
  cases H:A[j]? with
  |none=>rw[H] at e;simp at e
  |some R=>
   rw[H] at e
   simp only[o4] at e
   have:=(uN (I R (by rw[<-l7] at H;exact fh H))).1
   rw[e] at this
   exact this
 have M:a.tmps[y]?=some (g.tm y):=by
  have N:=l.tm y J
  have Q:y<a.tmps.size:=by rw[l.sz];exact J
  rw[jN Q]
  rw[uD,jN Q] at N
  simpa using N
 have D:=h.fQ y;refine⟨λx hx=>?_,λhx=>?_⟩
 ·rw[hx] at D;have F:g.tm y=.bool x:=D.pE;simp[yielded,e,M,F]
 ·rw[hx] at D;have F:∃vs,g.tm y=.tuple vs:=by
   generalize g.tm y=u at D
   cases D with
   |fp _ _ vs _ _ _=>exact⟨vs,rfl⟩
  obtain⟨vs,F⟩:=F;simp[yielded,e,M,F]
def Oc{l:Array Bool}{i k:Nat}(j:i<l.size):(l.setIfInBounds i true).getD k false=if k=i then true else l.getD k false:=by
 simp only[uD,Array.getElem?_setIfInBounds]
 by_cases e:i=k
 ·subst e;simp[j]
 ·rw[cN e,cN (oY e)]
open Classical in
def aeP(hC:ga P C)(hF:re P C)(a9:nt<2047):Gm P C nt:=by
 intro E R r ops s K g a w Q ab D h l hQ;obtain⟨yc,aA,aB,aa,⟨se,aS,aG⟩,hI⟩:=Vz (ot:=fj s.t) (oh:=fj s.h) ops.toList [] s D rfl rfl;rw[iC] at aB;obtain⟨bG,ba⟩:=R6 (ops:=ops.toList) ops.toList [] [] rfl rfl (λj p Y=>by simp at Y);generalize bb:fj s.t=ot at aG;generalize bc:fj s.h=oh at aG;have aH:∀j u,yc[j]?=some u->Lt ot oh yc j=u.ρ ot oh:=λj u Y=>aeO Y;generalize Lt ot oh yc=ρ at aH;obtain⟨ad,be⟩:=SL (ρ:=ρ) (F0:=fs s) yc 0 (fs s) (fs se) (λj u Y=>by rw[iB];exact aH j u Y) rfl aG;rw[iB,aA] at ad;have hn:ops.toList.length=ops.size:=by simp
 rw[hn] at ad aA;have I:∀j,j<ops.size->∃o u p,ops[j]?=some o/\ops.toList[j]?=some o/\yc[j]?=some u/\(pz ops.toList [])[j]?=some p/\ρ j=u.ρ ot oh/\sS C ops.toList o u/\PZ ops.toList j p:=λj Y=>by
  have M:j<ops.toList.length:=by omega
  have H:j<yc.length:=by omega
  have h3:j<(pz ops.toList []).length:=by omega
  have e1:=eN M
  have e2:=eN H
  have e3:=eN h3
  exact⟨_,_,_,by rw[<-l7];exact e1,e1,e2,e3,aH j _ e2,hI j _ _ e1 e2,ba j _ e3⟩
 have aI:∀i j p x y oi oj,i<j->yc[i]?=some x->yc[j]?=some y->(pz ops.toList [])[j]?=some p->Nat.testBit p i=false->sS C ops.toList oi x->sS C ops.toList oj y->Comm (x.ρ ot oh) (y.ρ ot oh)/\ur (x.ρ ot oh) y.d.r (fs y.s)/\ur (y.ρ ot oh) x.d.r (fs x.s):=λi j p x y oi oj bf hx hy hp hb bg bh=>by
  rcases R8 aB j p y.d hp (by simp[hy]) i x.d (by simp[hx]) (by simpa using bf) with e|e
  ·rw[hb] at e;cases e
  ·exact pair bg bh e
 have aT:∀(J:Nat)(listed:Array Bool)(S:TS)(g1:Gs)(a1:Act)(w1:World),listed.size=ops.size->Gt ops.toList (λk=>listed.getD k false)->(List.range ops.size).countP (λk=>!listed.getD k false)<=J->
   cQ C E S g1 w1->eE nt g1 a1->jf nt g g1->fs S=run ρ ops.size (λk=>listed.getD k false) (fs s)->fj S.t=ot->fj S.h=oh->wpAny P .any ops Q J listed a1 w1:=by
  intro J
  induction J with
  |zero=>
   intro listed S g1 a1 w1 aU aj aJ hR hL aw ak aK aL
   have all:∀k,k<ops.size->listed.getD k false=true:=λk D=>by
    have:=List.countP_eq_zero.1 (Nat.le_zero.1 aJ) k (yk.2 D)
    simpa using this
   refine⟨?_,?_⟩
   ·rw[List.eq_nil_iff_forall_not_mem];intro i hi;simp only[Region.ready,ZI,yk,dF,lO] at hi;have M:=all i hi.1;have H:=hi.2.1;rw[uD] at M H;rw[jN (by omega)] at M H;simp at M H;rw[M] at H;cases H
   ·have e:fs se=fs S:=by
      rw[ad,ak]
      exact wJ λk D=>(all k D).symm
    exact hQ se g1 a1 w1 aS (hR.uh (λk=>by rw[show se.cD k=S.cD k from congrFun (congrArg Prod.fst e) k];exact hR.fQ k) (λk=>.inl (congrFun (congrArg Prod.snd e) k))) hL aw
  |succ J ih=>
   intro listed S g1 a1 w1 aU aj aJ hR hL aw ak aK aL;refine⟨λhr=>?_,λi hi=>?_⟩
   ·have all:∀m k,k<m->k<ops.size->listed.getD k false=true:=by
      intro m
      induction m with
      |zero=>intro k D;omega
      |succ m aV=>
       intro k D aM
       by_cases bi:k<m
       ·exact aV k bi aM
       ·have bj:k=m:=by omega
        subst bj;cases hb:listed.getD k false with
        |true=>rfl
        |false=>
         exfalso;obtain⟨o,u,p,ho,af,_⟩:=I k aM;have:k∈Region.ready .any ops listed:=by
          simp only[Region.ready,ZI,yk,dF,lO]
          refine⟨aM,?_,?_⟩
          ·rw[uD,jN (by omega)] at hb⊢;simpa using hb
          ·rw[ho];simp only[jx,ZA];rw[<-Array.all_toList,jC];intro e Z;cases F:Region.binds .any e with
           |false=>rfl
           |true=>
            have:=H5 aa k o af e Z F;rw[iB] at this;have:=aV e.on this (by omega);simpa using this
         rw[hr] at this;simp at this
    have e:fs se=fs S:=by
     rw[ad,ak]
     exact wJ λk D=>(all (k+1) k (by omega) D).symm
    exact hQ se g1 a1 w1 aS (hR.uh (λk=>by rw[show se.cD k=S.cD k from congrFun (congrArg Prod.fst e) k];exact hR.fQ k) (λk=>.inl (congrFun (congrArg Prod.snd e) k))) hL aw
   ·simp only[Region.ready,ZI,yk,dF,lO] at hi;obtain⟨aN,aC,ae⟩:=hi;obtain⟨o,u,p,ho,af,hit,hp,aD,ax,bk⟩:=I i aN;have am:listed.getD i false=false:=by
     rw[uD,jN (by omega)] at aC⊢
     simpa using aC
    have aW:∀e∈o.after.toList,Region.binds .any e=true->listed.getD e.on false=true:=λe Z F=>by
     rw[ho] at ae
     simp only[jx,ZA] at ae
     rw[<-Array.all_toList,jC] at ae
     have:=ae e Z
     rw[F] at this
     simpa using this
    have bm:o∈ops.toList:=fh af;have aX:=ab o bm
    let Qn:Nat->Bool:=λk=>decide (∀X,Gt ops.toList X->(∀e∈o.after.toList,Region.binds .any e=true->X e.on=true)->X k=true)
    have an:∀k,Qn k=true↔∀X,Gt ops.toList X->(∀e∈o.after.toList,Region.binds .any e=true->X e.on=true)->X k=true:=λk=>by simp only[Qn,dQ]
    have bn:∀k,Qn k=true->listed.getD k false=true:=λk D=>(an k).1 D _ aj aW;have aY:∀k,Qn k=true->k<i:=λk D=>by
     have:=(an k).1 D (λk=>decide (k<i)) (λj oj Y hX e Z F=>by
      have M:=H5 aa j oj Y e Z F
      simp only[dQ] at hX⊢
      omega) (λe Z F=>by
      have M:=H5 aa i o af e Z F
      simp only[dQ]
      omega)
     simpa using this
    have aZ:Gt ops.toList Qn:=λj oj Y hX e Z F=>(an _).2 λX ay aO=>ay j oj Y ((an j).1 hX X ay aO) e Z F;have bo:∀k,Nat.testBit p k=true->Qn k=true:=λk D=>(an k).2 λX ay aO=>bk X ay (λo' ah=>by rw[af] at ah;cases ah;exact aO) k D;have aE:∀k j,k<j->j<ops.size->Qn k=false->Qn j=true->Comm (ρ k) (ρ j):=λk j bp Y D hq=>by
     obtain⟨ok,ao,pk,_,_,N,_,U,ap,_⟩:=I k (by omega)
     obtain⟨oj,bq,pj,_,bE,a0,br,a2,bs,bt⟩:=I j Y
     rw[U,a2]
     refine(aI k j pj ao bq ok oj bp N a0 br ?_ ap bs).1
     cases hb:Nat.testBit pj k with
     |false=>rfl
     |true=>
      have:=bt Qn aZ (λo' ah e Z F=>aZ j o' ah hq e Z F) k hb
      rw[this] at D;cases D
    have lo:∀k,k<i->Qn k=false->ur (ρ k) u.d.r (fs u.s):=λk ai D=>by
     obtain⟨ok,ao,pk,_,_,N,_,U,ap,_⟩:=I k (by omega)
     rw[U]
     refine(aI k i p ao u ok o ai N hit hp ?_ ap ax).2.1
     cases hb:Nat.testBit p k with
     |false=>rfl
     |true=>have:=bo k hb;rw[this] at D;cases D
    have a3:∀k,i<k->k<ops.size->listed.getD k false=true->Comm (ρ i) (ρ k)/\ur (ρ k) u.d.r (fs u.s):=λk bu D aq=>by
     obtain⟨ok,ao,pk,_,bF,N,bv,U,ap,bw⟩:=I k D
     rw[U,aD]
     have:=aI i k pk u ao o ok bu hit N bv (by
      cases hb:Nat.testBit pk i with
      |false=>rfl
      |true=>
       have:=bw _ aj (λo' ah e Z F=>aj k o' ah aq e Z F) i hb
       rw[this] at am;cases am) ax ap
     exact⟨this.1,this.2.2⟩
    have a4:fs u.s=run ρ i (λ_=>true) (fs s):=by have:=be i u hit;rwa[iB] at this
    have a5:qN u.d.r (run ρ i Qn (fs s)) (fs u.s):=by
     refine(Ue (A:=λ_=>true) (λ_ _=>rfl) λk D _ hq=>⟨lo k D hq,λj M H h3=>aE k j M (by omega) hq h3⟩).1 ?_
     rw[<-a4]
     exact⟨λ_ _=>rfl,λ_ _=>rfl⟩
    have a6:qN u.d.r (run ρ ops.size Qn (fs s)) (fs u.s):=by
     rw[Oa (m:=i) (by omega) λk M H=>by
      cases hb:Qn k with
      |false=>rfl
      |true=>have:=aY k hb;omega]
     exact a5
    have bA:qN u.d.r (fs S) (fs u.s):=by
     rw[ak]
     refine(Ue bn λk D aq hq=>⟨?_,λj M H h3=>aE k j M H hq h3⟩).2 a6
     by_cases ai:k<i
     ·exact lo k ai hq
     ·have:k≠i:=λe=>by subst e;rw[am] at aq;cases aq
      exact(a3 k (by omega) D aq).2
    have au:qN (jJ C ops.toList u.s o) (fs S) (fs u.s):=by rw[<-ax.r];exact bA
    have next:∀g' a' w',cQ C E (j5 u.d.w u.d.f u.d.n u.d.p u.out S) g' w'->eE nt g' a'->jf nt g1 g'->wpAny P .any ops Q J (listed.setIfInBounds i true) a' w':=λg' a' w' M H h3=>by
     have a7:(λk=>(listed.setIfInBounds i true).getD k false)=xQ (λk=>listed.getD k false) i:=by
      funext k
      rw[Oc (by omega)]
      rfl
     refine ih _ _ g' a' w' (by simpa using aU) ?_ ?_ M H (aw.trans h3) ?_ (by rw[Wz,aK]) (by rw[WA,aL])
     ·rw[a7];intro j oj Y hX e Z F;simp only[xQ] at hX⊢
      by_cases a8:j=i
      ·rw[a8,af] at Y;cases Y;split
       ·rfl
       ·exact aW e Z F
      ·rw[cN a8] at hX;split
       ·rfl
       ·exact aj j oj Y hX e Z F
     ·refine Nat.le_of_lt_succ (Me (SN (i:=i) (q:=λk=>!listed.getD k false) (λk D=>?_) ?_ ?_ (yk.2 aN)) aJ)
      ·rw[Oc (by omega)] at D
       by_cases ai:k=i
       ·rw[cM ai] at D;simp at D
       ·rw[cN ai] at D;exact D
      ·rw[Oc (by omega)];simp
      ·simp[am]
     ·rw[F4,aK,aL,ak,a7];rw[<-OW am aN λj M H h3=>(a3 j M H h3).1,aD];rfl
    unfold wpOp;rcases ax.how with⟨bB,s',bC,aP,av⟩|⟨⟨j,wv,gd,hg,az,aQ,aR⟩,aP,av⟩
    ·have hw:Region.wanted o (yielded ops a1.tmps)=true:=by
       cases hg:o.guard with
       |none=>simp[Region.wanted,hg]
       |some jw=>
        obtain⟨j,wv⟩:=jw
        obtain⟨gd,az,aQ,aR⟩:=bB j wv hg
        have:=(ML hR hL ab az).1 wv (by rw[show S.cD gd=u.s.cD gd from au.sl gd aQ];exact aR)
        simp only[Region.wanted,hg,this]
        cases wv<;>rfl
     simp only[ho,hw,gE];refine .inl (aeN hC hF a9 hR hL aX au bC _ Q λa' w'⟨g',M,H,h3⟩=>next g' a' w' ?_ H h3);rw[aP,av];exact M
    ·have aF:S.cD gd=u.s.cD gd:=au.sl gd aQ;have hw:Region.wanted o (yielded ops a1.tmps)=false:=by
      rcases aR with⟨x,hx,bD⟩|hx
      ·have:=(ML hR hL ab az).1 x (by rw[aF,hx]);simp only[Region.wanted,hg,this];cases wv<;>cases x<;>first|rfl|exact absurd rfl bD
      ·have:=(ML hR hL ab az).2 (by rw[aF,hx]);simp[Region.wanted,hg,this]
     simp only[ho,hw,iS,iO];have hd:=(uN aX).1;obtain⟨g',H⟩:=Vr (o:=o) (nb:=λ_=>False) hR hL hd;refine next g' _ _ ?_ H.Dx (H.PX hd λk hb=>hb.elim)
     rw[aP,av];exact ac4 H.rel
 refine aT ops.size (Array.replicate ops.size false) s g a w (by simp) (λj oj _ hX=>?_) ?_ h l jf.refl ?_ bb bc
 ·exfalso;simp only[uD,QM] at hX;split at hX<;>simp at hX
 ·exact Av List.countP_le_length (by simp)
 ·rw[Oa (m:=0) (yi _) λk _ _=>?_]
  ·rfl
  ·simp only[uD,QM];split<;>rfl
end
end
end Go.Sd
namespace Go.Ev
open Go
def oB(_:Nat)(x:Int):Option cq:=if-9223372036854775808<=x/\x<=9223372036854775807 then some (Lib.itoa x) else none
def Gu(_:Nat)(s:cq):Option (Int×Bool):=if s.length<=281474976710656 then some (match Lib.atoiAll s with|.ok v=>(v,false)|.range=>(Lib.atoiSat s,true)|_=>(0,true)) else none
def zZ(_:Nat)(s a:cq):Option (cq×cq×Bool):=if s.length<4294967281 then some (Lib.cut s a) else none
def MM(_:Nat)(s p:cq):Option Bool:=some (Lib.hasPrefix s p)
def q7(_:Nat)(s a:cq):Option (List cq):=if s.length<4294967281/\1<=a.length then some (Lib.split s a) else none
def CZ(_:Nat)(e:List cq)(a:cq):Option cq:=if e.length<=140737488355328/\(Lib.join e a).length<=140737488355328 then some (Lib.join e a) else none
def wX(_:Nat)(s:cq)(c:Int):Option cq:=if 0<=c/\c<=9223372036854775807/\s.length*c<=140737488355328 then some (Lib.repeatL s c.toNat) else none
def hexDs:Nat->Nat->cq
 |0,_=>[]
 |k+1,x=>if x<16 then[([48,49,50,51,52,53,54,55,56,57,97,98,99,100,101,102]:cq).getD x 0] else hexDs k (x/16)++[([48,49,50,51,52,53,54,55,56,57,97,98,99,100,101,102]:cq).getD (x % 16) 0]
def yJ(_:Nat)(x a:Int):Option cq:=if a=16/\0<=x/\x<18446744073709551616 then some (hexDs 16 x.toNat) else none
def Cq(_:Nat)(a:List dy)(i:Int)(e:List dy):Option (List dy):=if 0<=i/\i<=a.length/\e.length=1/\a.length<4294967296 then some (a.take i.toNat++e++a.drop i.toNat) else none
def zv(_:Nat)(a:List dy)(i j:Int):Option (List dy):=if 0<=i/\j=i+1/\j<=a.length/\a.length<4294967296 then some (a.take i.toNat++a.drop j.toNat) else none
def Fx(_:Nat)(a:List Int):Option (List Int):=if a.length<4294967296 then some a else none
def Fy(_:Nat)(a:List dy):Option (List dy):=if a.length<4294967296 then some a else none
def FA(_:Nat)(a:List eD):Option (List eD):=if a.length<4294967296 then some a else none
def FB(_:Nat)(a:List dt):Option (List dt):=if a.length<4294967296 then some a else none
def FC(_:Nat)(b s:cq):Option (Int×Bool×cq):=if 1<=s.length/\b.length+s.length<=140737488355328 then some ((s.length:Int),false,b++s) else none
def P0:cq:=List.replicate 140737488355329 0
def abJ:P0.length=140737488355329:=Zr
def IZ(_:Nat)(b:cq):Option (cq×cq):=if 1<=b.length/\b.length<=140737488355328 then some (b,P0) else none
end Go.Ev
namespace Go.Sd
open Go Go.RowKit
open Go.Ev hiding World cY Rd
open Go.Proofs
section
structure pP (R:Type) where
 si:Live
 so:Live
 L:Nat->si.V->(so.V->Option R)->Option R
def xn{R:Type}(n:Nat):List (Nat×pP R)->Nat->Option (Qs R)|[],_=>none|(i,s)::l,id=>bif Nat.beq i id then some ⟨s.si,s.so,s.L n⟩ else xn n l id
structure Fz where
 fz:List Nat:=[]
 X9:List (Nat×Nat):=[]
 fzs:Bool:=true
 vK:Bool:=false
 al:List Nat:=[]
 vs:List Nat:=[]
 pre:Nat->List Pl:=λ_=>[]
def uu(W:World)(i:Nat):Option Obj:=bif Nat.blt i 10 then W.heap[i]? else none
def uv(W:World)(q:Fz)(a:List (Nat×Nat×gN)):Cx:=⟨GV,sN,λp=>match p with|.cD k=>q.fz.contains k|.cell k c=>q.X9.contains (k,c)|.sub _ _ _ _=>q.fzs,q.vK,λk=>fZ k q.al,λk=>fZ k q.vs,q.pre,GB a,uu W⟩
def Ao(W:World)(q:Fz)(e:List (Nat×Nat×gN))(n:Nat)(j:Nat)(u:List ResultVar)(c:gN)(g0:j7 c.rs×n8 c.ps->c.X)(a:List (Nat×pP c.X)):Ctx c.X:=⟨uv W q e,xn n a,Pp GV j u c.ps c.rs g0⟩
abbrev lq(W:World)(f:Nat)(c:gN):Prop:=Enters Tryz.prog f/\Gl Tryz.prog sN (uu W) f c
def eV(W:World):List (Nat×Nat×gN)->Prop|[]=>True|e::l=>lq W e.1 e.2.2/\eV W l
def PA{W:World}{C:Cx}(e:C.gl=sN)(j:C.gb=uu W):∀{l:List (Nat×Nat×gN)},eV W l->∀g h c,GB l g h=some c->Enters Tryz.prog g/\Gl Tryz.prog C.gl C.gb g c
 |[],_,g,h,c,a=>by simp[GB] at a
 |(x,y,E)::l,u,g,h,c,a=>by
  have A:∀b:Bool,(bif (bif Nat.beq x g then b else false) then some E else GB l g h)=some c->Enters Tryz.prog g/\Gl Tryz.prog C.gl C.gb g c:=λb a=>by
   cases D:Nat.beq x g with
   |false=>rw[D] at a;exact PA e j u.2 g h c a
   |true=>
    rw[D] at a
    cases b with
    |false=>exact PA e j u.2 g h c a
    |true=>
     have:=gU D
     subst this
     have:=gV (show some E=some c from a)
     subst this
     rw[e,j]
     exact u.1
  exact A _ a
section
variable{R:Type}
def GZ(D:Ctx R)(code:Code):List (Nat×pP R)->Prop|[]=>True|e::l=>((∀v k,e.2.L 0 v k=none)/\∀m v k,e.2.L (m+1) v k=Gn D e.1 (Gd e.1 code) e.2.si e.2.so (e.2.L m) v k)/\GZ D code l
def Uh{D:Ctx R}{code:Code}{n id:Nat}{s:Qs R}:∀{l:List (Nat×pP R)},GZ D code l->xn n l id=some s->∃q:pP R,s=⟨q.si,q.so,q.L n⟩/\(∀v k,q.L 0 v k=none)/\∀m v k,q.L (m+1) v k=Gn D id (Gd id code) q.si q.so (q.L m) v k
 |[],_,h=>by simp[xn] at h
 |(i,q)::l,e,h=>by
  simp only[xn] at h;cases a:Nat.beq i id with
  |false=>rw[a] at h;exact Uh e.2 h
  |true=>
   rw[a] at h;have:=gU a;subst this;cases h;exact⟨q,rfl,e.1⟩
def RA{n id:Nat}:∀{l:List (Nat×pP R)},fZ id (l.map (·.1))=true->∃s,xn n l id=some s
 |[],h=>by simp[fZ] at h
 |(i,q)::l,h=>by
  simp only[xn];cases a:Nat.beq i id with
  |true=>exact⟨_,rfl⟩
  |false=>
   simp only[cR];refine RA ?_;have:=kf.1 h;simp only[lz,eG] at this;rcases this with e|e
   ·subst e;simp at a
   ·exact kf.2 e
def Gv:List Nat->Bool|[]=>true|x::l=>!fZ x l&&Gv l
def RB{id:Nat}{c:Code}:∀{l:List (Nat×Code)},Gv (l.map (·.1))=true->(id,c)∈l->JX id l=c
 |[],_,h=>by simp at h
 |(i,u)::l,a,h=>by
  simp only[lz,Gv,dF,lO] at a;simp only[JX];rcases eG.1 h with e|h
  ·cases e;simp
  ·cases j:Nat.beq i id with
   |true=>
    have:=gU j;subst this;have:=kf.2 (ik.2 ⟨_,h,rfl⟩:i∈l.map (·.1));rw[this] at a;simp at a
   |false=>exact RB a.2 h
def uT{P:Program}{D:Ctx R}{M n:Nat}(E:P.follows .mixedOrders=true)(hC:ga P D.c)(F:re P D.c)(y:Gm P D.c M){u:Code}{C:List (Nat×pP R)}(H:D.loops=xn n C)(I:GZ D u C)(J:Gv ((l9 u).map (·.1))=true)(j:((l9 u).all λp=>fZ p.1 (C.map (·.1))&&lU P D.c M p.2)=true):
  ∀(c:Code),(∀p∈l9 c,p∈l9 u)->tF P D M c
 |.seq a b,h=>⟨uT E hC F y H I J j a λp A=>h p (by simp[l9,A]),uT E hC F y H I J j b λp A=>h p (by simp[l9,A])⟩
 |.cond x a b,h=>⟨uT E hC F y H I J j a λp A=>h p (by simp[l9,A]),uT E hC F y H I J j b λp A=>h p (by simp[l9,A])⟩
 |.block id (.loop c),h=>by
  have A:=h (id,c) (by simp[l9]);have N:=jC.1 j _ A;simp only[dF] at N;obtain⟨s,Q⟩:=RA (R:=R) (n:=n) N.1;obtain⟨q,rfl,U,S⟩:=Uh I Q;have e:Gd id u=c:=RB J A;rw[e] at S;exact aeC E hC F y (by rw[H];exact Q) U S N.2 (uT E hC F y H I J j c λp A=>h p (by simp[l9,A]))
 |.block id .skip,h=>trivial
 |.block id (.region _ _ _),h=>trivial
 |.block id (.seq a b),h=>uT E hC F y H I J j (.seq a b) h
 |.block id (.cond x a b),h=>uT E hC F y H I J j (.cond x a b) h
 |.block id (.block i b),h=>uT E hC F y H I J j (.block i b) h
 |.block id (.rangeFunc _ _ _ _),h=>trivial
 |.block id (.exit _),h=>trivial
 |.block id (.scope _),h=>trivial
 |.block id (.label _),h=>trivial
 |.block id (.goto _),h=>trivial
 |.block id .ret,h=>trivial
 |.block id (.refuse _),h=>trivial
 |.skip,h=>trivial
 |.region _ _ _,h=>trivial
 |.loop _,h=>trivial
 |.rangeFunc _ _ _ _,h=>trivial
 |.exit _,h=>trivial
 |.scope _,h=>trivial
 |.label _,h=>trivial
 |.goto _,h=>trivial
 |.ret,h=>trivial
 |.refuse _,h=>trivial
end
def cx0:(GV.all λp=>jq Tryz.prog ⟨GV,λ_=>.un,λ_=>true,true,λ_=>true,λ_=>true,λ_=>[],λ_ _=>none,λ_=>none⟩ p.1 p.2)=true:=by kernel_rfl
def SO{Q:TV->Prop}(a:∀(l:List Int),Q (.iv (.int .u32) l))(e:Q .un)(i:Nat):Q (sN i):=by
 unfold sN;cases Nat.beq i 0<;>cases Nat.beq i 2<;>first|exact a _|exact e
def aam(P:Program){C j:Cx}(h:C.ty=j.ty)(n:Nat)(ti:TI):jq P C n ti=jq P j n ti:=by
 obtain⟨y,a,b,c,d,e,f,g,A⟩:=C;obtain⟨u,D,E,F,H,I,J,M,x⟩:=j;simp only at h;subst h;rfl
def ag1(W:World)(q:Fz)(a:List (Nat×Nat×gN)):ga Tryz.prog (uv W q a):=⟨λn=>agD (C:=uv W q a) (by
 have e:(λp:Nat×TI=>jq Tryz.prog (uv W q a) p.1 p.2)=λp=>jq Tryz.prog ⟨GV,λ_=>.un,λ_=>true,true,λ_=>true,λ_=>true,λ_=>[],λ_ _=>none,λ_=>none⟩ p.1 p.2:=funext λp=>aam _ rfl _ _
 rw[e]
 exact cx0) n,λi=>SO (Q:=λv=>gB v=true) (λ_=>rfl) rfl i⟩
def af1(i:Nat):(∀p,¬ MV p (sN i))/\∀k,¬ MB k (sN i):=SO (Q:=λv=>(∀p,¬ MV p v)/\∀k,¬ MB k v) (λ_=>⟨λ_ h=>(by cases h),λ_ h=>by cases h⟩) ⟨λ_ h=>(by cases h),λ_ h=>by cases h⟩ i
noncomputable def Lu(W:World)(a:Func)(e:Nat)(q:Fz)(j:List (Nat×Nat×gN))(c:gN)(u:List Nat):Bool:=
 a.body.isSome&&(Nat.beq a.ntmps e&&Nat.blt e 2047&&!(a.name== "runtime.NumGoroutine")&&lU Tryz.prog (uv W q j) e (a.body.getD .skip)&&sC (uv W q j) e 0 c.ps&&Nat.ble c.ps.length e&&a.results.toList.all (Dq e)&&Gv ((l9 (a.body.getD .skip)).map (·.1))&&(l9 (a.body.getD .skip)).all λp=>fZ p.1 u&&lU Tryz.prog (uv W q j) e p.2)
def aeQ(W:World)(f:Nat)(A:Func)(nt:Nat)(c:gN)(n:Nat)(q:Fz)(j:List (Nat×Nat×gN))(g0:j7 c.rs×n8 c.ps->c.X)(u:List (Nat×pP c.X))(E:List Nat)(F:u.map (·.1)=E)(M:∀y,c.back (g0 y)=y)
  (Y:Tryz.prog.funcs[f]?=some A)(Z:eV W j)(hS:GZ (Ao W q j n nt A.results.toList c g0 u) (A.body.getD .skip) u)
  (I:Lu W A nt q j c E=true)(N:∀a,Ha (Ao W q j n nt A.results.toList c g0 u) nt (A.body.getD .skip) c.ps a=c.f a):lq W f c:=by
 subst F;simp only[Lu,dF] at I;obtain⟨J,⟨⟨⟨⟨⟨⟨⟨P,h2⟩,S⟩,h4⟩,h5⟩,h6⟩,h7⟩,h8⟩,h9⟩:=I;have P:=gU P;have J:A.body=some (A.body.getD .skip):=by
  cases Q:A.body with
  |none=>rw[Q] at J;simp at J
  |some x=>rfl
 have U:Tryz.prog.follows .mixedOrders=true:=rfl;have hC:ga Tryz.prog (uv W q j):=ag1 W q j;have D:re Tryz.prog (uv W q j):=⟨λg h c I=>PA (C:=uv W q j) rfl rfl Z g h c I⟩;have H:=aeP hC D (nt:=nt) (by simpa[s6] using h2);exact agV U Y J P (λe=>by rw[e] at S;simp at S) (Ao W q j n nt A.results.toList c g0 u) hC D H af1 rfl M h4 (uT U hC D H rfl hS h8 h9 _ λ_ h=>h) h5 (Zw h6) (λv hv=>jC.1 h7 v hv) (λa y h=>by rw[N];exact h)
def aeR(W:World)(f:Nat)(j:Func)(c:gN)(D:Tryz.prog.funcs[f]?=some j)(u:(j.body.isSome&&!(j.name== "runtime.NumGoroutine"))=true)(h:∀a,c.f a=none):lq W f c:=by
 simp only[dF] at u;refine⟨⟨j,D,λe=>?_,?_⟩,λH w A E x y _ _ _ C=>by rw[h] at C;cases C⟩
 ·rw[e] at u;simp at u
 ·cases F:j.body with
  |none=>rw[F] at u;simp at u
  |some x=>rfl
end
end Go.Sd
