/- The evaluator is sound, second part: operations. No conditions. -/
import Derived.Great.BuildSlice
import Derived.Deep.Upon
import Derived.Test.YtfnlbejcgjlclaaGreatDoorA
set_option linter.all false
namespace Go.Sd
open Go Go.RowKit
open Go.Ev hiding World Event Rd
section
def dU(s:TS)(x:Operand)(q:Rt):Prop:=∃k,x=.tmp k/\(q=.slot k\/∃p,MV p (s.slot k)/\(gp p).1=q)
theorem dU.less{s e:TS}{x:Operand}{q:Rt}(h:dU e x q)(j:eX e s):dU s x q:=by
 obtain⟨k,rfl,h⟩:=h;exact⟨k,rfl,h.imp id λ⟨p,u,y⟩=>⟨p,j k p u,y⟩⟩
theorem dU.z{s:TS}{x:Operand}{q:Rt}(h:qR x q):dU s x q:=by
 obtain⟨k,e,j⟩:=h;exact⟨k,e,.inl j⟩
theorem SP{tv u:TV}{p:Pl}(e:u∈cellsOf tv)(x:MV p u)(y:∀j,tv=.agg j->∀u∈j,kg u=true):MV p tv:=by
 cases tv with
 |agg j=>
  simp only[cellsOf] at e;exact Vp (y j rfl u e) e x
 |_=>simp only[cellsOf,fM] at e;subst e;exact x
theorem uG{C:Cx}{s:TS}(A:∀i p,¬ MV p (C.gl i)){x:Operand}{p:Pl}(h:MV p (cZ C s x)):dU s x (gp p).1:=by
 cases x with
 |tmp k=>
  refine⟨k,rfl,?_⟩;simp only[cZ] at h;unfold mU at h;split at h
  ·cases e:C.vs k<;>rw[e] at h<;>cases h;exact .inl rfl
  ·cases e:C.vs k<;>rw[e] at h<;>cases h;exact .inl rfl
  ·exact .inr ⟨p,h,rfl⟩
 |const v=>
  simp only[cZ] at h;have j:∀v,¬ MV p (qh v):=λv h=>by unfold qh at h;split at h<;>cases h
  cases v with
  |agg D=>
   simp only[xk] at h;cases h with
   |agg _ t y=>
    simp only[gR] at y;obtain⟨a,_,u⟩:=y;unfold qh at u;split at u<;>simp at u
  |_=>rw[FC _ (by simp)] at h;exact absurd h (j _)
 |global i=>exact absurd h (A i p)
 |func n=>simp only[cZ] at h;cases h
theorem aaq(s:TS)(x:Operand):eX (ir s x) s:=by
 cases x with
 |tmp k=>
  simp only[ir];split
  ·exact eX.raw _ _ (λp e=>by cases e)
  ·exact eX.raw _ _ (λp e=>by cases e)
  ·exact .refl _
 |_=>exact .refl _
theorem MJ{c:Rc}{m:Option Gp}{tv:TV}{v:Value}(h:Rd c m tv v)(e:dC tv=true):v.oneCell'=true/\v.cells=#[v]:=by
 cases h<;>first|exact⟨rfl,rfl⟩|(simp[dC] at e)
theorem QG{c:Rc}{n:Nat}{tv:TV}{v:Value}(h:Rd c (some (.cC n,[])) tv v)(M:(∃cs,tv=.agg cs)\/(∃cs,tv=.eY cs)\/gf tv=true):
  ∃F:List Value,F.length=(cellsOf tv).length/\(∀(j:Nat)x D,(cellsOf tv)[j]?=some x->F[j]?=some D->qk c (.cC n,[(0,0+j)]) x D)/\((∃cs,tv=.agg cs/\v=.agg F.toArray/\(∀u∈cs,kg u=true)/\∀u∈F,u.oneCell'=true)\/((∀cs,tv≠.agg cs)/\F=[v])):=by
 rcases M with⟨cs,rfl⟩|⟨cs,rfl⟩|I
 ·cases h with
  |agg _ _ N Q S U Y=>
   refine⟨N.toList,by simpa[cellsOf] using S,λj x D y A=>?_,.inl ⟨cs,rfl,by simp,Q,λu hu=>?_⟩⟩
   ·have:=(Y j x D y (by simpa using A)).Gx;simpa using this
   ·obtain⟨j,y,he⟩:=pD hu;simp at y;have:=U j _ u (eA (by omega)) (by rw[ju y,<-he];simp);exact this
 ·refine⟨[v],rfl,λj x D y A=>?_,.inr ⟨by simp,rfl⟩⟩;cases j with
  |zero=>
   simp[cellsOf] at y A;subst y;exact⟨λp t e=>by simp at e,λp t lo hi e=>by simp at e,λe=>by simp[dC] at e⟩
  |succ j=>simp at A
 ·have J:∀cs,tv≠.agg cs:=λcs e=>by subst e;simp[gf] at I
  have H:cellsOf tv=[tv]:=by cases tv<;>first|rfl|simp[gf] at I
  refine⟨[v],by rw[H];rfl,λj x D y A=>?_,.inr ⟨J,rfl⟩⟩;rw[H] at y;cases j with
  |zero=>simp at y A;subst y;subst A;exact(h.anyM I _).Gx
  |succ j=>simp at A
section
variable{P:Program}{C:Cx}{E:Env}{nt n:Nat}{o:Oper}{s f:TS}{g g1:Gs}{a:Act}{w w1:World}{R:Type}{r:R}{K:TS->Option R}{Z:Rt->Prop}{γ1:Nat->G}{tv:TV}{v:Value}{X:Rt->dh->Prop}{nb:Nat->Prop}
theorem Kd(hC:fK P C)(h:Rel C E s g w)(l:eb nt g a){x:Operand}(hx:fe nt x=true){m:Bool->Pl->Bool}{K:List TV->TS->Option R}(n:Nat)(hk:pn C m (cellsOf (cZ C s x)) (ir s x) K=some r):
  ∃e F A,K e F=some r/\Rel C E F {g with γ:=A} w/\(a.eval x).cells.toList.length=e.length/\e.length=(cellsOf (cZ C s x)).length/\(∀tv∈e,dC tv=true)/\
   (∀(j:Nat)tv v,e[j]?=some tv->(a.eval x).cells.toList[j]?=some v->Rd (Gs.rc C {g with γ:=A} w) (some (.cC n,[(0,j)])) tv v/\v.oneCell'=true)/\FK (dU s x) g.γ A/\eX F s:=by
 obtain⟨γ1,h1,Q,hf⟩:=CI (n:=n) h l hC.gl hx;obtain⟨xs,H,U,I⟩:=QG Q (Ic hC.gl);obtain⟨e,F,A,h2,h3,S,Y,h6,h7,h8⟩:=OI (n:=n) (j0:=0) (cellsOf (cZ C s x)) h1 H U hk;have y:(a.eval x).cells.toList=xs:=by
  rcases I with⟨cs,_,J,_⟩|⟨D,rfl⟩
  ·rw[J];rfl
  ·have aa:cellsOf (cZ C s x)=[cZ C s x]:=by
     cases ho:cZ C s x<;>first|rfl|exact absurd ho (D _)
   rw[aa] at S
   match e,S with
   |[M],_=>
    have:=h6 0 M (a.eval x) rfl rfl;rw[(MJ this (Y M (by simp))).2]
 refine⟨e,F,A,h2,h3,by rw[y,H,S],S,Y,λj tv v hj Q=>?_,(hf.mono (λq hq=>dU.z hq)).trans (h7.mono (λq hq=>?_)),h8.trans (aaq s x)⟩
 ·rw[y] at Q;have h9:=h6 j tv v hj Q;rw[ia] at h9;exact⟨h9,(MJ h9 (Y tv (eT hj))).1⟩
 ·obtain⟨u,hu,p,hp,rfl⟩:=hq;refine uG (λi=>(h.kM i).1) (SP hu hp (λcs N=>?_));rcases I with⟨ad,J,_,ab,_⟩|⟨D,_⟩
  ·rw[N] at J;simp only[TV.agg.injEq] at J;subst J;exact ab
  ·exact absurd N (D _)
theorem Rel.aeQ(h:Rel C E s g w){I:Array Value}(F:zu w w1 I){d n:Nat}{u:BC}
  (J:tw (Gs.rc C ⟨iu (dP g.γ (.cC n) [] (.box d) []) w.heap.size (.at (.box d) []),λk=>if k=d then w.heap.size else g.bx k,g.tm⟩ w1) d u):
  Rel C E ((s.fS d).bx d u) ⟨iu (dP g.γ (.cC n) [] (.box d) []) w.heap.size (.at (.box d) []),λk=>if k=d then w.heap.size else g.bx k,g.tm⟩ w1/\
  dA (eC (.cC n) []) g.γ w (iu (dP g.γ (.cC n) [] (.box d) []) w.heap.size (.at (.box d) [])) w1:=by
 have H:∀b,w.heap.size<=b->dP g.γ (.cC n) [] (.box d) [] b=.fr:=λb M=>EI (h.cI.new b M);have j:dA (eC (.cC n) []) g.γ w (iu (dP g.γ (.cC n) [] (.box d) []) w.heap.size (.at (.box d) [])) w1:=
  ((oG h.cI.new (q1:=.cC n) (p1:=[]) (q2:=.box d) (p2:=[])).trans (NW F H (.at (.box d) []) (λ_ _=>False))).mono (λq p hx=>hx.elim id (λN=>N.elim));refine⟨(h.fS d).mV (s':=(s.fS d).bx d u) j (λk=>.inr ⟨rfl,rfl,λp hx=>by simp[eC] at hx,?_⟩) (λk=>?_),j⟩
 ·have A:∀p,MV p ((s.fS d).slot k)->(gp p).1≠.box d:=λp x e=>by
    rw[A9] at x
    have:=(sR (SD x)).2
    rw[uy.2 e] at this
    simp at this
  have D:∀p,MV p ((s.fS d).slot k)->VO (g.rc C w) p->_:=λp x y=>mM (C:=C) (g:=g) (g':=⟨iu (dP g.γ (.cC n) [] (.box d) []) w.heap.size (.at (.box d) []),λk=>if k=d then w.heap.size else g.bx k,g.tm⟩) j p y (nO j λq Q _ hx=>iV q n hx.1) (λ_ _ _=>rfl)
   (λi hi=>⟨cK (λe=>A p x (by rw[<-e];exact yK.1 hi)),λhx=>by simp[eC] at hx⟩);exact⟨λi hi=>cK (λe=>by rw[A9] at hi;exact(SC hi).2 e),λp x=>⟨(D p x (((h.fS d).fD k).s9 x)).1,λy=>(D p x y).2⟩,λp x S hx=>iV p n hx.1⟩
 ·by_cases A:k=d
  ·subst A
   left
   rcases uj (s.fS k) k u with e|e<;>rw[e]
   ·exact J
   ·trivial
  ·exact .inr ⟨ui _ u A,cK A,λp hx=>by simp[eC] at hx⟩
theorem NX(h:Rel C E f {g with γ:=γ1} w)(F:FK Z g.γ γ1)(H:∀b,w.heap.size<=b->g.γ b=.fr)(l:eb nt g a){d n:Nat}(j:o.dst=some d)(I:gN nt o.dst){J:Array Value}(y:zu w w1 J){u:BC}
  (M:tw (Gs.rc C ⟨iu (dP γ1 (.cC n) [] (.box d) []) w.heap.size (.at (.box d) []),λk=>if k=d then w.heap.size else g.bx k,g.tm⟩ w1) d u)
  (N:(execOp a.eval o).run P w=.ok (.value (.pointer (some ⟨w.heap.size,0,none⟩))) w1)(A:K (((f.fS d).bx d u).put C d (.ptr d 0))=some r):kG P C E nt o g a w K r Z (λ_ _=>False) (λk=>o.dst=some k):=by
 obtain⟨Q,S⟩:=h.aeQ y (n:=n) M;have D:=Rd.ptr (c:=Gs.rc C ⟨iu (dP γ1 (.cC n) [] (.box d) []) w.heap.size (.at (.box d) []),λk=>if k=d then w.heap.size else g.bx k,g.tm⟩ w1) (some (.cC 0,[])) d 0;have U:(if d=d then w.heap.size else g.bx d)=w.heap.size:=cJ rfl;simp only[Gs.rc,U] at D;refine BD (n:=0) Q rfl (λk A=>cK (λe=>A (by rw[j,e]))) ?_ l I D N (by rw[j];exact A);refine((F.gi H).trans S).mono (λq p hx=>.inl ?_);rcases hx with⟨hx,x⟩|hx
 ·exact⟨.inl hx,x⟩
 ·exact⟨.inr ⟨n,hx.1⟩,λx=>by rw[hx.1] at x;simp[kE] at x⟩
theorem aeR(hC:fK P C)(h:Rel C E s g w)(l:eb nt g a)(hd:gN nt o.dst){t:Nat}{x:Operand}(ho:o.op=.box t x)(hx:fe nt x=true)(A:Ev.step C o s K=some r):kG P C E nt o g a w K r (dU s x) (λ_ _=>False) (λk=>o.dst=some k):=by
 simp only[Ev.step,ho] at A;split at A
 ·rename_i d F;split at A
  ·have H:(execOp a.eval o).run P w=.ok (.value (.pointer (some ⟨w.heap.size,0,none⟩))) (w.alloc (.cells (a.eval x).cells t)):=by
     simp[execOp,ho,Instr.box,newVar,newRow]
   have D:∀{Q Y y},Rel C E Y {g with γ:=y} w->(a.eval x).cells.toList.length=Q.length->(∀tv∈Q,dC tv=true)->(∀(j:Nat)tv v,Q[j]?=some tv->(a.eval x).cells.toList[j]?=some v->Rd (Gs.rc C {g with γ:=y} w) (some (.cC 0,[(0,j)])) tv v/\v.oneCell'=true)->
     FK (dU s x) g.γ y->K (((Y.fS d).bx d (.cells Q)).put C d (.ptr d 0))=some r->kG P C E nt o g a w K r (dU s x) (λ_ _=>False) (λk=>o.dst=some k):=by
    intro Q Y y h1 hl hp hr hf A
    refine NX (n:=0) h1 hf h.cI.new l F hd (vP w (a.eval x).cells t) ?_ H A
    obtain⟨e,fr,hh,hu,_⟩:=(vP w (a.eval x).cells t).new
    have he:(if d=d then w.heap.size else g.bx d)=w.heap.size:=cJ rfl
    have aa:∀b,w.heap.size<=b->dP y (.cC 0) [] (.box d) [] b=.fr:=λb S=>EI (h1.cI.new b S)
    have I:=NW (vP w (a.eval x).cells t) aa (.at (.box d) []) (λ_ _=>False)
    refine⟨(a.eval x).cells,e,fr,by simp only[Gs.rc,he];exact hh,hu,by simp only[Gs.rc,he];exact pO,by simpa using hl,λtv ab=>rb (hp tv ab),λj tv v hj N=>?_⟩
    have ad:(a.eval x).cells.toList[j]?=some v:=by simpa using N
    obtain⟨h5,h6⟩:=hr j tv v hj ad
    refine⟨h6,?_⟩
    have J:=hp tv (eT hj)
    refine h5.mono _ (λb S=>?_) (λq p hq=>?_) (λi hi=>absurd hi (kz J i)) (λp M=>absurd M (fZ J p)) (λp M=>absurd M.mv (fZ J p))
    ·exact I.im b (qx S)
    ·simp only[cW,eE] at hq;obtain⟨rfl,rfl⟩:=hq;refine⟨_,_,rfl,λb π S=>?_⟩;have ae:dP y (.cC 0) [] (.box d) [] b=.at (.box d) ([(0,j)]++π):=by
      have:=yN (q2:=.box d) (p2:=[]) (γ:=y) (q1:=.cC 0) (p1:=[]) (π:=[(0,j)]++π) (b:=b) (by have af:y b=_:=S;simpa using af)
      simpa using this
     exact I.at' b _ _ ae (λhf=>hf)
   split at A
   ·rename_i t' xs ah;have N:=iF h l hx;rw[ah] at N;obtain⟨he,ai⟩:a.eval x=.agg (xs.map (jE t')).toArray/\Ev.gk t'=false:=by
     generalize iK x=m at N;generalize a.eval x=u at N;cases N;exact⟨rfl,by assumption⟩
    refine NX (n:=0) (γ1:=g.γ) h (.refl _) h.cI.new l F hd (vP w (a.eval x).cells t) ?_ H A;obtain⟨e,fr,hh,hu,_⟩:=(vP w (a.eval x).cells t).new;have U:(if d=d then w.heap.size else g.bx d)=w.heap.size:=cJ rfl;exact⟨(a.eval x).cells,e,fr,by simp only[Gs.rc,U];exact hh,hu,by simp only[Gs.rc,U];exact pO,ai,by rw[he];rfl⟩
   ·obtain⟨aj,Y,y,h1,h2,h3,h4,h5,h6,h7,h8⟩:=Kd hC h l hx 0 A;exact D h2 h3 h5 h6 h7 h1
  ·simp at A
 ·simp at A
end
end
section
def iw(u:Nat->G)(n:Nat)(j:Nat->Gp):Nat->G:=λb=>
 match u b with
 |.at (.cC i) ((x,c)::p)=>if i=n/\x=0 then .at (j c).1 ((j c).2++p) else .at (.cC i) ((x,c)::p)
 |x=>x
theorem adu{x:Nat->G}{n b j:Nat}{u:Nat->Gp}{p:dh}(h:x b=.at (.cC n) ((0,j)::p)):iw x n u b=.at (u j).1 ((u j).2++p):=by simp[iw,h]
theorem Jz{j:Nat->G}{n b:Nat}{y:Nat->Gp}{q:Rt}{p:dh}(h:j b=.at q p)(A:q≠.cC n):iw j n y b=.at q p:=by
 unfold iw;rw[h];split
 ·rename_i i x c F u;simp only[G.at.injEq] at u;obtain⟨rfl,rfl⟩:=u;rw[cK (λD=>A (by rw[D.1]))]
 ·rfl
theorem Fh{γ:Nat->G}{n:Nat}{τ:Nat->Gp}:FK (λq=>q=.cC n) γ (iw γ n τ) where
 im:=λb h=>by simp[iw,h]
 at':=λb q p h u=>Jz h (λj=>by have:=u j;simp[kE,j] at this)
 fr:=λb h=>by simp[iw,h]
theorem Rd.Lc{c A:Rc}{n j:Nat}{τ:Nat->Gp}{tv:TV}{v:Value}(h:Rd c (some (.cC n,[(0,j)])) tv v)(x:dC tv=true)(F:A={c with γ:=iw c.γ n τ}):Rd A (some (τ j)) tv v:=by
 subst F;refine h.mono _ (λb y=>⟨Fh.im b y,rfl⟩) (λq p D=>?_) (λi hi=>absurd hi (kz x i)) (λp u=>absurd u (fZ x p)) (λp u=>absurd u.mv (fZ x p));simp only[cW,eE] at D;obtain⟨rfl,rfl⟩:=D;exact⟨_,_,rfl,λb H y=>⟨adu (by simpa using y),rfl⟩⟩
section
variable{C:Cx}{E:Env}{s:TS}{g:Gs}{w:World}{γ':Nat->G}
theorem Rel.pV(h:Rel C E s g w)(j:FK (λq=>∃n,q=.cC n) g.γ γ'):Rel C E s {g with γ:=γ'} w:=h.grow (j.gi h.cI.new) (λq p hx=>hx.1)
theorem Rd.xt{Z:Rt->Prop}{m:Option Gp}{tv:TV}{v:Value}(h:Rd (g.rc C w) m tv v)(j:fy tv=true)(y:FK Z g.γ γ')(A:∀q p,m=some (q,p)->¬ Z q):Rd (Gs.rc C {g with γ:=γ'} w) m tv v:=by
 rcases Vo j with j|rfl
 ·exact h.same (λb x=>⟨y.im b x,rfl⟩) (λq p u b D x=>⟨y.at' b _ _ x (λhz=>absurd hz (A q p u)),rfl⟩) (λi hi=>absurd hi (kz j i)) (λp u=>absurd u (fZ j p)) (λp u=>absurd u.mv (fZ j p))
 ·exact .un _ _
end
theorem RJ{s:TS}{x:Operand}{n:Nat}:¬ dU s x (.cC n):=by
 rintro⟨k,_,h|⟨p,_,h⟩⟩
 ·simp at h
 ·exact iV p n h
theorem QH:∀(l:List Value)(j:Array Value)(u y:Nat),((l.zipIdx y).foldl (λA(x:Value×Nat)=>A.setIfInBounds (u+x.2) x.1) j).size=j.size/\
  ∀k,((l.zipIdx y).foldl (λA(x:Value×Nat)=>A.setIfInBounds (u+x.2) x.1) j)[k]?=if u+y<=k/\k<u+y+l.length/\k<j.size then l[k-(u+y)]? else j[k]?
 |[],j,u,y=>⟨rfl,λk=>by simp only[List.zipIdx_nil,GY,jx];rw[cK (by omega)]⟩
 |v::l,j,u,y=>by
  obtain⟨I,J⟩:=QH l (j.setIfInBounds (u+y) v) u (y+1);simp only[List.zipIdx_cons,vt];refine⟨by rw[I];simp,λk=>?_⟩;rw[J k];simp only[GZ,fY]
  by_cases F:u+y=k
  ·subst F;rw[cK (by omega)]
   by_cases D:u+y<j.size
   ·rw[cJ (by omega),ah1 D,vq];rfl
   ·rw[cK (by omega),xH (by simp;omega),xH (by omega)]
  ·rw[Yt F]
   by_cases H:u+(y+1)<=k/\k<u+(y+1)+l.length/\k<j.size
   ·rw[cJ H,cJ (by omega)];rw[show k-(u+y)=(k-(u+(y+1)))+1 by omega,Yv]
   ·rw[cK H,cK (by omega)]
theorem RL{place:Nat->Option (Nat×Nat)}{cells:Array Value}{i off x:Nat}{v:Value}{rest:List (Nat×Value)}(A:place i=some (off,x))(F:v.cells.size=x)(H:off+x<=cells.size):
  ∃u:Array Value,Instr.fill place cells ((i,v)::rest)=Instr.fill place u rest/\u.size=cells.size/\(∀j,j<x->u[off+j]?=v.cells[j]?)/\(∀k,¬ (off<=k/\k<off+x)->u[k]?=cells[k]?):=by
 obtain⟨D,y⟩:=QH v.cells.toList cells off 0;refine⟨_,?_,D,λj I=>?_,λk J=>?_⟩
 ·simp only[Instr.fill,A];rw[cK (by simp;omega),<-Array.foldl_toList,Array.toList_zipIdx]
 ·rw[y,cJ (by simp;omega)];simp
 ·rw[y,cK (by simp;omega)]
structure Ld(c:Rc)(q:Rt)(z:List TV)(arr:Array Value):Prop where
 len:arr.size=z.length
 rd:∀(j:Nat)tv v,z[j]?=some tv->arr[j]?=some v->fy tv=true/\v.oneCell'=true/\Rd c (some (q,[(0,j)])) tv v
section
variable{P:Program}{C:Cx}{E:Env}{nt n:Nat}{o:Oper}{s e:TS}{g g1:Gs}{a:Act}{w d:World}{R:Type}{r:R}{K:TS->Option R}{Z:Rt->Prop}{γ1:Nat->G}{tv:TV}{v:Value}{X:Rt->dh->Prop}{nb:Nat->Prop}
theorem Up(hC:fK P C){fs:List (Nat×Nat)}{place:Nat->Option (Nat×Nat)}(y:∀i u U,nv fs i=some (u,U)->place i=some (u,(C.cX U).sz))(l:eb nt g a){s0:TS}{Z:Rt->Prop}:∀(parts:List (Nat×Operand)){s:TS}{z:List TV}{γ:Nat->G}{arr:Array Value}{K:List TV->TS->Option R},
  Rel C E s {g with γ:=γ} w->(∀p∈parts,fe nt p.2=true)->(∀p∈parts,∀q,dU s0 p.2 q->Z q)->eX s s0->Ld (Gs.rc C {g with γ:=γ} w) (.cC 0) z arr->fill C fs parts z s K=some r->
  ∃z' s' γ' qa,K z' s'=some r/\Rel C E s' {g with γ:=γ'} w/\Ld (Gs.rc C {g with γ:=γ'} w) (.cC 0) z' qa/\Instr.fill place arr (parts.map λp=>(p.1,a.eval p.2))=some qa/\FK (λq=>Z q\/∃n,q=.cC n) γ γ'
 |[],s,z,γ,arr,K,h,_,_,_,Y,H=>⟨z,s,γ,arr,H,h,Y,rfl,.refl _⟩
 |(i,x)::parts,s,z,γ,arr,K,h,hx,hZ,hl,Y,H=>by
  simp only[fill] at H;split at H
  ·rename_i u U hf;obtain⟨A,H⟩:=dM.1 H;obtain⟨M,H⟩:=dM.1 H;have A:=gw A;rw[wD] at A;have M:=uq.1 M;obtain⟨D,s',γ1,h1,h2,h3,h4,h5,h6,h7,h8⟩:=Kd (g:={g with γ:=γ}) hC h (l.same rfl) (hx (i,x) (by simp)) 1 H;have ae:D.length=(C.cX U).sz:=by rw[h4,A]
   have N:=Fh (γ:=γ1) (n:=1) (τ:=λj=>(.cC 0,[(0,u+j)]));have aa:Rel C E s' {g with γ:=iw γ1 1 (λj=>(.cC 0,[(0,u+j)]))} w:=h2.pV (g:={g with γ:=γ1}) (N.mono (λq F=>⟨1,F⟩));obtain⟨qa,af,ah,ai,aj⟩:=RL (rest:=parts.map λp=>(p.1,a.eval p.2)) (y _ _ _ hf) (v:=a.eval x) (cells:=arr) ((show(a.eval x).cells.size=D.length by simpa using h3).trans ae) (by rw[Y.len];exact M);have ak:Ld (Gs.rc C {g with γ:=iw γ1 1 (λj=>(.cC 0,[(0,u+j)]))} w) (.cC 0) (o4 z u D) qa:=by
    refine⟨by rw[ah,Y.len,BZ];simp;omega,λj tv v I hv=>?_⟩
    rw[BZ] at I
    by_cases am:u<=j/\j<u+(C.cX U).sz
    ·have J:D[j-u]?=some tv:=by
       rw[jW,pG (by simp;omega),oB (by simp;omega)] at I
       simpa[show min u z.length=u by omega] using I
     have Q:(a.eval x).cells.toList[j-u]?=some v:=by
      have:=ai (j-u) (by omega)
      rw[show u+(j-u)=j by omega,hv] at this
      simpa using this.symm
     obtain⟨h9,S⟩:=h6 _ tv v J Q;have ab:=h5 tv (eT J);refine⟨by simp[fy,ab],S,?_⟩;have:=h9.Lc (τ:=λj=>(.cC 0,[(0,u+j)])) ab rfl;simp only[show u+(j-u)=j by omega] at this;exact this
    ·have Q:arr[j]?=some v:=by rw[<-aj j am];exact hv
     have J:z[j]?=some tv:=by
      by_cases an:j<u
      ·rw[jW,oB (by simp;omega),oz] at I;simpa[an] using I
      ·rw[pG (by simp;omega)] at I;simp only[eS,kh,vp] at I;rw[show u+D.length+(j-(min u z.length+D.length))=j by omega] at I;exact I
     obtain⟨h9,S,ao⟩:=Y.rd j tv v J Q;refine⟨h9,S,?_⟩;have ap:=ao.xt (g:={g with γ:=γ}) (γ':=γ1) h9 h7 (λq p F=>by simp only[cW,eE] at F;rw[<-F.1];exact RJ);exact ap.xt (g:={g with γ:=γ1}) (γ':=iw γ1 1 (λj=>(.cC 0,[(0,u+j)]))) h9 N (λq p F=>by simp only[cW,eE] at F;rw[<-F.1];simp)
   obtain⟨z2,s2,aq,ad,k1,k2,k3,k4,k5⟩:=Up hC y l parts aa (λp hp=>hx p (by simp[hp])) (λp hp=>hZ p (by simp[hp])) (h8.trans hl) ak h1;refine⟨z2,s2,aq,ad,k1,k2,k3,by simp only[lk];rw[af];exact k4,?_⟩;refine((h7.mono (λq F=>.inl (hZ (i,x) (by simp) q (F.less hl)))).trans (N.mono (λq F=>.inr ⟨1,F⟩))).trans k5
  ·simp at H
theorem Nd{t:TypeId}(h:uZ P t=true):∃z,(zeroValue t).run P w=.ok z w/\z.cells.toList=lU P t/\∃i,P.info? t=some i/\i.zero=some z:=by
 obtain⟨i,z,j,u,x⟩:=Ig h;exact⟨z,by simp[zeroValue,typeInfo,j,u],x.symm,i,j,u⟩
theorem abB(h:Rel C E s g w){z:List TV}{u:List Value}(y:j6 z u=true){arr:Array Value}(x:arr.toList=u)(q:Rt):Ld (g.rc C w) q z arr:=by
 obtain⟨A,D⟩:=Ci (c:=g.rc C w) (m:=λj=>some (q,[(0,j)])) y;refine⟨by rw[<-A,<-x];simp,λj tv v F H=>?_⟩;obtain⟨I,J,M⟩:=D j tv v F (by rw[<-x];simpa using H);exact⟨M,J,I⟩
theorem RM(hC:fK P C):∀{fs:List (Nat×Nat)}{x:List Field},nQ fs x=true->(∀p∈fs,(C.cX p.2).var=true)->
  ∃pl,x.mapM (λf=>(P.info? f.type).map λi=>(f.offset,i.size))=some pl/\∀i j u,nv fs i=some (j,u)->pl[i]?=some (j,(C.cX u).sz)
 |[],[],_,_=>⟨[],rfl,λi j u h=>by simp[nv] at h⟩
 |[],_::_,h,_=>by simp[nQ] at h
 |_::_,[],h,_=>by simp[nQ] at h
 |(j,u)::fs,f::x,h,F=>by
  simp only[nQ,du,pE] at h;obtain⟨⟨⟨rfl,rfl⟩,_⟩,h⟩:=h;obtain⟨pl,H,I⟩:=RM hC h (λp J=>F p (by simp[J]));obtain⟨y,M,_⟩:=pR (hC.ty f.type) (F (f.offset,f.type) (by simp));obtain⟨i,N,A⟩:=Mp (P:=P) (t:=f.type) (by omega);refine⟨(f.offset,i.size)::pl,by simp[List.mapM_cons,N,H],λk j u D=>?_⟩;cases k with
  |zero=>
   simp only[nv,cW,eE] at D;obtain⟨rfl,rfl⟩:=D;simp[A,y]
  |succ k=>simpa using I k j u (by simpa[nv] using D)
theorem Zo(hC:fK P C)(h:Rel C E s g w)(l:eb nt g a)(hd:gN nt o.dst){t:Nat}{parts:Array (Nat×Operand)}(A:o.op=.build t parts)(hx:∀p∈parts.toList,fe nt p.2=true){t':Ty}{m:Nat}{fs:List (Nat×Nat)}(I:C.cX t=.st t' m fs)(hk:Ev.step C o s K=some r):
  gx P C E nt o g a w K r (λq=>∃p∈parts.toList,dU s p.2 q):=by
 simp only[Ev.step,A,I] at hk;obtain⟨gs,hu,J,hz,D⟩:=KI (hC.ty t) I;have M:=(pR (hC.ty t) (by rw[I];rfl)).2.2.2.2;obtain⟨z,ae,N,i,hi,S⟩:=Nd (P:=P) (w:=w) M;obtain⟨pl,U,Y⟩:=RM hC J D;obtain⟨z',s',γ',qa,h1,h2,F,h4,u⟩:=Up (place:=(pl.toArray[·]?)) hC (λi aa ft hf=>by simpa using Y i aa ft hf) l (s0:=s) (Z:=λq=>∃p∈parts.toList,dU s p.2 q) parts.toList (γ:=g.γ) (arr:=z.cells) h hx (λp J q hq=>⟨p,J,hq⟩) (.refl _) (abB h hz N (.cC 0)) hk;have hb:P.built t (parts.map λ(i,x)=>(i,a.eval x)).toList=some qa:=by
  unfold Program.built
  simp only[hi,hu,S,U]
  rw[YB]
  exact h4
 have H:=run_build (P:=P) w t (parts.map λ(i,x)=>(i,a.eval x)) qa hb;have hh:=qz (P:=P) (o:=o) (n:=0) (v:=.agg qa) h2 u h.cI.new l hd (.agg _ _ _ (λtv ab=>?_) F.len (λj tv v y hv=>(F.rd j tv v y hv).2.1) (λj tv v y hv=>(F.rd j tv v y hv).2.2)) (by simp only[execOp,A];simp[H]) h1
 ·obtain⟨s2,h6,h7⟩:=hh;exact⟨s2,h6,λnext Q hn=>h7 next Q (λa' w'⟨g',A⟩=>hn a' w' ⟨g',{A with gi:=A.gi.mono (λq p hx=>⟨by rcases hx.1 with(u|u)|u<;>first|exact .inl u|exact .inr u,hx.2⟩)}⟩)⟩
 ·obtain⟨j,y⟩:=qo ab;have ad:=(eF.1 y).1;have:=(F.rd j tv _ y (ju (by rw[F.len];exact ad))).1;simp[kg,this]
end
end
section
theorem Nf:∀{j:List TV},deep j=true->∀tv∈j,pP tv=true
 |[],_,tv,h=>by simp at h
 |v::j,e,tv,h=>by
  simp only[deep] at e;cases u:pP v with
  |false=>rw[u] at e;simp at e
  |true=>
   rw[u,cL] at e;rcases eo.1 h with rfl|h
   ·exact u
   ·exact Nf e tv h
theorem Ng{D:Bool}{t:Ty}{F:List TV}{x:El t}(H:dec t F=some x)(U:D=true->flat t=true\/deep F=true){j:Nat}{b:TV}(y:(enc D t x)[j]?=some b):
  ∃J,F[j]?=some J/\(D=true->∀c m v,Rd c m J v->Rd c m b v)/\(D=false->∀c m v,Rd c none (jZ J) v->Rd c m b v):=by
 obtain⟨hl,S⟩:=(sN D H).get;have Y:=(eF.1 y).1;have M:F[j]?=some (F[j]'(by omega)):=eA _;refine⟨_,M,λN c m v I=>?_,λN c m v I=>?_⟩
 ·subst N;have u:=S j _ _ M y;rcases U rfl with hf|Q
  ·rcases u with e|⟨t',xs,h1,rfl⟩
   ·rw[<-e];exact I
   ·rw[mK hf true false] at y;have:=rE y;simp[sc,ik] at this
  ·exact u.deep (Nf Q _ (dG _)) I
 ·subst N;have u:=S j _ _ M y;exact((u.jR (rE y)).frozen (SI _) I).lift m
section
variable{P:Program}{C:Cx}{E:Env}{nt n:Nat}{o:Oper}{s A:TS}{g g1:Gs}{a:Act}{w f:World}{R:Type}{r:R}{K:TS->Option R}{Z:Rt->Prop}{γ1:Nat->G}{tv:TV}{v:Value}{X:Rt->dh->Prop}{nb:Nat->Prop}
structure Row(c:Rc)(a:Act)(t:Ty)(D:Bool)(k:Nat)(p:Nat×Operand)(x:El t)(vs:List TV):Prop where
 ix:p.1=k
 dc:dec t vs=some x
 pl:∀tv∈vs,dC tv=true
 len:(a.eval p.2).cells.size=vs.length
 dp:D=true->flat t=true\/deep vs=true
 rd:∀(j:Nat)tv v,vs[j]?=some tv->(a.eval p.2).cells.toList[j]?=some v->Rd c (some (.cC 0,[((k:Int),cj t j)])) tv v/\v.oneCell'=true
theorem NY(hC:fK P C){t:Ty}{sz:Nat}(l:eb nt g a){s0:TS}{Z:Rt->Prop}:∀(parts:List (Nat×Operand)){s:TS}{γ:Nat->G}{n:Nat}{K:Bool->List (El t)->TS->Option R},
  Rel C E s {g with γ:=γ} w->(∀p∈parts,fe nt p.2=true)->(∀p∈parts,∀q,dU s0 p.2 q->Z q)->eX s s0->wQ C t sz parts n s K=some r->
  ∃D xs s' H,K D xs s'=some r/\Rel C E s' {g with γ:=H} w/\xs.length=parts.length/\(∀(i:Nat)p x,parts[i]?=some p->xs[i]?=some x->∃vs,vs.length=sz/\Row (Gs.rc C {g with γ:=H} w) a t D (n+i) p x vs)/\FK (λq=>Z q\/∃n,q=.cC n) γ H/\
   ∀b k c I,k<n->γ b=.at (.cC 0) (((k:Nat),c)::I)->H b=.at (.cC 0) (((k:Nat),c)::I)
 |[],s,γ,n,K,h,_,_,_,N=>⟨true,[],s,γ,N,h,rfl,by simp,.refl _,λ_ _ _ _ _ h=>h⟩
 |(i,x)::parts,s,γ,n,K,h,hx,hZ,hl,N=>by
  simp only[wQ] at N;obtain⟨U,N⟩:=dM.1 N;have U:=gw U;obtain⟨u,N⟩:=dM.1 N;have u:=gw u;rw[wD] at u;obtain⟨Q,s',γ1,h1,h2,h3,h4,h5,h6,h7,h8⟩:=Kd (g:={g with γ:=γ}) hC h (l.same rfl) (hx (i,x) (by simp)) 1 N;unfold one? at h1;split at h1
  ·rename_i v Y;have aa:=Fh (γ:=γ1) (n:=1) (τ:=λj=>(.cC 0,[((n:Int),cj t j)]));have ab:Rel C E s' {g with γ:=iw γ1 1 (λj=>(.cC 0,[((n:Int),cj t j)]))} w:=h2.pV (g:={g with γ:=γ1}) (aa.mono (λq F=>⟨1,F⟩));obtain⟨D,xs,s2,ad,k1,k2,k3,k4,k5,k6⟩:=NY hC l parts ab (λp S=>hx p (by simp[S])) (λp S=>hZ p (by simp[S])) (h8.trans hl) h1;have ae:∀b k c I,k<n->γ b=.at (.cC 0) (((k:Nat),c)::I)->ad b=.at (.cC 0) (((k:Nat),c)::I):=λb k c I am hb=>by
    have af:=h7.at' b _ _ hb (λF=>absurd F RJ)
    have ah:iw γ1 1 (λj=>(.cC 0,[((n:Int),cj t j)])) b=_:=Jz af (by simp)
    exact k6 b k c I (by omega) ah
   refine⟨_,_,s2,ad,k1,k2,by simp[k3],λi' p y S hy=>?_,?_,ae⟩
   ·cases i' with
    |zero=>
     simp at S hy;subst S;subst hy;refine⟨Q,by rw[h4,u],U,Y,h5,by simpa using h3,λJ=>?_,λj tv v hj hv=>?_⟩
     ·cases hf:flat t with
      |true=>exact .inl rfl
      |false=>
       rw[hf,cN] at J;cases hd:deep Q with
       |true=>exact .inr rfl
       |false=>rw[hd] at J;simp at J
     ·obtain⟨h9,ai⟩:=h6 j tv v hj hv;have M:=h5 tv (eT hj);refine⟨?_,ai⟩;have aj:Rd (Gs.rc C {g with γ:=iw γ1 1 (λj=>(.cC 0,[((n:Int),cj t j)]))} w) (some (.cC 0,[((n:Int),cj t j)])) tv v:=h9.Lc (τ:=λj=>(.cC 0,[((n:Int),cj t j)])) M rfl;refine aj.same (λb hb=>⟨k5.im b hb,rfl⟩) (λq p F b I hb=>?_) (λi U=>absurd U (kz M i)) (λp F=>absurd F (fZ M p)) (λp F=>absurd F.mv (fZ M p));simp only[cW,eE] at F;obtain⟨rfl,rfl⟩:=F;exact⟨k6 b n (cj t j) I (by omega) hb,rfl⟩
    |succ i'=>
     obtain⟨vs,ak,hr⟩:=k4 i' p y (by simpa using S) (by simpa using hy);refine⟨vs,ak,?_⟩;have e:n.succ+i'=n+(i'+1):=by omega
     rw[e] at hr;refine{hr with dp:=λJ=>?_};cases hf:flat t with
     |true=>exact .inl rfl
     |false=>
      rw[hf,cN] at J;cases hd:deep Q with
      |false=>rw[hd] at J;simp at J
      |true=>rw[hd,cL] at J;have:=hr.dp J;rwa[hf] at this
   ·exact((h7.mono (λq F=>.inl (hZ (i,x) (by simp) q (F.less hl)))).trans (aa.mono (λq F=>.inr ⟨1,F⟩))).trans k5
  ·simp at h1
theorem Nh{size:Nat}(a:Act):∀(parts:List (Nat×Operand)){n:Nat}{arr:Array Value},(∀(i:Nat)p,parts[i]?=some p->p.1=n+i/\(a.eval p.2).cells.size=size)->(n+parts.length)*size<=arr.size->
  ∃e,Instr.fill (λi=>some (i*size,size)) arr (parts.map λp=>(p.1,a.eval p.2))=some e/\e.size=arr.size/\(∀(i:Nat)p j,parts[i]?=some p->j<size->e[(n+i)*size+j]?=(a.eval p.2).cells[j]?)/\∀k,k<n*size->e[k]?=arr[k]?
 |[],n,arr,_,_=>⟨arr,rfl,rfl,by simp,λ_ _=>rfl⟩
 |(i,x)::parts,n,arr,I,J=>by
  obtain⟨M,H⟩:=I 0 (i,x) rfl;simp only[q6] at M;subst M;have u:∀k,(i+1+k)*size=i*size+size+k*size:=λk=>by rw[jv,jv,pF]
  simp only[fY] at J;rw[show i+(parts.length+1)=i+1+parts.length by omega,u] at J;obtain⟨y,S,N,U,Y⟩:=RL (rest:=parts.map λp=>(p.1,a.eval p.2)) (place:=λi=>some (i*size,size)) (i:=i) (off:=i*size) (cells:=arr) rfl H (by omega);obtain⟨D,k1,k2,k3,k4⟩:=Nh a parts (n:=i+1) (arr:=y) (λj p F=>by have:=I (j+1) p (by simpa using F);exact⟨by rw[this.1];omega,this.2⟩) (by rw[u,N];omega);refine⟨D,by simp only[lk];rw[S];exact k1,by rw[k2,N],λj p c F Q=>?_,λk hk=>?_⟩
  ·cases j with
   |zero=>
    simp at F;subst F;have:=u 0;simp only[q6,GV] at this⊢;rw[k4 _ (by rw[this];omega),U c Q]
   |succ j=>
    rw[show i+(j+1)=i+1+j by omega];exact k3 j p c (by simpa using F) Q
  ·have:=u 0;simp only[q6,GV] at this;rw[k4 k (by rw[this];omega),Y k (by omega)]
theorem Za(hC:fK P C)(h:Rel C E s g w)(l:eb nt g a)(hd:gN nt o.dst){t len:Nat}{parts:Array (Nat×Operand)}(ho:o.op=.buildSlice t len parts)(hx:∀p∈parts.toList,fe nt p.2=true)(hk:Ev.step C o s K=some r):
  kG P C E nt o g a w K r (λq=>∃p∈parts.toList,dU s p.2 q) X nb:=by
 simp only[Ev.step,ho] at hk;split at hk
 ·rename_i e sz aA an;obtain⟨hn,hk⟩:=dM.1 hk;have hn:=gw hn;obtain⟨ah,hk⟩:=dM.1 hk;have ah:len*sz<=16777216:=YC ah;obtain⟨et,hu,ao,ap,_⟩:=uR (hC.ty t) an;subst ap;obtain⟨aq,aB,hz,aC,_⟩:=rf ao;obtain⟨i,z,hi,au,aD⟩:=Ig hz;have J:i.size=cG e:=by rw[<-aq];simp[Program.cellsOf,hi]
  obtain⟨D,xs,s',I,h1,h2,h3,h4,h5,_⟩:=NY hC l (s0:=s) (Z:=λq=>∃p∈parts.toList,dU s p.2 q) parts.toList (γ:=g.γ) h hx (λp hp q hq=>⟨p,hp,hq⟩) (.refl _) hk;have aa:parts.toList.length=len:=by simpa using hn
  have av:xs.length=len:=by rw[h3,aa]
  obtain⟨F,k1,k2,k3,_⟩:=Nh (size:=cG e) a parts.toList (n:=0) (arr:=madeCells z.cells (len*cG e)) (λi p hp=>by
   have aE:=(eF.1 hp).1
   obtain⟨vs,af,Y⟩:=h4 i p (xs[i]'(by omega)) hp (eA _)
   exact⟨Y.ix,by rw[Y.len,af]⟩) (by rw[size_madeCells,aa];simp);have ai:(Instr.buildSlice t len (parts.map λ(i,x)=>(i,a.eval x))).run P w=.ok (.slice (some ⟨w.heap.size,0,none⟩) len len) (w.alloc (.cells F et)):=by
   by_cases M:len=0
   ·subst M;have aw:parts=#[]:=Array.size_eq_zero_iff.1 hn;subst aw;simp only[sC,Instr.fill,cW] at k1;subst k1;simp[Instr.buildSlice,run_underlying hu,sizeOf,typeInfo,hi,Instr.fill,newRow,madeCells,Array.range_zero']
   ·have aF:=Jq e;refine run_buildSlice w t et len _ F i z hu hi au (by rw[J];omega) (by rw[J];exact Nat.mul_ne_zero M (by omega)) ?_;rw[J,YB];exact k1
  have N:∀(r:Nat)x(j:Nat)tv,xs[r]?=some x->(enc D e x)[j]?=some tv->∃(vs:List TV)(Q:TV)(u:Value),vs[j]?=some Q/\dC Q=true/\F[r*cG e+j]?=some u/\u.oneCell'=true/\Rd (Gs.rc C {g with γ:=I} w) (some (.cC 0,[((r:Int),cj e j)])) Q u/\(D=true->∀c m v,Rd c m Q v->Rd c m tv v)/\(D=false->∀c m v,Rd c none (jZ Q) v->Rd c m tv v):=λr x j tv y hj=>by
   have aG:=(eF.1 y).1
   have hp:parts.toList[r]?=some (parts.toList[r]'(by omega)):=eA _
   obtain⟨vs,af,Y⟩:=h4 r _ x hp y
   obtain⟨Q,ab,hA,hB⟩:=Ng Y.dc Y.dp hj
   have ad:=(eF.1 ab).1
   have ax:(a.eval (parts.toList[r]'(by omega)).2).cells.toList[j]?=some ((a.eval (parts.toList[r]'(by omega)).2).cells[j]'(by rw[Y.len];exact ad)):=by
    rw[eA (by rw[C7,Y.len];exact ad)];simp
   obtain⟨h6,h7⟩:=Y.rd j Q _ ab ax
   refine⟨vs,Q,_,ab,Y.pl Q (eT ab),?_,h7,by simpa using h6,hA,hB⟩
   have:=k3 r _ j hp (by rw[<-af];exact ad)
   rw[ia] at this
   rw[this,ju (by rw[Y.len];exact ad)]
  have aj:∀ae,Rel C E s' {g with γ:=ae} w->FK (λq=>(∃p∈parts.toList,dU s p.2 q)\/∃n,q=.cC n) g.γ ae->(∀(r:Nat)x(j:Nat)tv,xs[r]?=some x->(enc D e x)[j]?=some tv->∃u,F[r*cG e+j]?=some u/\u.oneCell'=true/\Rd (Gs.rc C {g with γ:=ae} w) (some (.cC 0,[((r:Int),cj e j)])) tv u)->
    kG P C E nt o g a w K r (λq=>∃p∈parts.toList,dU s p.2 q) X nb:=by
   intro ae ak ay hc
   obtain⟨h6,h7,h8⟩:=Jy (n:=0) (d:=D) (t:=e) (xs:=xs) (cap:=len) ak (vP w F et) (λr j=>F[r*cG e+j]?.getD undef) (by omega) (by rw[k2,size_madeCells];exact hY _)
    (λr x j tv y hj=>by obtain⟨u,H,S,_⟩:=hc r x j tv y hj;rw[H];exact⟨rfl,S⟩)
    (λr x j tv y hj=>by obtain⟨u,H,_,U⟩:=hc r x j tv y hj;rw[H];exact U)
   rw[av] at h7
   refine BD (n:=0) h6 rfl (λ_ _=>rfl) ?_ l hd h7 (by simp only[execOp,ho];simp[ai]) h1
   exact((FK.xz ay h.cI.new).trans h8).mono (λq p y=>.inl (y.elim id (λhf=>hf.elim)))
  cases D with
  |true=>
   exact aj I h2 h5 (λr x j tv y hj=>by
    obtain⟨vs,Q,u,_,_,H,S,U,hA,_⟩:=N r x j tv y hj
    exact⟨u,H,S,hA rfl _ _ _ U⟩)
  |false=>
   have am:=FK.jR (γ:=I) (q1:=.cC 0) (p1:=[]) yC;refine aj (kY I (.cC 0) []) (h2.pV (g:={g with γ:=I}) (am.mono (λq hq=>⟨0,hq⟩))) (h5.trans (am.mono (λq hq=>.inr ⟨0,hq⟩))) (λr x j tv y hj=>?_);obtain⟨vs,Q,u,_,aa,H,S,U,_,hB⟩:=N r x j tv y hj;refine⟨u,H,S,hB rfl _ _ _ (U.jR aa (λb hb=>⟨B0 hb,rfl⟩) (λq p hq b π hb=>?_))⟩;simp only[cW,eE] at hq;obtain⟨rfl,rfl⟩:=hq;exact⟨Ju (p1:=[]) (π:=[((r:Int),cj e j)]++π) (by have az:I b=_:=hb;simpa using az),rfl⟩
 ·simp at hk
end
end
section
structure WI(w w':World)(b off:Nat)(vals:List Value):Prop where
 other:∀i,i≠b->w'.heap[i]?=w.heap[i]?
 this:∀cs e fr,w.heap[b]?=some (.cells cs e fr)->∃Le,w'.heap[b]?=some (.cells Le e fr)/\Le.size=cs.size/\(∀j,j<vals.length->off+j<cs.size->Le[off+j]?=vals[j]?)/\∀k,¬ (off<=k/\k<off+vals.length)->Le[k]?=cs[k]?
 size:w'.heap.size=w.heap.size
 tape:w'.tape=w.tape
 os:w'.os=w.os
 output:w'.output=w.output
theorem j7(b:Nat):∀(u:List Value)(a:Nat)(w:World),WI w (w.setCells b a u) b a u
 |[],a,w=>⟨λ_ _=>rfl,λA e fr h=>⟨A,h,rfl,λj D=>by simp at D,λ_ _=>rfl⟩,rfl,rfl,rfl,rfl⟩
 |v::u,a,w=>by
  have x:=j7 b u (a+1) (w.setCell ⟨b,a,none⟩ v);have J:(w.setCell ⟨b,a,none⟩ v).heap.size=w.heap.size:=by simp
  refine⟨λi H=>?_,λA e fr h=>?_,x.size.trans J,x.tape,x.os,x.output⟩
  ·rw[World.setCells,x.other i H,Below.heap_setCell _ _ _ _ H]
  ·have M:(w.setCell ⟨b,a,none⟩ v).heap[b]?=some (.cells (A.setIfInBounds a v) e fr):=by
     simp[World.setCell,ah7,h]
   obtain⟨F,N,P,Q,I⟩:=x.this _ _ _ M;refine⟨F,N,by rw[P];simp,λj D y=>?_,λk S=>?_⟩
   ·cases j with
    |zero=>
     rw[I _ (by omega)];simp at y;simp[y]
    |succ j=>
     rw[show a+(j+1)=a+1+j by omega,Q j (by simpa using D) (by simp;omega)];simp
   ·simp only[fY] at S;rw[I k (by omega),Yt (by omega)]
theorem wo{x:Nat->G}{w D:World}{b y:Nat}{u:List Value}{F:Rt}{H:dh}(j:WI w D b y u)(I:∀b,w.heap.size<=b->x b=.fr)(A:x b=.at F H):dA (λq p=>q=F/\p=H) x w x D where
 im:=λi a=>⟨a,j.other i (λe=>by rw[e,A] at a;simp at a)⟩
 at':=λi q p a hx=>⟨a,j.other i (λe=>by rw[e,A] at a;simp only[G.at.injEq] at a;exact hx ⟨a.1.symm,a.2.symm⟩)⟩
 fr:=λi _ a=>⟨a,j.other i (λe=>by rw[e,A] at a;simp at a)⟩
 size:=YA j.size.symm
 new:=λi a=>I i (by rw[j.size] at a;exact a)
 tape:=j.tape
 os:=j.os
 output:=j.output
theorem run_store{P:Program}{w:World}{t:TypeId}{v:Value}{b o:Nat}{c:Array Value}{e:TypeId}{fr:Nat×Nat}(H:0<P.cellsOf t)(u:v.cells.size=P.cellsOf t)
  (D:w.heap[b]?=some (.cells c e fr))(I:uY c.size fr)(J:o+v.cells.size<=c.size)(M:∀x∈v.cells.toList,x.oneCell'=true):
  (storeVar t ⟨b,o,none⟩ v).run P w=.ok () (w.setCells b o v.cells.toList):=by
 have a:∀k,w.cell? ⟨b,k,none⟩=c[k]?:=λk=>by simp[World.cell?,D]
 have y:∀k,k<c.size->w.frozen? ⟨b,k,none⟩=false:=λk N=>by
  have:=I k N
  simp only[World.frozen?,D]
  simp only[YD,kS]
  by_cases F:fr.1<=k
  ·exact .inr (λQ=>this ⟨F,Q⟩)
  ·exact .inl F
 have:=run_storeCells_cells (P:=P) b o v.cells.toList 0 w (λj A=>by rw[a];simp at A⊢;omega) (λj A=>y _ (by simp at A;omega)) M;simp[storeVar,vK H,u,this]
def XP(a:Rt)(e:dh)(q:Rt)(p:dh):Prop:=eC a e q p\/∃n,q=.cC n
theorem SQ(t:Ty)(x:El t):∀a∈enc true t x,pP a=true:=by
 cases t<;>simp[enc,pP,sc]
theorem NZ:∀{a:List TV},(∀e∈a,pP e=true)->deep a=true
 |[],_=>rfl
 |v::a,h=>by simp only[deep,h v (by simp),cL];exact NZ λe j=>h e (by simp[j])
section
variable{C:Cx}{E:Env}{s:TS}{g:Gs}{w:World}{R:Type}{r:R}
theorem N0(h:Rel C E s g w):∀(p:Pl){f:TV->(TV->Option R)->Option R}{K:TS->Option R},qL C s p f K=some r->
  ∃tv kv,f tv kv=some r/\(tv=.un\/∃v,(g.rc C w).va p=some v/\Rd (g.rc C w) (some (gp p)) tv v/\VO (g.rc C w) p)/\
   ∀H a U,kv H=some r->jy H=true->dA (XP (gp p).1 (gp p).2) g.γ w a U->(∀v,(g.rc C w).va p=some v->Rd (Gs.rc C {g with γ:=a} U) (some (gp p)) H v)->
    ∃s',K s'=some r/\Rel C E s' {g with γ:=a} U/\eX s' s
 |.slot k,f,K,hk=>by
  simp only[qL,dM] at hk;have aB:(g.rc C w).va (.slot k)=some (g.tm k):=by simp only[Gs.rc,va];rw[cJ hk.1]
  refine⟨_,_,hk.2,.inr ⟨g.tm k,aB,h.fD k,trivial⟩,λH a U M hT A ab=>⟨_,M,?_,eX.KT k (eX.kill _ _) (λp F=>absurd F (ri hT p))⟩⟩;have ad:∀j p,MV p ((s.kill (Pl.nF k)).slot j)->VO (g.rc C w) p->(Gs.rc C {g with γ:=a} U).va p=(g.rc C w).va p/\VO (Gs.rc C {g with γ:=a} U) p:=λj p F N=>
   mM (C:=C) (g:=g) (g':={g with γ:=a}) A p N (nO A λq hq _ hx=>by
    rcases hx with hx|⟨n,hx⟩
    ·exact HD j p F ((pJ hq).1 ▸hx.1) (pJ hq).2
    ·exact iV q n hx) (λ_ _ _=>rfl) (λi _=>⟨rfl,λhx=>by rcases hx with hx|⟨n,hx⟩<;>simp[eC,gp] at hx⟩)
  refine(h.kill (Pl.nF k)).mV (g':={g with γ:=a}) A (λj=>?_) (λj=>.inr ⟨rfl,rfl,λp hx=>by rcases hx with hx|⟨n,hx⟩<;>simp[eC,gp] at hx⟩)
  by_cases J:j=k
  ·subst J
   left
   rcases vJ (s.kill (Pl.nF j)) j H with e|e<;>rw[e]
   ·exact ab _ aB
   ·exact .un _ _
  ·refine .inr ⟨ra _ H J,rfl,λp hx=>?_,λ_ _=>rfl,λp F=>?_,λp F π hx=>?_⟩
   ·rcases hx with hx|⟨n,hx⟩
    ·exact J (by simpa[eC,gp] using hx.1)
    ·simp at hx
   ·exact⟨(ad j p F (((h.kill (Pl.nF k)).fD j).s9 F)).1,λN=>(ad j p F N).2⟩
   ·rcases hx with hx|⟨n,hx⟩
    ·exact HD j p F.mv hx.1 (((h.kill (Pl.nF k)).fD j).J9 F)
    ·exact iV p n hx
 |.cell k c,f,K,hk=>by
  simp only[qL] at hk;split at hk
  ·rename_i cs I;have aC:=h.boxes k;rw[I] at aC;have hg:fQ C s (.cell k c)=some (nth cs c):=by simp[fQ,I]
   refine⟨_,_,hk,sS h hg,λH a U M hT A ab=>⟨_,M,?_,(eX.bx _ _ _).trans (eX.kill _ _)⟩⟩;have aN:¬ XP (gp (.cell k c)).1 (gp (.cell k c)).2 (.box k) []:=by rintro(hx|⟨n,hx⟩)<;>simp[eC,gp] at hx
   have ad:∀j p,MV p ((s.kill (Pl.nG k)).slot j)->VO (g.rc C w) p->(Gs.rc C {g with γ:=a} U).va p=(g.rc C w).va p/\VO (Gs.rc C {g with γ:=a} U) p:=λj p F N=>
    mM (C:=C) (g:=g) (g':={g with γ:=a}) A p N (nO A λq hq _ hx=>by
     rcases hx with hx|⟨n,hx⟩
     ·exact HE j p F ((pJ hq).1 ▸hx.1) (pJ hq).2
     ·exact iV q n hx) (λ_ _ _=>rfl) (λi _=>⟨rfl,λhx=>by rcases hx with hx|⟨n,hx⟩<;>simp[eC,gp] at hx⟩)
   refine(h.kill (Pl.nG k)).mV (g':={g with γ:=a}) A (λj=>.inr ⟨NR _ k j _,rfl,λp hx=>by rcases hx with hx|⟨n,hx⟩<;>simp[eC,gp] at hx,λ_ _=>rfl,λp F=>⟨(ad j p F (((h.kill (Pl.nG k)).fD j).s9 F)).1,λN=>(ad j p F N).2⟩,λp F π hx=>?_⟩) (λj=>?_)
   ·rcases hx with hx|⟨n,hx⟩
    ·exact HE j p F.mv hx.1 (((h.kill (Pl.nG k)).fD j).J9 F)
    ·exact iV p n hx
   ·by_cases J:j=k
    ·subst J
     left
     rcases uj (s.kill (Pl.nG j)) j (.cells (kJ cs c H)) with e|e<;>rw[e]
     ·obtain⟨vs,e',fr,hh,hu,am,hl,aD,hr⟩:=aC;obtain⟨aO,ae⟩:=A.at' _ _ _ am aN;refine⟨vs,e',fr,ae.trans hh,hu,aO,by rw[rD];simpa using hl,λx hx=>?_,λi x v P hv=>?_⟩
      ·rw[rD] at hx;rcases zQ hx with hx|rfl
       ·exact aD x hx
       ·exact hT
      ·rw[rD] at P
       by_cases aw:c=i
       ·subst aw;have an:c<cs.length:=by have:=(eF.1 P).1;simpa using this
        rw[GX an] at P;simp only[cW] at P;subst P;refine⟨(hr c _ v (eA an) hv).1,ab v ?_⟩;have aP:w.heap[g.bx j]?=some (.cells vs e' fr):=hh;simp[Gs.rc,va,cellAt,World.cell?,aP,hv]
       ·rw[C6 aw] at P;obtain⟨h1,h2⟩:=hr i x v P hv;have ax:=aD x (eT P);refine⟨h1,h2.same (λb I=>A.im b I) (λq p hq b π I=>?_) (λi P=>absurd P (Eh ax i)) (λp F=>absurd F (ri ax p)) (λp F=>absurd F.mv (ri ax p))⟩;simp only[cW,eE] at hq;obtain⟨rfl,rfl⟩:=hq;refine A.at' b _ _ I λhx=>?_;rcases hx with⟨_,t,ht⟩|⟨n,hx⟩
        ·simp[gp] at ht;exact aw ht.1
        ·simp at hx
     ·trivial
    ·exact .inr ⟨ui _ _ J,rfl,λp hx=>by
      rcases hx with hx|⟨n,hx⟩
      ·exact J (by simpa[eC,gp] using hx.1)
      ·simp at hx⟩
  ·simp at hk
 |.sub p t i c,f,K,hk=>by
  simp only[qL] at hk;obtain⟨aW,aX,hf,ho,aQ⟩:=N0 h p hk;split at hf
  ·rename_i t' xs;obtain⟨ht,aR⟩:=dM.1 hf;have ht:=fj ht;clear hf;subst ht;obtain⟨x,hx,hf⟩:=eM.1 aR;obtain⟨h0,hx⟩:=lp.1 hx;have an:=(eF.1 hx).1;rcases ho with ho|⟨vo,af,aE,aF⟩
   ·simp at ho
   rcases aE.lu with⟨rfl,_⟩|⟨q,π,b,aG,aH,cs,e,fr,fv,hm,rfl,hl,am,hh,hu,hs,hc,hr⟩
   ·simp at hx
   simp only[cW] at hm;have aI:c<cG t'->(enc true t' x)[c]?=some (nth (enc true t' x) c):=λQ=>by
    rw[uE,eA (by rw[gV];exact Q)];rfl
   have P:((i.toNat:Nat):Int)=i:=by omega
   have ao:c<cG t'->(g.rc C w).va (.sub p t' i c)=some (fv i.toNat c):=λQ=>by
    have aS:va C.vs g.tm g.bx w p=some (.slice (some ⟨b,aG,none⟩) xs.length aH):=af
    simp only[Gs.rc,va,aS]
    rw[cJ ⟨h0,by omega,Q⟩]
    exact(hc i.toNat x c _ hx (aI Q)).1
   refine⟨_,_,hf,?_,λH a U M hT A ab=>?_⟩
   ·by_cases Q:c<cG t'
    ·right
     refine⟨fv i.toNat c,ao Q,?_,aF,λb' o' aY aV I=>?_⟩
     ·have:=hr i.toNat x c _ hx (aI Q);rw[P] at this;simp only[gp,hm];exact this
     ·rw[af] at I;simp only[cW,Value.slice.injEq,Addr.mk.injEq,jg] at I;obtain⟨⟨rfl,_⟩,_⟩:=I;exact .inr (by rw[hm];exact am)
    ·left;rw[uE,mY (by rw[gV];omega)];rfl
   ·split at M
    ·rename_i x' aT ap;have aJ:∀n,(gp p).1≠.cC n:=λn=>iV p n;have ah:∀b' ai,g.γ b'=.at q (π++ai)->(∀aj,ai≠(i,cj t' c)::aj)->a b'=.at q (π++ai)/\U.heap[b']?=w.heap[b']?:=λb' ai I S=>A.at' b' _ _ I (λhx=>by
      rcases hx with⟨_,t2,ay⟩|⟨n,hx⟩
      ·simp only[gp,hm] at ay
       simp only[jW] at ay
       have:=LI ay
       exact S t2 this.symm
      ·exact aJ n (by rw[hm];exact hx));refine aQ (.own true t' (db xs i x')) a U M rfl (A.mono (λq' ai hx=>?_)) (λv hv=>?_)
     ·rcases hx with⟨h1,h2⟩|hx
      ·left
       simp only[gp] at h1 h2;exact⟨h1,(qZ _ _).trans h2⟩
      ·exact .inr hx
     ·rw[af] at hv;simp only[cW] at hv;subst hv;obtain⟨aK,ae⟩:=ah b [tg t'] am (λaj he=>by simp only[lF] at he;exact F1 he.1.symm);have aq:(db xs i x').length=xs.length:=by simp[db]
      rw[hm];have au:=Rd.kf (c:=Gs.rc C {g with γ:=a} U) q π true t' (db xs i x') b aG aH cs e fr fv (by rw[aq];exact hl) aK (ae.trans hh) hu hs (λY y j tv hy J=>?_) (λY y j tv hy J=>?_)
      ·rw[aq] at au;exact au
      ·by_cases Z:Y=i.toNat
       ·subst Z;have aU:j<cG t':=by have:=(eF.1 J).1;rwa[gV] at this
        obtain⟨h1,h2⟩:=hc i.toNat x j _ hx (eA (by rw[gV];exact aU));exact⟨(ln ae).trans h1,h2⟩
       ·have ak:xs[Y]?=some y:=by simpa[db,C6 (oy Z)] using hy
        obtain⟨h1,h2⟩:=hc Y y j tv ak J;exact⟨(ln ae).trans h1,h2⟩
      ·have av:∀(Y:Nat)y j tv,xs[Y]?=some y->(enc true t' y)[j]?=some tv->(Y≠i.toNat\/j≠c)->Rd (Gs.rc C {g with γ:=a} U) (some (q,π++[((Y:Int),cj t' j)])) tv (fv Y j):=λY y j tv hy J S=>by
         have az:=fN J
         refine(hr Y y j tv hy J).same (λb I=>A.im b I) (λq2 p2 hq b2 aZ I=>?_) (λi P=>absurd P (kz az i)) (λp F=>absurd F (fZ az p)) (λp F=>absurd F.mv (fZ az p))
         simp only[cW,eE] at hq
         obtain⟨rfl,rfl⟩:=hq
         rw[jW] at I⊢
         refine ah b2 _ I (λaj he=>?_)
         simp only[xI,lF,eE] at he
         rcases S with S|S
         ·exact S (by omega)
         ·exact S (J8 he.1.2).2
       by_cases Z:Y=i.toNat
       ·subst Z;have ak:y=x':=by
         simp only[db] at hy
         rw[GX an] at hy
         exact(gA hy).symm
        subst ak;rw[rD] at ap;have aL:deep ((enc true t' x).set c H)=true:=NZ (λu hu=>by
         rcases zQ hu with hu|rfl
         ·exact SQ t' x u hu
         ·exact aT);obtain⟨a0,aa,hA,_⟩:=Ng (D:=true) ap (λ_=>.inr aL) J;refine hA rfl _ _ _ ?_
        by_cases aA:c=j
        ·subst aA;have aM:c<(enc true t' x).length:=by have:=(eF.1 aa).1;simpa using this
         rw[GX aM] at aa;simp only[cW] at aa;subst aa;have:=ab _ (ao (by rwa[gV] at aM));simp only[gp,hm] at this;rw[P];exact this
        ·rw[C6 aA] at aa;exact av _ x j a0 hx aa (.inr (λe=>aA e.symm))
       ·have ak:xs[Y]?=some y:=by simpa[db,C6 (oy Z)] using hy
        exact av Y y j tv ak J (.inl Z)
    ·simp at M
  ·simp at hf
end
end
section
theorem aar{sz r i j c n k:Nat}(e:j<sz)(u:c+n<=sz)(a:r≠i)(x:k<n):r*sz+j≠i*sz+c+k:=by
 rcases Nat.lt_or_gt_of_ne a with h|h
 ·have:(r+1)*sz<=i*sz:=mh _ h;rw[jv,pF] at this;omega
 ·have:(i+1)*sz<=r*sz:=mh _ h;rw[jv,pF] at this;omega
theorem Ni{x e:List TV}{c j:Nat}{y:TV}(D:c+e.length<=x.length)(a:(o4 x c e)[j]?=some y):(c<=j/\j<c+e.length/\e[j-c]?=some y)\/(¬ (c<=j/\j<c+e.length)/\x[j]?=some y):=by
 rw[BZ] at a
 by_cases u:c<=j/\j<c+e.length
 ·left
  refine⟨u.1,u.2,?_⟩;rw[jW,pG (by simp;omega),oB (by simp;omega)] at a;simpa[show min c x.length=c by omega] using a
 ·right
  refine⟨u,?_⟩
  by_cases A:j<c
  ·rw[jW,oB (by simp;omega),oz] at a;simpa[A] using a
  ·rw[pG (by simp;omega)] at a;simp only[eS,kh,vp] at a;rw[show c+e.length+(j-(min c x.length+e.length))=j by omega] at a;exact a
theorem abC{cs a:List TV}{c:Nat}(e:c+a.length<=cs.length):(o4 cs c a).length=cs.length:=by rw[BZ];simp;omega
theorem SR{cs a:List TV}{c:Nat}{e:TV}(u:c+a.length<=cs.length)(h:e∈o4 cs c a):e∈a\/e∈cs:=by
 obtain⟨j,x⟩:=qo h;rcases Ni u x with⟨_,_,h⟩|⟨_,h⟩
 ·exact .inl (eT h)
 ·exact .inr (eT h)
theorem aas{a:TV}(h:dC a=true):dC (jZ a)=true:=by cases a<;>first|exact h|rfl
section
variable{C:Cx}{g:Gs}{w:World}
theorem Nj{q:Rt}{π:dh}{d D:Bool}{t:Ty}{xs:List (El t)}{x x':El t}{b a S:Nat}{cs:Array Value}{e:TypeId}{fr:Nat×Nat}{f:Nat->Nat->Value}{i:Int}{c:Nat}{vs:List TV}{vals:List Value}{A:Nat->G}
  (hn:∀b,w.heap.size<=b->A b=.fr)(hq:∀n,q≠.cC n)(aR:oR q π)(h0:0<=i)(hx:xs[i.toNat]?=some x)
  (hl:xs.length<=S)(hg:A b=.at q (π++[tg t]))(hh:w.heap[b]?=some (.cells cs e fr))(hu:mz t cs.size fr)(hs:a+S*cG t<=cs.size)
  (hc:∀(r:Nat)x(j:Nat)tv,xs[r]?=some x->(enc d t x)[j]?=some tv->cellAt w b (a+r*cG t+j)=some (f r j)/\(f r j).oneCell'=true)
  (hr:∀(r:Nat)x(j:Nat)tv,xs[r]?=some x->(enc d t x)[j]?=some tv->((r:Int)≠i\/¬ (c<=j/\j<c+vs.length))->Rd (Gs.rc C {g with γ:=A} w) (some (q,π++[((r:Int),cj t j)])) tv (f r j))
  (aS:vals.length=vs.length)(ao:c+vs.length<=cG t)(aI:∀tv∈vs,dC tv=true)(hv:∀(j:Nat)tv v,vs[j]?=some tv->vals[j]?=some v->Rd (Gs.rc C {g with γ:=A} w) (some (.cC 0,[(0,j)])) tv v/\v.oneCell'=true)
  (av:dec t (o4 (enc d t x) c vs)=some x')(hD:D=true->flat t=true\/(d=true/\deep vs=true)):
  ∃E,dA (XP q π) A w E (w.setCells b (a+i.toNat*cG t+c) vals)/\Rd (Gs.rc C {g with γ:=E} (w.setCells b (a+i.toNat*cG t+c) vals)) (some (q,π)) (.own D t (db xs i x')) (.slice (some ⟨b,a,none⟩) xs.length S):=by
 have aJ:=(eF.1 hx).1;have pk:=j7 b vals (a+i.toNat*cG t+c) w;obtain⟨U,aw,ak,ax,ap⟩:=pk.this _ _ _ hh;have Y:=Fh (γ:=A) (n:=0) (τ:=λj=>(q,π++[(i,cj t (c+j))]));have H:∀E,FK (λq'=>q'=.cC 0) A (iw A 0 (λj=>(q,π++[(i,cj t (c+j))])))->dA (eC q π) (iw A 0 (λj=>(q,π++[(i,cj t (c+j))]))) w E w->E b=.at q (π++[tg t])->dA (XP q π) A w E (w.setCells b (a+i.toNat*cG t+c) vals):=λE M N I=>by
  refine(((M.gi hn).trans N).trans (wo pk N.new I)).mono (λq' p' hx=>?_)
  rcases hx with(hx|hx)|⟨rfl,rfl⟩
  ·exact .inr ⟨0,hx.1⟩
  ·exact .inl hx
  ·exact .inl ⟨rfl,qZ _ _⟩
 have ab:iw A 0 (λj=>(q,π++[(i,cj t (c+j))])) b=.at q (π++[tg t]):=Jz hg (hq 0);have ay:∀b,w.heap.size<=b->iw A 0 (λj=>(q,π++[(i,cj t (c+j))])) b=.fr:=λb hb=>Y.fr b (hn b hb);have ad:∀(r:Nat)y(j:Nat)tv,(db xs i x')[r]?=some y->(enc D t y)[j]?=some tv->∃(R:TV)(u:Value),dC R=true/\U[a+r*cG t+j]?=some u/\u.oneCell'=true/\Rd (Gs.rc C {g with γ:=iw A 0 (λj=>(q,π++[(i,cj t (c+j))]))} w) (some (q,π++[((r:Int),cj t j)])) R u/\
   (D=true->∀c m v,Rd c m R v->Rd c m tv v)/\(D=false->∀c m v,Rd c none (jZ R) v->Rd c m tv v):=by
  intro r y j tv P J
  have az:j<cG t:=by have:=(eF.1 J).1;rwa[gV] at this
  have aq:∀k,cellAt w b k=cs[k]?:=λk=>by simp[cellAt,World.cell?,hh]
  have ae:∀(r:Nat)y(j:Nat)tv,xs[r]?=some y->(enc d t y)[j]?=some tv->((r:Int)≠i\/¬ (c<=j/\j<c+vs.length))->U[a+r*cG t+j]?=some (f r j)/\(f r j).oneCell'=true/\Rd (Gs.rc C {g with γ:=iw A 0 (λj=>(q,π++[(i,cj t (c+j))]))} w) (some (q,π++[((r:Int),cj t j)])) tv (f r j):=by
   intro r y j tv P J Z
   have az:j<cG t:=by have:=(eF.1 J).1;rwa[gV] at this
   obtain⟨M,N⟩:=hc r y j tv P J
   rw[aq] at M
   have aK:¬ (a+i.toNat*cG t+c<=a+r*cG t+j/\a+r*cG t+j<a+i.toNat*cG t+c+vals.length):=by
    rintro⟨aT,aU⟩
    by_cases af:r=i.toNat
    ·subst af;rcases Z with Z|Z
     ·exact Z (by omega)
     ·exact Z (by omega)
    ·have:=aar (k:=a+r*cG t+j-(a+i.toNat*cG t+c)) az ao af (by omega);omega
   refine⟨(ap _ aK).trans M,N,?_⟩
   ·have aA:=fN J;exact(hr r y j tv P J Z).xt (g:={g with γ:=A}) (γ':=iw A 0 (λj=>(q,π++[(i,cj t (c+j))]))) (by simp[fy,aA]) Y (λq' p' he=>by
     simp only[cW,eE] at he
     rw[<-he.1];exact hq 0)
  by_cases af:r=i.toNat
  ·subst af;have ai:y=x':=by
    simp only[db] at P
    rw[GX aJ] at P
    exact(gA P).symm
   subst ai;have aV:=gV d t x;have aL:D=true->flat t=true\/deep (o4 (enc d t x) c vs)=true:=λhd=>by
    rcases hD hd with hf|⟨aM,aN⟩
    ·exact .inl hf
    ·subst aM;exact .inr (NZ λu hu=>by
      rcases SR (by rw[gV];exact ao) hu with hu|hu
      ·exact Nf aN u hu
      ·exact SQ t x u hu)
   obtain⟨R,aO,hA,hB⟩:=Ng (D:=D) av aL J;rcases Ni (by rw[gV];exact ao) aO with⟨M,N,I⟩|⟨M,N⟩
   ·have aB:vals[j-c]?=some (vals[j-c]'(by omega)):=eA _;obtain⟨h4,h5⟩:=hv _ R _ I aB;have Q:=aI R (eT I);refine⟨R,vals[j-c]'(by omega),Q,?_,h5,?_,hA,hB⟩
    ·have aC:=ax (j-c) (by omega);rw[show a+i.toNat*cG t+c+(j-c)=a+i.toNat*cG t+j by omega,aB] at aC;refine aC ?_;have:(i.toNat+1)*cG t<=S*cG t:=mh _ (by omega);rw[jv,pF] at this;omega
    ·have h6:Rd (Gs.rc C {g with γ:=iw A 0 (λj=>(q,π++[(i,cj t (c+j))]))} w) (some (q,π++[(i,cj t (c+(j-c)))])) R _:=h4.Lc (τ:=λj=>(q,π++[(i,cj t (c+j))])) Q rfl;rw[show c+(j-c)=j by omega] at h6;rw[show((i.toNat:Nat):Int)=i by omega];exact h6
   ·obtain⟨I,h4,h5⟩:=ae i.toNat x j R hx N (.inr M);exact⟨R,_,fN N,I,h4,h5,hA,hB⟩
  ·have ai:xs[r]?=some y:=by simpa[db,C6 (oy af)] using P
   cases D with
   |true=>
    have aj:(enc d t y)[j]?=some tv:=by
     rcases hD rfl with hf|⟨hd,_⟩
     ·rwa[mK hf true d] at J
     ·rwa[hd]
    obtain⟨I,h4,h5⟩:=ae r y j tv ai aj (.inl (by omega));exact⟨tv,_,fN J,I,h4,h5,λ_ _ _ _ h=>h,λh=>by simp at h⟩
   |false=>
    obtain⟨aD,aj,rfl⟩:=DK (d:=d) J;obtain⟨I,h4,h5⟩:=ae r y j aD ai aj (.inl (by omega));exact⟨aD,_,fN aj,I,h4,h5,(λh=>by simp at h),λ_ _ _ _ h=>h.lift _⟩
 have am:(db xs i x').length=xs.length:=by simp[db]
 have aE:∀E,dA (XP q π) A w E (w.setCells b (a+i.toNat*cG t+c) vals)->E b=.at q (π++[tg t])->(∀(r:Nat)y(j:Nat)tv,(db xs i x')[r]?=some y->(enc D t y)[j]?=some tv->∃u,U[a+r*cG t+j]?=some u/\u.oneCell'=true/\Rd (Gs.rc C {g with γ:=E} (w.setCells b (a+i.toNat*cG t+c) vals)) (some (q,π++[((r:Int),cj t j)])) tv u)->
   Rd (Gs.rc C {g with γ:=E} (w.setCells b (a+i.toNat*cG t+c) vals)) (some (q,π)) (.own D t (db xs i x')) (.slice (some ⟨b,a,none⟩) xs.length S):=by
  intro E aW aa ah
  have an:=Rd.kf (c:=Gs.rc C {g with γ:=E} (w.setCells b (a+i.toNat*cG t+c) vals)) q π D t (db xs i x') b a S U e fr (λr j=>U[a+r*cG t+j]?.getD undef) (by rw[am];exact hl) aa aw (by rw[ak];exact hu) (by rw[ak];exact hs)
   (λr y j tv P J=>by
     obtain⟨u,M,N,_⟩:=ah r y j tv P J
     have aP:(w.setCells b (a+i.toNat*cG t+c) vals).heap[b]?=some (.cells U e fr):=aw
     exact⟨by simp[cellAt,World.cell?,Gs.rc,aP,M],by simp[M,N]⟩)
   (λr y j tv P J=>by
     obtain⟨u,M,_,I⟩:=ah r y j tv P J
     rw[M];exact I)
  rw[am] at an
  exact an
 have aF:∀E{m tv u},dA (eC q π) (iw A 0 (λj=>(q,π++[(i,cj t (c+j))]))) w E w->E b=.at q (π++[tg t])->dC tv=true->(∀q' p',m=some (q',p')->∃i j,p'=π++[(i,cj t j)]/\q'=q)->Rd (Gs.rc C {g with γ:=E} w) m tv u->Rd (Gs.rc C {g with γ:=E} (w.setCells b (a+i.toNat*cG t+c) vals)) m tv u:=by
  intro E m tv u N I hp hm hr
  have aG:=wo pk N.new I
  refine hr.same (λb hb=>aG.im b hb) (λq' p' he b' aH hb=>aG.at' b' _ _ hb (λhx=>?_)) (λi hi=>absurd hi (kz hp i)) (λp au=>absurd au (fZ hp p)) (λp au=>absurd au.mv (fZ hp p))
  obtain⟨k1,k2,rfl,rfl⟩:=hm _ _ he
  have:=hx.2
  rw[jW] at this
  have:=LI this
  simp only[xI,lF] at this
  exact F1 this.1
 cases D with
 |true=>
  have F:dA (eC q π) (iw A 0 (λj=>(q,π++[(i,cj t (c+j))]))) w (iw A 0 (λj=>(q,π++[(i,cj t (c+j))]))) w:=dA.refl _ ay;refine⟨_,H _ Y F ab,aE _ (H _ Y F ab) ab (λr y j tv P J=>?_)⟩;obtain⟨R,u,Q,M,N,I,hA,_⟩:=ad r y j tv P J;exact⟨u,M,N,hA rfl _ _ _ (aF _ F ab Q (λq' p' he=>by simp only[cW,eE] at he;exact⟨_,_,he.2.symm,he.1.symm⟩) I)⟩
 |false=>
  have F:dA (eC q π) (iw A 0 (λj=>(q,π++[(i,cj t (c+j))]))) w (j1 (iw A 0 (λj=>(q,π++[(i,cj t (c+j))]))) q π) w:=Nb ay;have aa:j1 (iw A 0 (λj=>(q,π++[(i,cj t (c+j))]))) q π b=.at q (π++[tg t]):=Ib ab;refine⟨_,H _ Y F aa,aE _ (H _ Y F aa) aa (λr y j tv P J=>?_)⟩;obtain⟨R,u,Q,M,N,I,_,hB⟩:=ad r y j tv P J;refine⟨u,M,N,hB rfl _ _ _ ?_⟩;have hz:Rd (Gs.rc C {g with γ:=j1 (iw A 0 (λj=>(q,π++[(i,cj t (c+j))]))) q π} w) none (jZ R) u:=I.jR Q (λb hb=>⟨B1 hb,rfl⟩) (λq' p' he b' aH hb=>by
   simp only[cW,eE] at he
   obtain⟨rfl,rfl⟩:=he
   exact⟨B2 (i:=(r:Int)) (j:=cj t j) (π:=aH) (KC t j) (by have aQ:iw A 0 (λj=>(q,π++[(i,cj t (c+j))])) b'=_:=hb;simpa using aQ),rfl⟩);refine aF _ F aa ?_ (λq' p' he=>by simp at he) hz;exact aas Q
end
end
section
def PD(tv:TV)(q:Rt)(p:dh):Prop:=∃k,((∃j,tv=.ptr k j)\/∃n,tv=.pe k n)/\q=.box k/\p=[]
theorem Ke:∀{p q:Pl},Pl.beq p q=true->p=q
 |.slot k,.slot j,h=>by simp only[Pl.beq] at h;rw[gw h]
 |.cell k c,.cell j u,h=>by
  simp only[Pl.beq] at h;cases e:Nat.beq k j with
  |false=>rw[e] at h;simp at h
  |true=>rw[e,cL] at h;rw[gw e,gw h]
 |.slot _,.cell _ _,h=>by simp[Pl.beq] at h
 |.slot _,.sub _ _ _ _,h=>by simp[Pl.beq] at h
 |.cell _ _,.slot _,h=>by simp[Pl.beq] at h
 |.cell _ _,.sub _ _ _ _,h=>by simp[Pl.beq] at h
 |.sub _ _ _ _,.slot _,h=>by simp[Pl.beq] at h
 |.sub _ _ _ _,.cell _ _,h=>by simp[Pl.beq] at h
 |.sub _ _ _ _,.sub _ _ _ _,h=>by simp[Pl.beq] at h
section
variable{P:Program}{C:Cx}{E:Env}{nt n:Nat}{o:Oper}{s B:TS}{g g1:Gs}{a:Act}{w A:World}{R:Type}{r:R}{K:TS->Option R}{Z:Rt->Prop}{γ1:Nat->G}{tv:TV}{v:Value}{X:Rt->dh->Prop}{nb:Nat->Prop}
theorem EJ(u:Rel C E B {g with γ:=γ1} A)(j:dA (λq p=>XZ Z q p\/X q p) g.γ w γ1 A)(l:eb nt g a)(x:o.dst=none)(y:(execOp a.eval o).run P w=.ok .skip A)(D:K B=some r):kG P C E nt o g a w K r Z X nb:=by
 refine⟨B,D,λnext Q e=>?_⟩;simp only[Oper.wp,y,Oper.upon];have F:a.put o.dst undef=a:=by rw[x];rfl
 rw[F];exact e _ _ ⟨{g with γ:=γ1},u,l.same rfl,j,λ_ _=>rfl,λ_ _=>rfl⟩
theorem Rel.N1(h:Rel C E s {g with γ:=γ1} w){k:Nat}{vs:Array Value}{e:TypeId}{fr:Nat×Nat}{off:Nat}{vals:List Value}{u:BC}(N:w.heap[g.bx k]?=some (.cells vs e fr))(I:γ1 (g.bx k)=.at (.box k) [])
  (J:tw (Gs.rc C {g with γ:=γ1} (w.setCells (g.bx k) off vals)) k u):Rel C E ((s.kill (Pl.gK k)).bx k u) {g with γ:=γ1} (w.setCells (g.bx k) off vals)/\dA (λq p=>q=.box k/\p=[]) γ1 w γ1 (w.setCells (g.bx k) off vals):=by
 have x:=wo (j7 (g.bx k) vals off w) h.cI.new I;refine⟨(h.kill (Pl.gK k)).mV (g:={g with γ:=γ1}) (g':={g with γ:=γ1}) x (λj=>.inr ⟨rfl,rfl,λp hx=>by simp at hx,λ_ _=>rfl,λp D=>?_,λp D Q hx=>?_⟩) (λj=>?_),x⟩
 ·have y:(gp p).1≠.box k:=λe=>by
    rw[qv] at D
    have:=(sR D).2
    rw[uy.2 e] at this
    simp at this
  have:=λF=>mM (C:=C) (g:={g with γ:=γ1}) (g':={g with γ:=γ1}) x p F (nO x λq M _ hx=>y ((pJ M).1 ▸hx.1)) (λ_ _ _=>rfl) (λi hi=>⟨rfl,λhx=>y (by rw[<-hx.1];exact yK.1 hi)⟩);exact⟨(this (((h.kill (Pl.gK k)).fD j).s9 D)).1,λF=>(this F).2⟩
 ·have y:(gp p).1≠.box k:=λe=>by
    have D:=D.mv
    rw[qv] at D
    have:=(sR D).2
    rw[uy.2 e] at this
    simp at this
  exact y hx.1
 ·by_cases H:j=k
  ·subst H
   left
   rcases uj (s.kill (Pl.gK j)) j u with e|e<;>rw[e]
   ·exact J
   ·trivial
  ·exact .inr ⟨ui _ _ H,rfl,λp hx=>H (by simpa using hx.1)⟩
theorem abD(hC:fK P C)(h:Rel C E s g w)(l:eb nt g a)(hd:o.dst=none){t:Nat}{ad x:Operand}(ho:o.op=.store t ad x)(bI:fe nt ad=true)(hx:fe nt x=true)(hk:Ev.step C o s K=some r):
  kG P C E nt o g a w K r (λq=>dU s x q\/dU s ad q) (PD (cZ C s ad)) nb:=by
 simp only[Ev.step,ho] at hk;obtain⟨bk,hk⟩:=dM.1 hk;obtain⟨b0,bX,_,_,_⟩:=pR (hC.ty t) bk;have F:=iF h l bI;have aw:=iF h l hx;have run:∀{b off:Nat}{c:Array Value}{e:TypeId}{fr:Nat×Nat},a.eval ad=.pointer (some ⟨b,off,none⟩)->(a.eval x).cells.size=(C.cX t).sz->w.heap[b]?=some (.cells c e fr)->uY c.size fr->off+(a.eval x).cells.size<=c.size->(∀u∈(a.eval x).cells.toList,u.oneCell'=true)->
   (execOp a.eval o).run P w=.ok .skip (w.setCells b off (a.eval x).cells.toList):=by
  intro b off c e fr hp hs hh hu aU h1
  have:=run_store (P:=P) (t:=t) (v:=a.eval x) (by omega) (by omega) hh hu aU h1
  simp[execOp,ho,Instr.storeAt,hp,Instr.sureAddr,this]
 have bm:∀p,MV p (cZ C s ad)->dU s ad (gp p).1:=λp hp=>uG (λi=>(h.kM i).1) hp;unfold Gu at hk;split at hk
 ·rename_i t' xs ai;rw[ai] at aw;split at hk
  ·rename_i k c I;split at hk
   ·rename_i t2 ys Q;obtain⟨ht,bJ⟩:=dM.1 hk;have ht:=fj ht;clear hk;subst ht;obtain⟨a9,hk⟩:=dM.1 bJ;have a9:=gw a9;obtain⟨_,aj,hk⟩:=eM.1 hk;obtain⟨bn,bo⟩:=(du _ _).mp (lR.1 aj);have bn:(xs.length:Int)=(C.cX t).sz:=fj bn;have bo:(ys.length:Int)=(C.cX t).sz:=fj bo;rw[I] at F;obtain⟨he,aC⟩:a.eval x=.agg (xs.map (jE t2)).toArray/\Ev.gk t2=false:=by
     generalize iK x=m at aw;generalize a.eval x=u at aw;cases aw;exact⟨rfl,by assumption⟩
    have hp:a.eval ad=.pointer (some ⟨g.bx k,c,none⟩):=by generalize iK ad=m at F;generalize a.eval ad=u at F;cases F;rfl
    subst a9;have ao:=(h.boxes k);have bK:(ir s x).box k=s.box k:=by cases x<;>simp only[ir]<;>(try split)<;>rfl
    rw[bK] at Q;rw[Q] at ao;obtain⟨vs,e,fr,hh,hu,hg,bY,hl⟩:=ao;have bL:vs.size=ys.length:=by have:=congrArg List.length hl;simpa using this
    have ba:(a.eval x).cells.toList=xs.map (jE t2):=by rw[he];rfl
    have ab:(a.eval x).cells.size=xs.length:=by rw[he];simp[Value.cells]
    have aF:ir s x=s:=by
     cases x with
     |tmp k=>
      simp only[ir]
      simp only[cZ] at ai
      split<;>rename_i bb<;>first|rfl|(rw[bb] at ai;simp[mU] at ai)
     |_=>rfl
    rw[aF] at hk;obtain⟨h3,h4⟩:=Rel.N1 (u:=.vec t2 xs) (off:=0) (vals:=(a.eval x).cells.toList) (γ1:=g.γ) h hh hg (by
     obtain⟨aG,h5,h6,h7,h8⟩:=(j7 (g.bx k) (a.eval x).cells.toList 0 w).this _ _ _ hh
     refine⟨aG,e,fr,h5,by rw[h6];exact hu,hg,aC,?_⟩
     apply YE
     intro j
     by_cases hj:j<xs.length
     ·have:=h7 j (by simp;omega) (by omega)
      rw[ia] at this
      rw[lG,this,ba]
     ·rw[mY (by simp;omega),mY (by simp;omega)]);refine EJ h3 (h4.mono (λq p hx=>.inr ⟨k,.inl ⟨0,I⟩,hx⟩)) l hd (run hp (by rw[ab];omega) hh hu (by omega) (λu bc=>?_)) hk;rw[ba] at bc;simp only[gR] at bc;obtain⟨y,_,rfl⟩:=bc;obtain⟨_,_,_,_,_,h9⟩:=y6 aC false y;exact h9
   ·simp at hk
  ·simp at hk
 ·rename_i q qt i qc t' xs ai;rw[ai] at aw;split at hk
  ·rename_i p t0 i' c I;obtain⟨J,bp⟩:=dM.1 hk;obtain⟨_,aj,bq⟩:=eM.1 bp;clear hk bp;have aj:i=i':=fj (lR.1 aj);subst aj;have br:J7 (.pa (.sub q qt i qc) t' xs) (.ep p t0 i c)=true/\Nat.beq (C.cX t).sz 1=true:=by
    cases bs:J7 (.pa (.sub q qt i qc) t' xs) (.ep p t0 i c) with
    |false=>rw[bs] at J;simp at J
    |true=>rw[bs,cL] at J;exact⟨rfl,J⟩
   clear J;obtain⟨J,be⟩:=br;have be:=gw be;simp only[J7] at J;cases aV:Pl.beq p q with
   |false=>rw[aV] at J;simp at J
   |true=>
   rw[aV,cL] at J;have bt:=Ke aV;clear aV;subst bt;obtain⟨bM,aW⟩:qt=t0/\qc=c:=by
    cases bf:decide (t0=qt) with
    |false=>rw[bf] at J;simp at J
    |true=>
     rw[bf,cL] at J
     exact⟨(fj bf).symm,gw J⟩
   subst bM;subst aW;rw[I] at F;obtain⟨b,off,ae,U,bN,aH,h0,aX,hp⟩:∃b o ae U,VO (g.rc C w) p/\(g.rc C w).va p=some (.slice (some ⟨b,o,none⟩) ae U)/\0<=i/\i<(ae:Int)/\a.eval ad=.pointer (some ⟨b,o+i.toNat*cG qt+qc,none⟩):=by
    generalize iK ad=m at F;generalize a.eval ad=u at F
    cases F;exact⟨_,_,_,_,by assumption,by assumption,by assumption,by assumption,rfl⟩
   obtain⟨bu,u0,aI⟩:Rd (g.rc C w) (some (gp (.sub p qt i qc))) (.own true t' xs) (a.eval x)/\∃u0,(g.rc C w).va (.sub p qt i qc)=some u0:=by
    generalize iK x=m at aw;cases aw;exact⟨by assumption,_,by assumption⟩
   have aF:ir s x=s:=by
    cases x with
    |tmp k=>
     simp only[ir]
     simp only[cZ] at ai
     split<;>rename_i bb<;>first|rfl|(rw[bb] at ai;simp[mU] at ai)
    |_=>rfl
   rw[aF] at bq;obtain⟨tv,kv,hf,af,bg⟩:=N0 h p bq;split at hf
   ·rename_i t2 ys;obtain⟨ht,ax⟩:=dM.1 hf;have ht:=fj ht;clear hf;subst ht;obtain⟨y,hy,hf⟩:=eM.1 ax;obtain⟨_,hy⟩:=lp.1 hy;unfold one? at hf;split at hf
    ·rename_i y' S;rcases af with af|⟨v',aa,aJ,_⟩
     ·simp at af
     rw[aH] at aa;simp only[cW] at aa;subst aa;rcases aJ.lu with⟨rfl,_⟩|⟨q,π,b',a5,a6,cs,e,fr,f,hm,ap,hl,aK,hh,hu,hs,hc,hr⟩
     ·simp at hy
     simp only[Value.slice.injEq,cW,Addr.mk.injEq,jg] at ap;obtain⟨⟨rfl,rfl⟩,rfl,rfl⟩:=ap;simp only[cW] at hm;have hq:∀n,q≠.cC n:=λn e=>iV p n (by rw[hm];exact e);have aY:oR q π:=by have:=wk p;rwa[hm] at this
     have M:=MJ bu rfl;have ab:(a.eval x).cells.toList=[a.eval x]:=by rw[M.2]
     have bO:qc<cG t2:=by
      have ak:va C.vs g.tm g.bx w p=some (.slice (some ⟨b,off,none⟩) ys.length U):=aH
      simp only[Gs.rc,va,ak] at aI
      split at aI
      ·rename_i h9;exact h9.2.2
      ·simp at aI
     ·have aA:dA (eC q (π++[(i,cj t2 qc)])) g.γ w (dP g.γ q (π++[(i,cj t2 qc)]) (.cC 0) [(0,0)]) w:=oG h.cI.new;have bv:dP g.γ q (π++[(i,cj t2 qc)]) (.cC 0) [(0,0)] b=.at q (π++[tg t2]):=vX aK (λ⟨_,t3,h3⟩=>by rw[jW] at h3;have h3:=LI h3;simp only[xI,lF] at h3;exact F1 h3.1);have bw:Rd (Gs.rc C {g with γ:=dP g.γ q (π++[(i,cj t2 qc)]) (.cC 0) [(0,0)]} w) (some (.cC 0,[(0,0)])) (.own true t' xs) (a.eval x):=by
       have h3:=bu
       simp only[gp,hm] at h3
       exact h3.Cs rfl
      obtain⟨am,h3,h4⟩:=Nj (C:=C) (g:=g) (D:=true) (vs:=[.own true t' xs]) (vals:=(a.eval x).cells.toList) (c:=qc) (i:=i) aA.new hq aY h0 hy hl bv hh hu hs hc
       (λr2 z j tv hz hj aq=>by
         have aL:=fN hj
         refine(hr r2 z j tv hz hj).same (λb Q=>aA.im b Q) (λq2 p2 he b2 b4 Q=>?_) (λi hi=>absurd hi (kz aL i)) (λp hp=>absurd hp (fZ aL p)) (λp hp=>absurd hp.mv (fZ aL p))
         simp only[cW,eE] at he
         obtain⟨rfl,rfl⟩:=he
         refine aA.at' b2 _ _ Q λ⟨_,t3,bA⟩=>?_
         simp only[jW] at bA
         have bh:=LI bA
         simp only[xI,lF,eE,tY] at bh aq
         have b5:=(J8 bh.1.2).2
         rcases aq with aq|aq
         ·exact aq bh.1.1.symm
         ·exact aq (by omega)) (by rw[ab];rfl) (by show qc+1<=_;omega) (by simp[dC])
       (λj tv v hj hv=>by
         rw[ab] at hv
         cases j with
         |zero=>simp at hj hv;subst hj;subst hv;exact⟨bw,M.1⟩
         |succ j=>simp at hj) (by
         have:o4 (enc true t2 y) qc [.own true t' xs]=kJ (enc true t2 y) qc (.own true t' xs):=by
          rw[BZ,rD]
          have bP:qc<(enc true t2 y).length:=by rw[gV];exact bO
          rw[List.set_eq_take_append_cons_drop,cJ bP]
          simp
         rw[this];exact S) (λ_=>.inr ⟨rfl,by simp[deep,pP]⟩);have aM:dA (XP (gp p).1 (gp p).2) g.γ w am (w.setCells b (off+i.toNat*cG t2+qc) (a.eval x).cells.toList):=by
       rw[hm]
       refine(aA.trans h3).mono (λq' p' hx=>?_)
       rcases hx with⟨au,aD⟩|hx
       ·exact .inl ⟨au,(qZ _ _).trans aD⟩
       ·exact hx
      obtain⟨s',h5,h6,h7⟩:=bg _ am _ hf rfl aM (λv' ak=>by
       rw[aH] at ak
       simp only[cW] at ak
       subst ak
       rw[hm];exact h4);refine EJ h6 (aM.mono (λq' p' hx=>.inl ?_)) l hd (run hp (by rw[M.2,be];rfl) hh hu.un (by
       have h9:(i.toNat+1)*cG t2<=U*cG t2:=mh _ (by omega)
       rw[jv,pF] at h9
       rw[M.2];show _+1<=_;omega) (by rw[ab];simpa using M.1)) h5;rcases hx with⟨au,aD⟩|hx
      ·refine⟨.inl (.inr ?_),λan=>?_⟩
       ·rw[au];exact bm p (by rw[I];exact .ep _ _ _)
       ·rw[hm] at au aD;exact oR.Gw aY (λ_=>an) ⟨au,aD⟩
      ·obtain⟨n,hx⟩:=hx;exact⟨.inr ⟨n,hx⟩,λan=>by rw[hx] at an;simp[kE] at an⟩
    ·simp at hf
   ·simp at hf
  ·simp at hk
 ·obtain⟨aB,hk⟩:=dM.1 hk;have aB:=gw aB;rw[wD] at aB;obtain⟨Y,s',γ1,h1,h2,h3,h4,h5,h6,h7,h8⟩:=Kd hC h l hx 0 hk;have av:Y.length=(C.cX t).sz:=by rw[h4,aB]
  have ab:(a.eval x).cells.size=(C.cX t).sz:=by rw[<-av,<-h3];simp
  have M:∀u∈(a.eval x).cells.toList,u.oneCell'=true:=λu hu=>by
   obtain⟨j,hj⟩:=qo hu
   have aX:=(eF.1 hj).1
   exact(h6 j _ u (eA (by omega)) hj).2
  split at h1
  ·rename_i k c I;rw[I] at F;have hp:a.eval ad=.pointer (some ⟨g.bx k,c,none⟩):=by generalize iK ad=m at F;generalize a.eval ad=u at F;cases F;rfl
   split at h1
   ·rename_i cs Q;obtain⟨N,h1⟩:=dM.1 h1;have N:=uq.1 N;have ao:=h2.boxes k;rw[Q] at ao;obtain⟨bi,e,fr,hh,hu,hg,hl,hT,hr⟩:=ao;have aZ:=Fh (γ:=γ1) (n:=0) (τ:=λj=>(.box k,[(0,c+j)]));have bB:Rel C E s' {g with γ:=iw γ1 0 (λj=>(.box k,[(0,c+j)]))} w:=h2.pV (g:={g with γ:=γ1}) (aZ.mono (λq hq=>⟨0,hq⟩));have bj:iw γ1 0 (λj=>(.box k,[(0,c+j)])) (g.bx k)=.at (.box k) []:=Jz hg (by simp);have bC:=wo (j7 (g.bx k) (a.eval x).cells.toList c w) bB.cI.new bj;obtain⟨h9,ay⟩:=bB.N1 (u:=.cells (o4 cs c Y)) (off:=c) (vals:=(a.eval x).cells.toList) hh bj (by
     obtain⟨aG,k1,k2,k3,k4⟩:=(j7 (g.bx k) (a.eval x).cells.toList c w).this _ _ _ hh
     refine⟨aG,e,fr,k1,by rw[k2];exact hu,bj,by rw[k2,abC (by rw[av];exact N)];exact hl,λtv aN=>?_,λj tv v hj hv=>?_⟩
     ·rcases SR (by rw[av];exact N) aN with aN|aN
      ·exact rb (h5 tv aN)
      ·exact hT tv aN
     ·have bD:∀{tv v},jy tv=true->Rd (Gs.rc C {g with γ:=iw γ1 0 (λj=>(.box k,[(0,c+j)]))} w) (some (.box k,[(0,j)])) tv v->Rd (Gs.rc C {g with γ:=iw γ1 0 (λj=>(.box k,[(0,c+j)]))} (w.setCells (g.bx k) c (a.eval x).cells.toList)) (some (.box k,[(0,j)])) tv v:=λ{tv v}hp hr=>
        hr.same (λb Q=>bC.im b Q) (λq' p' he b' bQ Q=>bC.at' b' _ _ Q (λhx=>by
         simp only[cW,eE] at he
         rw[<-he.2] at hx
         simp at hx)) (λi hi=>absurd hi (Eh hp i)) (λp az=>absurd az (ri hp p)) (λp az=>absurd az.mv (ri hp p))
      rcases Ni (by rw[av];exact N) hj with⟨m1,m2,m3⟩|⟨m1,m2⟩
      ·have aU:=k3 (j-c) (by omega) (by omega)
       rw[show c+(j-c)=j by omega,hv] at aU
       obtain⟨m4,m5⟩:=h6 _ tv v m3 aU.symm
       have bE:=h5 tv (eT m3)
       refine⟨m5,bD (rb bE) ?_⟩
       have m6:Rd (Gs.rc C {g with γ:=iw γ1 0 (λj=>(.box k,[(0,c+j)]))} w) (some (.box k,[(0,c+(j-c))])) tv v:=m4.Lc (τ:=λj=>(.box k,[(0,c+j)])) bE rfl
       rwa[show c+(j-c)=j by omega] at m6
      ·have ak:bi[j]?=some v:=by rw[<-k4 j (by rw[h3];exact m1)];exact hv
       obtain⟨m4,m5⟩:=hr j tv v m2 ak
       have a0:=hT tv (eT m2)
       refine⟨m4,bD a0 ?_⟩
       exact m5.same (λb Q=>⟨aZ.im b Q,rfl⟩) (λq' p' he b' bQ Q=>⟨aZ.at' b' _ _ Q (λhz=>by
        simp only[cW,eE] at he
        rw[<-he.1] at hz;simp at hz),rfl⟩) (λi hi=>absurd hi (Eh a0 i)) (λp az=>absurd az (ri a0 p)) (λp az=>absurd az.mv (ri a0 p)));refine EJ h9 ((((h7.gi h.cI.new).trans (aZ.gi h2.cI.new)).trans ay).mono (λq p hx=>?_)) l hd (run hp ab hh hu (by omega) M) h1;rcases hx with(⟨hx,Q⟩|⟨hx,Q⟩)|hx
    ·exact .inl ⟨.inl (.inl hx),Q⟩
    ·exact .inl ⟨.inr ⟨0,hx⟩,Q⟩
    ·exact .inr ⟨k,.inl ⟨c,I⟩,hx⟩
   ·simp at h1
  ·rename_i k i I;rw[I] at F;split at h1
   ·rename_i t2 ys Q;unfold one? at h1;split at h1
    ·rename_i y S;obtain⟨z,hz,h1⟩:=eM.1 h1;obtain⟨h0,hz⟩:=lp.1 hz;have aX:=(eF.1 hz).1;have hp:a.eval ad=.pointer (some ⟨g.bx k,i.toNat,none⟩):=by generalize iK ad=m at F;generalize a.eval ad=u at F;cases F;rfl
     have ao:=h2.boxes k;rw[Q] at ao;obtain⟨bi,e,fr,hh,hu,hg,aC,hl⟩:=ao;have bL:bi.size=ys.length:=by have:=congrArg List.length hl;simpa using this
     obtain⟨bF,a7,_,_,_,_⟩:=y6 aC false y;obtain⟨a1,a2⟩:=(sN false S).get;rw[a7] at a1 a2;have a1:Y.length=1:=a1
     match Y,a1,a2,h5,h6,av,h3 with
     |[bG],_,a2,h5,h6,av,h3=>
      have a8:(a.eval x).cells.toList.length=1:=h3;obtain⟨u0,a3⟩:∃u0,(a.eval x).cells.toList=[u0]:=by
       match aW:(a.eval x).cells.toList,a8 with
       |[u0],_=>exact⟨u0,rfl⟩
      obtain⟨aO,_⟩:=h6 0 bG u0 rfl (by rw[a3];rfl);have bR:u0=jE t2 y:=by
       have aP:=a2 0 bG bF rfl rfl
       have aE:enc false t2 y=[bF]:=a7
       cases t2<;>simp[Ev.gk] at aC
       ·simp only[enc,lF,jg] at aE;subst aE;rcases aP with rfl|⟨_,_,_,h9⟩
        ·exact aO.oS
        ·simp[sc] at h9
       ·simp only[enc,lF,jg] at aE;subst aE;rcases aP with rfl|⟨_,_,_,h9⟩
        ·exact aO.ka
        ·simp[sc] at h9
       ·simp only[enc,lF,jg] at aE;subst aE;rcases aP with rfl|⟨_,_,_,h9⟩
        ·exact aO.nq
        ·simp[sc] at h9
      obtain⟨h9,ay⟩:=h2.N1 (u:=.vec t2 (db ys i y)) (off:=i.toNat) (vals:=(a.eval x).cells.toList) hh hg (by
       obtain⟨aG,k1,k2,k3,k4⟩:=(j7 (g.bx k) (a.eval x).cells.toList i.toNat w).this _ _ _ hh
       refine⟨aG,e,fr,k1,by rw[k2];exact hu,hg,aC,?_⟩
       apply YE
       intro j
       rw[lG,hV]
       by_cases hj:j=i.toNat
       ·subst hj
        have:=k3 0 (by rw[a3];simp) (by omega)
        rw[q6,a3] at this
        rw[this]
        simp only[db]
        rw[GX aX,bR];rfl
       ·rw[k4 j (by rw[a3];simp;omega)]
        simp only[db]
        rw[C6 (oy hj),<-lG,hl,hV]);refine EJ h9 (((h7.gi h.cI.new).trans ay).mono (λq p hx=>?_)) l hd (run hp ab hh hu (by rw[<-C7,a8];omega) M) h1;rcases hx with⟨hx,Q⟩|hx
      ·exact .inl ⟨.inl (.inl hx),Q⟩
      ·exact .inr ⟨k,.inr ⟨i,I⟩,hx⟩
    ·simp at h1
   ·simp at h1
  ·rename_i p t0 i c I;rw[I] at F;obtain⟨b,off,ae,U,bN,aH,h0,aX,hp⟩:∃b o ae U,VO (g.rc C w) p/\(g.rc C w).va p=some (.slice (some ⟨b,o,none⟩) ae U)/\0<=i/\i<(ae:Int)/\a.eval ad=.pointer (some ⟨b,o+i.toNat*cG t0+c,none⟩):=by
    generalize iK ad=m at F;generalize a.eval ad=u at F
    cases F;exact⟨_,_,_,_,by assumption,by assumption,by assumption,by assumption,rfl⟩
   have aQ:(Gs.rc C {g with γ:=γ1} w).va p=some (.slice (some ⟨b,off,none⟩) ae U):=aH;obtain⟨tv,kv,hf,af,bg⟩:=N0 h2 p h1;have done:∀{q:Rt}{π:dh}{am:Nat->G}{cs:Array Value}{e:TypeId}{fr:Nat×Nat}{aR:TV},gp p=(q,π)->kv aR=some r->jy aR=true->dA (XP q π) γ1 w am (w.setCells b (off+i.toNat*cG t0+c) (a.eval x).cells.toList)->
     Rd (Gs.rc C {g with γ:=am} (w.setCells b (off+i.toNat*cG t0+c) (a.eval x).cells.toList)) (some (q,π)) aR (.slice (some ⟨b,off,none⟩) ae U)->w.heap[b]?=some (.cells cs e fr)->mz t0 cs.size fr->off+U*cG t0<=cs.size->ae<=U->c+(C.cX t).sz<=cG t0->
     kG P C E nt o g a w K r (λq=>dU s x q\/dU s ad q) (PD (cZ C s ad)) nb:=by
    intro q π am cs e fr aR hm bS hT aM bT hh hu hs b7 ba
    have aY:oR q π:=by have:=wk p;rwa[hm] at this
    obtain⟨s2,m1,m2,m3⟩:=bg aR am _ bS hT (by rw[hm];exact aM) (λv' ak=>by
     have aS:(Gs.rc C {g with γ:=γ1} w).va p=some v':=ak
     rw[aQ] at aS
     simp only[cW] at aS
     subst aS
     rw[hm];exact bT)
    refine EJ m2 (((h7.gi h.cI.new).trans aM).mono (λq' p' hx=>.inl ?_)) l hd (run hp ab hh hu.un (by
     have h9:(i.toNat+1)*cG t0<=U*cG t0:=mh _ (by omega)
     rw[jv,pF] at h9
     rw[ab];omega) M) m1
    rcases hx with⟨hx,Q⟩|(⟨au,aD⟩|⟨n,hx⟩)
    ·exact⟨.inl (.inl hx),Q⟩
    ·refine⟨.inl (.inr ?_),λan=>oR.Gw aY (λ_=>an) ⟨au,aD⟩⟩;have:=bm p (by rw[I];exact .ep _ _ _);rw[hm] at this;rw[au];exact this
    ·exact⟨.inr ⟨n,hx⟩,λan=>by rw[hx] at an;simp[kE] at an⟩
   split at hf
   ·rename_i d t2 ys;obtain⟨ht,ax⟩:=dM.1 hf;have ht:=fj ht;clear hf;subst ht;obtain⟨y,hy,aT⟩:=eM.1 ax;obtain⟨_,hy⟩:=lp.1 hy;obtain⟨N,ah⟩:=dM.1 aT;have N:=uq.1 N;rw[gV] at N;clear aT ax;unfold one? at ah;split at ah
    ·rename_i y' S;rcases af with af|⟨v',aa,aJ,_⟩
     ·simp at af
     rw[aQ] at aa;simp only[cW] at aa;subst aa;rcases aJ.lu with⟨rfl,_⟩|⟨q,π,b',a5,a6,cs,e,fr,f,hm,ap,hl,aK,hh,hu,hs,hc,hr⟩
     ·simp at hy
     simp only[Value.slice.injEq,cW,Addr.mk.injEq,jg] at ap;obtain⟨⟨rfl,rfl⟩,rfl,rfl⟩:=ap;simp only[cW] at hm;obtain⟨am,m1,m2⟩:=Nj (C:=C) (g:=g) (D:=bif flat t2 then true else bif deep Y then d else false) (vs:=Y) (vals:=(a.eval x).cells.toList) (c:=c) (i:=i) h2.cI.new (λn e=>iV p n (by rw[hm];exact e)) (by have:=wk p;rwa[hm] at this) h0 hy hl aK hh hu hs hc
      (λr2 z j tv hz hj _=>hr r2 z j tv hz hj) h3 (by rw[av];exact N) h5 h6 S (λhD=>by
        cases bU:flat t2 with
        |true=>exact .inl rfl
        |false=>
         rw[bU,cN] at hD
         cases a4:deep Y with
         |true=>rw[a4,cL] at hD;exact .inr ⟨hD,rfl⟩
         |false=>rw[a4] at hD;simp at hD);exact done hm ah rfl m1 m2 hh hu hs hl N
    ·simp at ah
   ·rename_i t2 ys r' c';obtain⟨ht,ax⟩:=dM.1 hf;have ht:=fj ht;clear hf;subst ht;obtain⟨_,aj,aT⟩:=eM.1 ax;have aj:r'=i:=fj (lR.1 aj);clear ax;subst aj;obtain⟨y,hy,ah⟩:=eM.1 aT;obtain⟨_,hy⟩:=lp.1 hy;clear aT;unfold one? at ah;split at ah
    ·rename_i y' S;obtain⟨H,bV⟩:=dM.1 ah;clear ah;have bW:c=c'/\Y.length=1/\deep Y=true:=by
      cases h9:Nat.beq c c' with
      |false=>rw[h9] at H;simp at H
      |true=>
       rw[h9,cL] at H
       cases ay:Nat.beq (pZ Y) 1 with
       |false=>rw[ay] at H;simp at H
       |true=>
        rw[ay,cL] at H
        have:=gw ay
        rw[wD] at this
        exact⟨gw h9,this,H⟩
     obtain⟨aW,bZ,a4⟩:=bW;clear H;subst aW;rcases af with af|⟨v',aa,aJ,_⟩
     ·simp at af
     rw[aQ] at aa;simp only[cW] at aa;subst aa;obtain⟨q,π,b',a5,a6,cs,e,fr,f,hm,ap,hl,aK,hh,hu,hs,hc,hr⟩:=aJ.NQ;simp only[Value.slice.injEq,cW,Addr.mk.injEq,jg] at ap;obtain⟨⟨rfl,rfl⟩,rfl,rfl⟩:=ap;simp only[cW] at hm;have N:c+Y.length<=cG t2:=by
      have bH:=(sN false S).get.1
      rw[gV,BZ] at bH
      simp only[eS,kh,mF,gV] at bH
      omega
     obtain⟨am,m1,m2⟩:=Nj (C:=C) (g:=g) (d:=true) (D:=true) (vs:=Y) (vals:=(a.eval x).cells.toList) (c:=c) (i:=r') h2.cI.new (λn e=>iV p n (by rw[hm];exact e)) (by have:=wk p;rwa[hm] at this) h0 hy hl aK hh hu hs hc
      (λr2 z j tv hz hj aq=>hr r2 z j tv hz hj (by rcases aq with h9|h9;exact .inl h9;exact .inr (by omega))) h3 N h5 h6 S (λ_=>.inr ⟨rfl,a4⟩);exact done hm bV rfl m1 m2 hh hu hs hl (by rw[<-av];exact N)
    ·simp at ah
   ·simp at hf
  ·simp at h1
end
end
section
theorem aat{tv:TV}(h:O6 tv=true):gf tv=true:=by cases tv<;>simp_all [O6,gf]
theorem N2{tv:TV}{u:Value}(j:∀v,zC tv v=true->v=u):∀{n:Nat}{e:List Value},j6 (List.replicate n tv) e=true->e=List.replicate n u
 |0,[],_=>rfl
 |0,_::_,h=>by simp[j6] at h
 |n+1,[],h=>by simp[C8,j6] at h
 |n+1,v::e,h=>by
  simp only[C8,j6,du] at h;rw[C8,<-N2 j h.2,<-j v h.1]
theorem Wl{t:Ty}(h:Ev.gk t=false)(x:El t)(v:Value)(u:zC (nth (enc false t x) 0) v=true):v=jE t x:=by
 obtain⟨tv,e,_,_,_,_⟩:=y6 h false x;have j:=(Wk (c:=⟨default,λ_=>.fr,λ_=>0,λ_=>none⟩) (m:=none) u).1;rw[e] at j;simp only[nth] at j;cases t<;>simp[Ev.gk] at h<;>simp only[enc,lF,jg] at e<;>subst e
 ·exact j.oS
 ·exact j.ka
 ·exact j.nq
section
variable{P:Program}{C:Cx}{E:Env}{nt n:Nat}{o:Oper}{s f:TS}{g g1:Gs}{a:Act}{w b:World}{R:Type}{r:R}{K:TS->Option R}{Z:Rt->Prop}{γ1:Nat->G}{tv:TV}{v:Value}{X:Rt->dh->Prop}{nb:Nat->Prop}
theorem RN(h:Rel C E s g w)(l:eb nt g a)(M:gN nt o.dst){x:Operand}(Q:o.op=.assign x)(hx:fe nt x=true)(S:∀i,gf (C.gl i)=true)(y:Ev.step C o s K=some r):
  gx P C E nt o g a w K r (λq=>dU s x q/\∃d,o.dst=some d/\C.al d=false):=by
 simp only[Ev.step,Q] at y;have D:=iF h l hx;have A:(execOp a.eval o).run P w=.ok (.value (a.eval x)) w:=by simp[execOp,Q]
 have u:∀{tv},cZ C s x=tv->gf tv=true->K (dZ C s o.dst tv)=some r->gx P C E nt o g a w K r (λq=>dU s x q/\∃d,o.dst=some d/\C.al d=false):=λ{tv}I N y=>by
  rw[I] at D
  exact j8 h l M D N A y
 split at y
 ·exact u (by assumption) rfl y
 ·exact u (by assumption) rfl y
 ·exact u (by assumption) rfl y
 ·exact u (by assumption) rfl y
 ·exact u (by assumption) rfl y
 ·exact u (by assumption) rfl y
 ·exact u (by assumption) rfl y
 ·exact u (by assumption) rfl y
 ·split at y
  ·rename_i d j;cases F:C.al d with
   |true=>
    rw[F,cL] at y;obtain⟨H,J⟩:=dM.1 y;exact u rfl (aat H) (by rw[j] at J⊢;exact J)
   |false=>
    rw[F,cN] at y;have U:qk (g.rc C w) (.cC 0,[]) (cZ C s x) (a.eval x):=by
     rcases Ic (s:=s) S (x:=x) with⟨Y,I⟩|⟨Y,I⟩|N
     ·rw[I];exact⟨λp t e=>by simp at e,λp t lo hi e=>by simp at e,λe=>by simp[dC] at e⟩
     ·rw[I];exact⟨λp t e=>by simp at e,λp t lo hi e=>by simp at e,λe=>by simp[dC] at e⟩
     ·exact(D.anyM N _).Gx
    obtain⟨aa,s',ab,H,J,h3,h4,h5,h6⟩:=KE h U y;exact qz J (h5.mono (λq⟨p,hp,hq⟩=>⟨by rw[<-hq];exact uG (λi=>(h.kM i).1) hp,d,j,F⟩)) h.cI.new l M h3 A (by first|exact H|(rw[j];exact H)|(rw[j] at H;exact H))
  ·rename_i j;refine j8 (m:=none) h l M (.un none (a.eval x)) rfl A ?_;rw[j];exact y
theorem abE(hC:fK P C)(h:Rel C E s g w)(l:eb nt g a)(hd:gN nt o.dst){t:Nat}(ho:o.op=.alloc t)(A:Ev.step C o s K=some r):kG P C E nt o g a w K r Z (λ_ _=>False) (λk=>o.dst=some k):=by
 simp only[Ev.step,ho] at A;split at A
 ·rename_i d Q;split at A
  ·have go:uZ P t=true->∀(u:BC),K (((s.fS d).bx d u).put C d (.ptr d 0))=some r->(∀z:Value,z.cells.toList=lU P t->∀e,e=t->(w.alloc (.cells z.cells e)).heap[w.heap.size]?=some (.cells z.cells e (0,0))->tw (Gs.rc C ⟨iu (dP g.γ (.cC 0) [] (.box d) []) w.heap.size (.at (.box d) []),λk=>if k=d then w.heap.size else g.bx k,g.tm⟩ (w.alloc (.cells z.cells e))) d u)->
      kG P C E nt o g a w K r Z (λ_ _=>False) (λk=>o.dst=some k):=λhz u A hu=>by
     obtain⟨z,aa,x,_⟩:=Nd (P:=P) (w:=w) hz
     refine NX (n:=0) (γ1:=g.γ) h (.refl _) h.cI.new l Q hd (vP w z.cells t) (hu z x t rfl (by show(w.heap.push _)[w.heap.size]?=_;simp)) ?_ A
     simp[execOp,ho,Instr.alloc,aa,newVar,newRow]
   have y:=hC.ty t;have M:(if d=d then w.heap.size else g.bx d)=w.heap.size:=cJ rfl;split at A
   ·simp at A
   ·rename_i ht;rw[ht] at y;simp only[iX,du] at y;obtain⟨F,⟨h1,_⟩,h3⟩:=y;have F:=gw F;refine go h1 _ A (λz x e H N=>?_);obtain rfl:e=F3:=H.trans F;split at h3
    ·rename_i I;rw[I] at x;have ab:z.cells=#[.pointer none,.slice none 0 0]:=by
      apply Array.ext'
      rw[x]
     rw[ab] at N⊢;refine⟨.pointer none,.slice none 0 0,by simp only[Gs.rc,M];exact N,by simp only[Gs.rc,M];exact pO,.inl rfl,?_⟩;exactλ_=>.inl ⟨rfl,rfl⟩
    ·simp at h3
   ·rename_i S e ht;obtain⟨et,hu,aj,h1,_,U,hz⟩:=F4 y ht;have J:=(pR y (by rw[ht];rfl)).2.2.2.2;refine go J _ A (λz x e' H N=>?_);refine⟨z.cells,e',(0,0),by simp only[Gs.rc,M];exact N,λj _=>by simp,by simp only[Gs.rc,M];exact pO,U,?_⟩;rw[x,N2 (λv hv=>Wl U _ v hv) hz];simp[tk]
   ·rename_i ad ae af;have D:(C.cX t).var=true:=by
     cases Y:C.cX t<;>first|rfl|exact absurd Y ad|exact absurd Y ae
    have J:=(pR y D).2.2.2.2;have I:=adp y D (λS e=>af S e);refine go J _ A (λz x e' H N=>?_);obtain⟨h1,h2⟩:=Ci (c:=Gs.rc C ⟨iu (dP g.γ (.cC 0) [] (.box d) []) w.heap.size (.at (.box d) []),λk=>if k=d then w.heap.size else g.bx k,g.tm⟩ (w.alloc (.cells z.cells e'))) (m:=λj=>some (.box d,[(0,j)])) I;refine⟨z.cells,e',(0,0),by simp only[Gs.rc,M];exact N,λj _=>by simp,by simp only[Gs.rc,M];exact pO,by rw[<-h1,<-x];simp,λtv ah=>?_,λj tv v hj hv=>?_⟩
    ·obtain⟨j,hj⟩:=qo ah;have ak:=(eF.1 hj).1;have:=(h2 j tv _ hj (eA (by omega))).2.2;simp[jy,this]
    ·have ai:(lU P t)[j]?=some v:=by rw[<-x];simpa using hv
     obtain⟨h3,h4,_⟩:=h2 j tv v hj ai;exact⟨h4,h3⟩
  ·simp at A
 ·simp at A
end
end
section
structure ly(c:Rc)(d:Bool)(t:Ty)(ys:List (El t))(news:List Value):Prop where
 len:news.length=ys.length*cG t
 rd:∀(r:Nat)y(j:Nat)tv,ys[r]?=some y->(enc d t y)[j]?=some tv->∃u,news[r*cG t+j]?=some u/\u.oneCell'=true/\Rd c (some (.cC 1,[((r:Int),cj t j)])) tv u
def mA(e:Nat->G)(a:Nat):Nat->G:=λb=>
 match e b with
 |.at (.cC i) ((x,c)::p)=>if i=1 then .at (.cC 0) ((x+a,c)::p) else .at (.cC i) ((x,c)::p)
 |x=>x
theorem Uq{a:Nat->G}{len b c:Nat}{r:Int}{p:dh}(h:a b=.at (.cC 1) ((r,c)::p)):mA a len b=.at (.cC 0) ((r+len,c)::p):=by simp[mA,h]
theorem uA{j:Nat->G}{e:Nat}:FK (λq=>q=.cC 1) j (mA j e) where
 im:=λb h=>by simp[mA,h]
 at':=λb q p h y=>by
  have a:q≠.cC 1:=λa=>by have:=y a;simp[kE,a] at this
  unfold mA;rw[h];split
  ·rename_i i x c D u;simp only[G.at.injEq] at u;obtain⟨rfl,rfl⟩:=u;rw[cK (λA=>a (by rw[A]))]
  ·rfl
 fr:=λb h=>by simp[mA,h]
theorem adv{t:Ty}{olds a:List Value}{n r j:Nat}{u:Value}(e:olds.length=n*cG t)(x:a[r*cG t+j]?=some u):(olds++a)[(n+r)*cG t+j]?=some u:=by
 rw[pG (by rw[e,jv];omega),e,show(n+r)*cG t+j-n*cG t=r*cG t+j by rw[jv];omega];exact x
section
variable{P:Program}{C:Cx}{E:Env}{s:TS}{g:Gs}{w:World}{γ1:Nat->G}
theorem aau{D:Bool}{t:Ty}{a Y:List (El t)}{olds y:List Value}(Z:olds.length=a.length*cG t)(I:∀(r:Nat)x(j:Nat)A,a[r]?=some x->(enc D t x)[j]?=some A->∃u,olds[r*cG t+j]?=some u/\u.oneCell'=true/\Rd (Gs.rc C {g with γ:=γ1} w) (some (.cC 0,[((r:Int),cj t j)])) A u)
  (J:ly (Gs.rc C {g with γ:=γ1} w) D t Y y):∀(r:Nat)x(j:Nat)A,(a++Y)[r]?=some x->(enc D t x)[j]?=some A->∃u,(olds++y)[r*cG t+j]?=some u/\u.oneCell'=true/\Rd (Gs.rc C {g with γ:=mA γ1 a.length} w) (some (.cC 0,[((r:Int),cj t j)])) A u:=by
 intro r x j A hx H;have e:=fN H;have aa:j<cG t:=by have:=(eF.1 H).1;rwa[gV] at this
 by_cases hr:r<a.length
 ·rw[oB hr] at hx;obtain⟨u,M,N,Q⟩:=I r x j A hx H;refine⟨u,?_,N,?_⟩
  ·rw[oB (by rw[Z];have:(r+1)*cG t<=a.length*cG t:=mh _ hr;rw[jv,pF] at this;omega)];exact M
  ·exact Q.xt (g:={g with γ:=γ1}) (by simp[fy,e]) uA (λq p F=>by simp only[cW,eE] at F;rw[<-F.1];simp)
 ·rw[pG (by omega)] at hx;obtain⟨u,M,N,Q⟩:=J.rd (r-a.length) x j A hx H;refine⟨u,?_,N,?_⟩
  ·have:=adv (olds:=olds) Z M;rwa[show a.length+(r-a.length)=r by omega] at this
  ·refine Q.mono _ (λb R=>⟨uA.im b R,rfl⟩) (λq p F=>?_) (λi hi=>absurd hi (kz e i)) (λp S=>absurd S (fZ e p)) (λp S=>absurd S.mv (fZ e p));simp only[cW,eE] at F;obtain⟨rfl,rfl⟩:=F;refine⟨_,_,rfl,λb π R=>⟨?_,rfl⟩⟩;have U:γ1 b=.at (.cC 1) (((((r-a.length:Nat)):Int),cj t j)::π):=by have h9:γ1 b=_:=R;simpa using h9
   have:=Uq (len:=a.length) U;rw[show(((r-a.length:Nat):Int)+(a.length:Nat))=(r:Int) by omega] at this;show mA γ1 a.length b=_;simpa using this
theorem EK(h:Rel C E s {g with γ:=γ1} w){D:Bool}{t:Ty}{xs e:List (El t)}{olds a:List Value}{H ty Z tt:TypeId}{i:TypeInfo}{z:Value}{vy:Value}{y:Option Addr}{cap:Nat}(ht:P.underlying tt=some (.slice H))(hi:P.info? H=some i)(hz:i.zero=some z)
  (hs:i.size=cG t)(aa:z.cells.size=cG t)(ho:olds.length=xs.length*cG t)(J:(Builtin.firstCells i.size xs.length (.slice y xs.length cap)).run P w.drew=.ok olds.toArray w.drew)(src:Src P i.size Z vy e.length a w)
  (ab:∀(r:Nat)x(j:Nat)A,xs[r]?=some x->(enc D t x)[j]?=some A->∃u,olds[r*cG t+j]?=some u/\u.oneCell'=true/\Rd (Gs.rc C {g with γ:=γ1} w) (some (.cC 0,[((r:Int),cj t j)])) A u)
  (M:ly (Gs.rc C {g with γ:=γ1} w) D t e a)(hg:cap<xs.length+e.length)(hb:2*(xs.length+e.length)*i.bytes<=2^48)(af:xs.length+e.length<=2^62):
  ∃v w' I,(Builtin.append_ #[tt,Z] ty #[.slice y xs.length cap,vy]).run P w=.ok v w'/\Rel C E s {g with γ:=I} w'/\Rd (Gs.rc C {g with γ:=I} w') (some (.cC 0,[])) (.own D t (xs++e)) v/\dA (λq _=>∃n,q=.cC n) γ1 w I w':=by
 have N:Builtin.nextslicecap (xs.length+e.length) cap*i.bytes<=281474976710656:=growslice_fits hg (by rw[Nat.mul_assoc] at hb;omega);have Q:=run_append_grow_src (P:=P) w tt Z ty H i z ht hi hz y xs.length cap olds J vy e.length a src hg (by omega) N;have ad:=grownCap_ge w (xs.length+e.length) cap H;have R:Rel C E s {g with γ:=mA γ1 xs.length} w:=h.pV (g:={g with γ:=γ1}) (uA.mono (λq hq=>⟨1,hq⟩));have F:∀(r:Nat)x(j:Nat)A,(xs++e)[r]?=some x->(enc D t x)[j]?=some A->∃u,((olds++a).toArray++Builtin.zeroCells z.cells (grownCap w (xs.length+e.length) cap H-(xs.length+e.length)))[r*cG t+j]?=some u/\u.oneCell'=true/\Rd (Gs.rc C {g with γ:=mA γ1 xs.length} w) (some (.cC 0,[((r:Int),cj t j)])) A u:=λr x j A hx S=>by
  obtain⟨u,U,Y,h3⟩:=aau ho ab M r x j A hx S
  refine⟨u,?_,Y,h3⟩
  have ae:=(eF.1 U).1
  rw[P0 (by simpa using ae)]
  simpa using U
 obtain⟨U,Y,h3⟩:=Jy (n:=0) (d:=D) (t:=t) (xs:=xs++e) (cap:=grownCap w (xs.length+e.length) cap H) R (aao w ((olds++a).toArray++Builtin.zeroCells z.cells (grownCap w (xs.length+e.length) cap H-(xs.length+e.length))) H)
  (λr j=>((olds++a).toArray++Builtin.zeroCells z.cells (grownCap w (xs.length+e.length) cap H-(xs.length+e.length)))[r*cG t+j]?.getD undef) (by simpa using ad) (by
    rw[PY,size_zeroCells,aa]
    simp only[LM,eS,ho,M.len]
    rw[<-jv,<-jv]
    exact mh _ (by omega))
  (λr x j A hx S=>by obtain⟨u,k1,k2,_⟩:=F r x j A hx S;rw[k1];exact⟨rfl,k2⟩)
  (λr x j A hx S=>by obtain⟨u,k1,_,k3⟩:=F r x j A hx S;rw[k1];exact k3);rw[eS] at Y;refine⟨_,_,_,Q,U,Y,((uA.gi h.cI.new).trans h3).mono (λq p hx=>?_)⟩;rcases hx with⟨hx,_⟩|hx
 ·exact⟨1,hx⟩
 ·exact hx.elim
theorem abF(h:Rel C E s {g with γ:=γ1} w){D:Bool}{t:Ty}{a S:List (El t)}{A:List Value}{et ty tx tt:TypeId}{i:TypeInfo}{vy:Value}{b y H:Nat}{cs:Array Value}{e:TypeId}{fr:Nat×Nat}{f:Nat->Nat->Value}(ht:P.underlying tt=some (.slice et))(hi:P.info? et=some i)
  (hs:i.size=cG t)(src:Src P i.size tx vy S.length A w)
  (hl:a.length<=H)(am:γ1 b=.at (.cC 0) [tg t])(hh:w.heap[b]?=some (.cells cs e fr))(hu:mz t cs.size fr)(an:y+H*cG t<=cs.size)
  (hc:∀(r:Nat)x(j:Nat)I,a[r]?=some x->(enc D t x)[j]?=some I->cellAt w b (y+r*cG t+j)=some (f r j)/\(f r j).oneCell'=true)
  (hr:∀(r:Nat)x(j:Nat)I,a[r]?=some x->(enc D t x)[j]?=some I->Rd (Gs.rc C {g with γ:=γ1} w) (some (.cC 0,[((r:Int),cj t j)])) I (f r j))
  (ah:ly (Gs.rc C {g with γ:=γ1} w) D t S A)(J:a.length+S.length<=H):
  ∃v w' ab,(Builtin.append_ #[tt,tx] ty #[.slice (some ⟨b,y,none⟩) a.length H,vy]).run P w=.ok v w'/\Rel C E s {g with γ:=ab} w'/\Rd (Gs.rc C {g with γ:=ab} w') (some (.cC 0,[])) (.own D t (a++S)) v/\dA (λq _=>∃n,q=.cC n) γ1 w ab w':=by
 have ai:(a.length+S.length)*cG t<=H*cG t:=mh _ J;rw[jv] at ai;have M:∀k,w.cell? ⟨b,k,none⟩=cs[k]?:=λk=>by simp[World.cell?,hh]
 have ao:∀k,k<cs.size->w.frozen? ⟨b,k,none⟩=false:=λk hk=>by
  have:=hu k hk
  simp only[World.frozen?,hh]
  simp only[YD,kS]
  by_cases h1:fr.1<=k
  ·exact .inr (λh2=>this ⟨h1,h2⟩)
  ·exact .inl h1
 have aw:=ah.len;have U:=run_append_room_src (P:=P) w tt tx ty et i ht hi b y a.length H vy S.length A src J (λj N=>by rw[M,hs];rw[ju (by omega)];rfl) (λj N=>ao _ (by rw[hs];omega));rw[hs] at U;have pk:=j7 b A (y+a.length*cG t) w;obtain⟨R,k1,k2,k3,k4⟩:=pk.this _ _ _ hh;have Y:Rel C E s {g with γ:=mA γ1 a.length} w:=h.pV (g:={g with γ:=γ1}) (uA.mono (λq hq=>⟨1,hq⟩));have aj:mA γ1 a.length b=.at (.cC 0) [tg t]:=uA.at' b _ _ am (λh=>by simp at h);have ad:=wo pk Y.cI.new aj;have Z:dA (λq _=>∃n,q=Rt.cC n) (mA γ1 a.length) w (mA γ1 a.length) (w.setCells b (y+a.length*cG t) A):=ad.mono (λq p hx=>⟨0,hx.1⟩);have ae:=Y.grow Z (λq p hx=>hx);refine⟨_,_,mA γ1 a.length,U,ae,?_,((uA.gi h.cI.new).trans Z).mono (λq p hx=>by rcases hx with⟨hx,_⟩|hx;exact⟨1,hx⟩;exact hx)⟩;have Q:∀(r:Nat)x(j:Nat)I,(a++S)[r]?=some x->(enc D t x)[j]?=some I->∃u,R[y+r*cG t+j]?=some u/\u.oneCell'=true/\Rd (Gs.rc C {g with γ:=mA γ1 a.length} w) (some (.cC 0,[((r:Int),cj t j)])) I u:=λr x j I hx N=>by
  have F:=fN N
  have ax:j<cG t:=by have:=(eF.1 N).1;rwa[gV] at this
  by_cases ak:r<a.length
  ·rw[oB ak] at hx;obtain⟨m1,m2⟩:=hc r x j I hx N;have ap:(r+1)*cG t<=a.length*cG t:=mh _ ak;rw[jv,pF] at ap;refine⟨f r j,?_,m2,?_⟩
   ·rw[k4 _ (by omega)];have:cellAt w b (y+r*cG t+j)=cs[y+r*cG t+j]?:=M _;rw[<-this];exact m1
   ·exact(hr r x j I hx N).xt (g:={g with γ:=γ1}) (by simp[fy,F]) uA (λq p he=>by simp only[cW,eE] at he;rw[<-he.1];simp)
  ·rw[pG (by omega)] at hx;have ay:=(eF.1 hx).1;obtain⟨u,h1,h2,h3⟩:=ah.rd (r-a.length) x j I hx N;have aq:=(eF.1 h1).1;refine⟨u,?_,h2,?_⟩
   ·have:=k3 ((r-a.length)*cG t+j) aq (by omega);rw[show y+a.length*cG t+((r-a.length)*cG t+j)=y+r*cG t+j by
     have:r*cG t=a.length*cG t+(r-a.length)*cG t:=by rw[<-jv];congr 1;omega
     omega] at this;rw[this];exact h1
   ·refine h3.mono _ (λb hb=>⟨uA.im b hb,rfl⟩) (λq p he=>?_) (λi hi=>absurd hi (kz F i)) (λp hp=>absurd hp (fZ F p)) (λp hp=>absurd hp.mv (fZ F p));simp only[cW,eE] at he;obtain⟨rfl,rfl⟩:=he;refine⟨_,_,rfl,λb π hb=>⟨?_,rfl⟩⟩;have au:γ1 b=.at (.cC 1) (((((r-a.length:Nat)):Int),cj t j)::π):=by have h9:γ1 b=_:=hb;simpa using h9
    have:=Uq (len:=a.length) au;rw[show(((r-a.length:Nat):Int)+(a.length:Nat))=(r:Int) by omega] at this;show mA γ1 a.length b=_;simpa using this
 have aa:=Rd.kf (c:=Gs.rc C {g with γ:=mA γ1 a.length} (w.setCells b (y+a.length*cG t) A)) (.cC 0) [] D t (a++S) b y H R e fr (λr j=>R[y+r*cG t+j]?.getD undef) (by simpa using J) aj k1 (by rw[k2];exact hu) (by rw[k2];exact an)
  (λr x j I hx N=>by
    obtain⟨u,m1,m2,_⟩:=Q r x j I hx N
    have av:(w.setCells b (y+a.length*cG t) A).heap[b]?=some (.cells R e fr):=k1
    exact⟨by simp[cellAt,World.cell?,Gs.rc,av,m1],by simp[m1,m2]⟩)
  (λr x j I hx N=>by
    obtain⟨u,m1,_,m3⟩:=Q r x j I hx N
    rw[m1]
    have F:=fN N
    refine m3.same (λb hb=>ad.im b hb) (λq' p' he b' az hb=>ad.at' b' _ _ hb (λhx=>?_)) (λi hi=>absurd hi (kz F i)) (λp af=>absurd af (fZ F p)) (λp af=>absurd af.mv (fZ F p))
    simp only[cW,eE] at he
    rw[<-he.2] at hx
    have:=hx.2
    simp only[ic,xI,lF] at this
    exact F1 this.1);rw[eS] at aa;exact aa
end
end
section
theorem na{R:Type}{r:R}{t j:Ty}{u:List (El t)}{K:List (El j)->Option R}(h:castLT t j u K=some r):∃e:t=j,K (jL e u)=some r:=by
 unfold castLT at h;split at h
 ·rename_i e;exact⟨e,h⟩
 ·simp at h
theorem OJ(t:Ty)(x:El t):enc (flat t) t x=enc false t x:=by
 cases e:flat t with
 |true=>exact mK e true false x
 |false=>rfl
section
variable{P:Program}{C:Cx}{E:Env}{nt n:Nat}{o:Oper}{s B:TS}{g g1:Gs}{a:Act}{w A:World}{R:Type}{r:R}{γ1:Nat->G}{tv:TV}{v:Value}
theorem JA{c:Rc}{d:Bool}{t:Ty}{ys:List (El t)}{b off:Nat}{f:Nat->Nat->Value}(J:∀(r:Nat)y(j:Nat)tv,ys[r]?=some y->(enc d t y)[j]?=some tv->cellAt w b (off+r*cG t+j)=some (f r j)/\(f r j).oneCell'=true)
  (M:∀(r:Nat)y(j:Nat)tv,ys[r]?=some y->(enc d t y)[j]?=some tv->Rd c (some (.cC 1,[((r:Int),cj t j)])) tv (f r j)):
  ∃news:List Value,(∀k u,news[k]?=some u->cellAt w b (off+k)=some u)/\(∀u∈news,u.oneCell'=true)/\ly c d t ys news:=by
 have S:=Jq t;have N:∀r j,r<ys.length->j<cG t->((List.range (ys.length*cG t)).map λk=>f (k/cG t) (k % cG t))[r*cG t+j]?=some (f r j):=λr j M I=>by
  have x:r*cG t+j<ys.length*cG t:=by
   have:(r+1)*cG t<=ys.length*cG t:=mh _ M
   rw[jv,pF] at this
   omega
  rw[hV,zR x]
  have F:(r*cG t+j)/cG t=r:=by rw[vr,ah9 _ _ S,P1 I,ia]
  have H:(r*cG t+j) % cG t=j:=by rw[vr,Yx];exact zS I
  simp[F,H]
 have D:∀k u,((List.range (ys.length*cG t)).map λk=>f (k/cG t) (k % cG t))[k]?=some u->∃r j,r<ys.length/\j<cG t/\k=r*cG t+j/\u=f r j:=λk u e=>by
  rw[hV] at e
  have x:k<ys.length*cG t:=by
   rcases xJ k (ys.length*cG t) with h|h
   ·exact h
   ·rw[mY (by simpa using h)] at e;simp at e
  rw[zR x] at e;simp only[jc,cW] at e;exact⟨k/cG t,k % cG t,P2 (by rw[vv];exact x),LN _ S,by rw[vv];exact(P3 k (cG t)).symm,e.symm⟩
 refine⟨(List.range (ys.length*cG t)).map λk=>f (k/cG t) (k % cG t),λk u e=>?_,λu U=>?_,⟨by simp,λr y j tv Q I=>?_⟩⟩
 ·obtain⟨r,j,F,H,rfl,rfl⟩:=D k u e;have:=(J r ys[r] j _ (eA F) (eA (by rw[gV];exact H))).1;rw[<-oA];exact this
 ·obtain⟨k,e⟩:=qo U;obtain⟨r,j,F,H,_,rfl⟩:=D k u e;exact(J r ys[r] j _ (eA F) (eA (by rw[gV];exact H))).2
 ·have F:=(eF.1 Q).1;have H:j<cG t:=by have:=(eF.1 I).1;rwa[gV] at this
  exact⟨f r j,N r j F H,(J r y j tv Q I).2,M r y j tv Q I⟩
theorem Ih{sz:Nat}{D:TypeId}(F:(∃M,P.underlying D=some (.slice M))\/P.underlying D=some .string){b x cap n:Nat}{e:List Value}(H:e.length=n*sz)(J:∀k u,e[k]?=some u->cellAt w b (x+k)=some u)(N:∀u∈e,u.oneCell'=true):
  Src P sz D (.slice (some ⟨b,x,none⟩) n cap) n e w:=by
 have y:∀j,(⟨b,x,none⟩:Addr).add j=⟨b,x+j,none⟩:=λj=>by unfold Addr.add;split<;>simp_all
 exact⟨F,λ_=>rfl,run_firstCells_some w sz n ⟨b,x,none⟩ n cap e H (λj v I=>by rw[y];exact J j v I),run_firstCells_some w.drew sz n ⟨b,x,none⟩ n cap e H (λj v I=>by rw[y];exact J j v I),H,N⟩
theorem B4{j:Nat}{x:TypeId}(u:(∃D,P.underlying x=some (.slice D))\/P.underlying x=some .string){va:Option Addr}{e:Nat}:Src P j x (.slice va 0 e) 0 [] w:=by
 cases va with
 |none=>exact⟨u,λ_=>rfl,run_firstCells_none w j 0 0 e,run_firstCells_none w.drew j 0 0 e,by simp,λ_ h=>by cases h⟩
 |some y=>exact⟨u,λ_=>rfl,run_firstCells_some w j 0 y 0 e [] (by simp) (by simp),run_firstCells_some w.drew j 0 y 0 e [] (by simp) (by simp),by simp,λ_ h=>by cases h⟩
theorem ly.nil{c:Rc}{d:Bool}{t:Ty}:ly c d t ([]:List (El t)) []:=⟨by simp,λr y j tv e=>by simp at e⟩
theorem adw(h:Rel C E s g w)(l:eb nt g a)(hg:∀i,gf (C.gl i)=true){y:Operand}(hy:fe nt y=true){t:Ty}{tx:TypeId}(N:(∃e',P.underlying tx=some (.slice e'))\/P.underlying tx=some .string){K:Bool->List (El t)->TS->Option R}(D:l5 C t (cZ C s y) s K=some r):
  ∃d ys S γ' F,K d ys S=some r/\Rel C E S {g with γ:=γ'} w/\Src P (cG t) tx (a.eval y) ys.length F w/\ly (Gs.rc C {g with γ:=γ'} w) d t ys F/\FK (dU s y) g.γ γ'/\eX S s:=by
 have Q:=iF h l hy;have ab:∀{d}{ys:List (El t)}{u:Value}{S γ'},u=a.eval y->Rel C E S {g with γ:=γ'} w->(∃m,Rd (Gs.rc C {g with γ:=γ'} w) m (.dT t ys) u)->d=flat t\/d=false->FK (dU s y) g.γ γ'->eX S s->K d ys S=some r->
   ∃d ys S γ' F,K d ys S=some r/\Rel C E S {g with γ:=γ'} w/\Src P (cG t) tx (a.eval y) ys.length F w/\ly (Gs.rc C {g with γ:=γ'} w) d t ys F/\FK (dU s y) g.γ γ'/\eX S s:=by
  intro d ys u S γ' hu af ⟨m,hr⟩ hd hf aq D
  have au:∀y:El t,enc d t y=enc false t y:=λy=>by
   rcases hd with rfl|rfl
   ·exact OJ t y
   ·rfl
  rcases hr.qy with⟨rfl,va,cap,H⟩|⟨b,off,cap,f,H,M,ah,hc,Z⟩
  ·exact⟨d,[],S,γ',[],D,af,by rw[<-hu,H];exact B4 N,.nil,hf,aq⟩
  ·obtain⟨F,h1,h2,h3⟩:=JA (c:=Gs.rc C {g with γ:=γ'} w) (w:=w) (d:=d) (b:=b) (off:=off) (ys:=ys) (f:=f) (λr y j tv hy Y=>hc r y j tv hy (by rwa[au] at Y)) (λr y j tv hy Y=>(Z r y j tv hy (by rwa[au] at Y)).lift _);exact⟨d,ys,S,γ',F,D,af,by rw[<-hu,H];exact Ih N h3.len h1 h2,h3,hf,aq⟩
 have aB:flat t=true->∀{d}{ys:List (El t)}{u:Value}{m},u=a.eval y->Rd (g.rc C w) m (.own d t ys) u->K true ys s=some r->∃d ys S γ' F,K d ys S=some r/\Rel C E S {g with γ:=γ'} w/\Src P (cG t) tx (a.eval y) ys.length F w/\ly (Gs.rc C {g with γ:=γ'} w) d t ys F/\FK (dU s y) g.γ γ'/\eX S s:=by
  intro I d ys u m hu hr D
  rcases hr.lu with⟨rfl,va,H⟩|⟨q,p,b,off,cap,cs,e,fr,f,hm,H,M,ah,hh,av,hs,hc,Z⟩
  ·exact⟨true,[],s,g.γ,[],D,h,by rw[<-hu,H];exact B4 N,.nil,.refl _,.refl _⟩
  ·obtain⟨F,h1,h2,h3⟩:=JA (c:=g.rc C w) (w:=w) (d:=true) (b:=b) (off:=off) (ys:=ys) (f:=f) (λr y j tv hy Y=>hc r y j tv hy (by rwa[mK I true d] at Y)) (λr y j tv hy Y=>(Z r y j tv hy (by rwa[mK I true d] at Y)).any (fN Y) (rE (x:=y) (j:=j) (by rwa[mK I true false] at Y)) _);exact⟨true,ys,s,g.γ,F,D,h,by rw[<-hu,H];exact Ih N h3.len h1 h2,h3,.refl _,.refl _⟩
 unfold l5 at D;split at D
 ·rename_i t' ys J;obtain⟨e,D⟩:=na D;subst e;rw[J] at Q;exact ab rfl h ⟨_,Q⟩ (.inl rfl) (.refl _) (.refl _) D
 ·rename_i t' ys J;obtain⟨e,D⟩:=na D;subst e;rw[J] at Q;exact ab rfl h ⟨_,Q.yW⟩ (.inl rfl) (.refl _) (.refl _) D
 ·rename_i J;rw[J] at Q;have he:a.eval y=.slice none 0 0:=by generalize iK y=m at Q;generalize a.eval y=u at Q;cases Q;rfl
  exact⟨true,[],s,g.γ,[],D,h,by rw[he];exact B4 N,.nil,.refl _,.refl _⟩
 ·rename_i J;rw[J] at Q;obtain⟨va,he⟩:∃va,a.eval y=.slice va 0 0:=by generalize iK y=m at Q;generalize a.eval y=u at Q;cases Q;exact⟨_,rfl⟩
  exact⟨true,[],s,g.γ,[],D,h,by rw[he];exact B4 N,.nil,.refl _,.refl _⟩
 ·rename_i b J;obtain⟨e,D⟩:=na D;subst e;rw[J] at Q;have he:=Q.nq;have aw:(jL rfl (show List (El (.int .u8)) from dB b)).length=(ByteArray.mk ⟨b⟩).size:=by show(dB b).length=_;simp[dB];rfl
  refine⟨true,_,s,g.γ,byteCells ⟨⟨b⟩⟩,D,h,?_,⟨?_,?_⟩,.refl _,.refl _⟩
  ·rw[he,aw];exact⟨N,λ_=>rfl,firstCells_string ⟨⟨b⟩⟩ w,firstCells_string ⟨⟨b⟩⟩ w.drew,by rw[byteCells_length];simp[cG],λu hu=>by
    obtain⟨_,_,rfl⟩:=gR.1 hu
    rfl⟩
  ·rw[aw,byteCells_length];simp[cG]
  ·intro r z j tv hz Y;have ae:(b.map λc=>(c.toNat:Int))[r]?=some (show Int from z):=hz;rw[hV] at ae;obtain⟨c,hc,ae⟩:=xE.1 ae;cases j with
   |zero=>
    simp[enc] at Y;subst Y;refine⟨.int .u8 (show Int from z),?_,rfl,.i _ _ _⟩;rw[show r*cG (.int .u8)+0=r by simp[cG]];simp only[byteCells,hV];rw[hc];simp[<-ae]
   |succ j=>simp[enc] at Y
 ·rename_i p t0 J;rw[J] at Q;have ai:(g.rc C w).va p=some (a.eval y):=by generalize iK y=m at Q;cases Q;assumption
  cases I:flat t with
  |true=>
   rw[I,cL] at D;obtain⟨tv,aj,D⟩:=oL D;have M:=pN h ai aj;split at D
   ·obtain⟨e,D⟩:=na D;subst e;rcases M with M|M
    ·simp at M
    exact aB I rfl M D
   ·obtain⟨e,D⟩:=na D;subst e;rcases M with M|M
    ·simp at M
    exact ab rfl h ⟨_,M⟩ (.inl I.symm) (.refl _) (.refl _) D
   ·simp at D
  |false=>
   rw[I,cN] at D;have hF:qk (g.rc C w) (.cC 1,[]) (cZ C s y) (a.eval y):=by rw[J];exact(Q.anyM rfl _).Gx
   obtain⟨aC,S,γ',h1,h2,h3,h4,h5,h6⟩:=KE h hF D;have ad:FK (dU s y) g.γ γ':=h5.mono (λq⟨p',hp,hq⟩=>by rw[<-hq];exact uG (λi=>(h.kM i).1) hp);split at h1
   ·rename_i d t' ys;obtain⟨e,h1⟩:=na h1;subst e;rcases h3.lu with⟨rfl,va,H⟩|⟨q,π,b,off,cap,cs,e,fr,f,hm,H,M,ah,hh,av,hs,hc,Z⟩
    ·exact⟨d,[],S,γ',[],h1,h2,by rw[H];exact B4 N,.nil,ad,h6⟩
    ·simp only[cW,eE] at hm;obtain⟨rfl,rfl⟩:=hm;obtain⟨F,k1,k2,k3⟩:=JA (c:=Gs.rc C {g with γ:=γ'} w) (w:=w) (d:=d) (b:=b) (off:=off) (ys:=ys) (f:=f) hc Z;exact⟨d,ys,S,γ',F,h1,h2,by rw[H];exact Ih N k3.len k1 k2,k3,ad,h6⟩
   ·obtain⟨e,h1⟩:=na h1;subst e;exact ab rfl h2 ⟨_,h3⟩ (.inr rfl) ad h6 h1
   ·simp at h1
 ·rename_i p t0 lo hi J;rw[J] at Q;obtain⟨aa,ak,cap,a',U,aF,ai,am,h2,h3,h4,h5,h6,h7⟩:∃aa ak cap a' U,VO (g.rc C w) p/\(g.rc C w).va p=some (.slice aa ak cap)/\a.eval y=.slice a' (hi.toNat-lo.toNat) U/\0<=lo/\lo<=hi/\hi<=(ak:Int)/\
    (U=0\/∃b o,aa=some ⟨b,o,none⟩/\a'=some ⟨b,o+lo.toNat*cG t0,none⟩)/\hi.toNat-lo.toNat<=U/\U+lo.toNat<=cap:=by
   generalize iK y=m at Q
   generalize a.eval y=u at Q
   cases Q;exact⟨_,_,_,_,_,by assumption,by assumption,rfl,by assumption,by assumption,by assumption,by assumption,by assumption,by assumption⟩
  cases I:flat t with
  |true=>
   rw[I,cL] at D;obtain⟨tv,aj,D⟩:=oL D;have M:=pN h ai aj;split at D
   ·rename_i d t' ys;obtain⟨ht,an⟩:=dM.1 D;have ht:=fj ht;clear D;subst ht;obtain⟨zs,ao,D⟩:=eM.1 an;obtain⟨⟨_,_,h9⟩,rfl⟩:=sJ.1 ao;obtain⟨e,D⟩:=na D;subst e;rcases M with M|M
    ·simp at M
    have ap:((ys.drop lo.toNat).take (hi.toNat-lo.toNat)).length=hi.toNat-lo.toNat:=by simp;omega
    by_cases ax:hi.toNat-lo.toNat=0
    ·have ay:(ys.drop lo.toNat).take (hi.toNat-lo.toNat)=[]:=by rw[ax];rfl
     refine⟨true,_,s,g.γ,[],D,h,?_,?_,.refl _,.refl _⟩
     ·show Src P _ tx _ ((ys.drop lo.toNat).take (hi.toNat-lo.toNat)).length [] w;rw[ap,am,ax];exact B4 N
     ·show ly _ true t' ((ys.drop lo.toNat).take (hi.toNat-lo.toNat)) [];rw[ay];exact .nil
    ·rcases h5 with h5|⟨b,off,rfl,rfl⟩
     ·omega
     rcases M.lu with⟨rfl,va,H⟩|⟨q,π,b',aD,aE,cs,e,fr,f,hm,H,aG,ah,hh,av,hs,hc,Z⟩
     ·simp at h9;omega
     simp only[Value.slice.injEq,cW,Addr.mk.injEq,jg] at H;obtain⟨⟨rfl,rfl⟩,rfl,rfl⟩:=H;have az:∀(r:Nat)(x:El t'),((ys.drop lo.toNat).take (hi.toNat-lo.toNat))[r]?=some x->ys[lo.toNat+r]?=some x:=λr x hx=>by
      rw[oz] at hx
      split at hx
      ·rwa[vp] at hx
      ·simp at hx
     obtain⟨F,k1,k2,k3⟩:=JA (c:=g.rc C w) (w:=w) (d:=true) (b:=b) (off:=off+lo.toNat*cG t') (ys:=(ys.drop lo.toNat).take (hi.toNat-lo.toNat)) (f:=λr j=>f (lo.toNat+r) j)
      (λr y j tv hy Y=>by
        have:=hc _ y j tv (az r y hy) (by rwa[mK I true d] at Y)
        rw[jv] at this
        rw[show off+lo.toNat*cG t'+r*cG t'+j=off+(lo.toNat*cG t'+r*cG t')+j by omega]
        exact this)
      (λr y j tv hy Y=>(Z _ y j tv (az r y hy) (by rwa[mK I true d] at Y)).any (fN Y) (rE (x:=y) (j:=j) (by rwa[mK I true false] at Y)) _);refine⟨true,_,s,g.γ,F,D,h,?_,k3,.refl _,.refl _⟩;have aA:=Ih (P:=P) (w:=w) (sz:=cG t') (cap:=U) N k3.len k1 k2;rw[ap] at aA;show Src P _ tx _ ((ys.drop lo.toNat).take (hi.toNat-lo.toNat)).length F w;rw[am,ap];exact aA
   ·rename_i t' ys;obtain⟨ht,an⟩:=dM.1 D;have ht:=fj ht;clear D;subst ht;obtain⟨zs,ao,D⟩:=eM.1 an;obtain⟨⟨_,_,h9⟩,rfl⟩:=sJ.1 ao;obtain⟨e,D⟩:=na D;subst e;rcases M with M|M
    ·simp at M
    exact ab am.symm h ⟨none,Rd.Fg M h2 h3 h9 h5 h6⟩ (.inl I.symm) (.refl _) (.refl _) D
   ·simp at D
  |false=>
   rw[I,cN] at D;have hF:qk (g.rc C w) (.cC 1,[]) (cZ C s y) (a.eval y):=by rw[J];exact(Q.anyM rfl _).Gx
   obtain⟨aC,S,γ',k1,k2,k3,k4,k5,k6⟩:=KE h hF D;have ad:FK (dU s y) g.γ γ':=k5.mono (λq⟨p',hp,hq⟩=>by rw[<-hq];exact uG (λi=>(h.kM i).1) hp);split at k1
   ·obtain⟨e,k1⟩:=na k1;subst e;exact ab rfl k2 ⟨_,k3⟩ (.inr rfl) ad k6 k1
   ·simp at k1
 ·simp at D
end
end
section
theorem ZP{t:Ty}(n:Nat)(f:Nat->Nat->Value):∃e:List Value,e.length=n*cG t/\(∀r j,r<n->j<cG t->e[r*cG t+j]?=some (f r j))/\∀k u,e[k]?=some u->∃r j,r<n/\j<cG t/\k=r*cG t+j/\u=f r j:=by
 have A:=Jq t;refine⟨(List.range (n*cG t)).map λk=>f (k/cG t) (k % cG t),by simp,λr j F D=>?_,λk u y=>?_⟩
 ·have x:r*cG t+j<n*cG t:=by
    have:(r+1)*cG t<=n*cG t:=mh _ F
    rw[jv,pF] at this
    omega
  rw[hV,zR x];have H:(r*cG t+j)/cG t=r:=by rw[vr,ah9 _ _ A,P1 D,ia]
  have I:(r*cG t+j) % cG t=j:=by rw[vr,Yx];exact zS D
  simp[H,I]
 ·rw[hV] at y;have x:k<n*cG t:=by
   rcases xJ k (n*cG t) with h|h
   ·exact h
   ·rw[mY (by simpa using h)] at y;simp at y
  rw[zR x] at y;simp only[jc,cW] at y;exact⟨k/cG t,k % cG t,P2 (by rw[vv];exact x),LN _ A,by rw[vv];exact(P3 k (cG t)).symm,y.symm⟩
section
variable{P:Program}{C:Cx}{E:Env}{nt n:Nat}{o:Oper}{s m:TS}{g g1:Gs}{a:Act}{w l:World}{R:Type}{r:R}{γ1:Nat->G}{tv:TV}{v:Value}
theorem N3{t:Ty}{A:List (El t)}{D:Bool}{b y cap:Nat}{f:Nat->Nat->Value}{M:Nat->Nat->Option Gp}{c:Rc}(N:∀(r:Nat)x(j:Nat)tv,A[r]?=some x->(enc D t x)[j]?=some tv->cellAt w b (y+r*cG t+j)=some (f r j)/\(f r j).oneCell'=true)
  (S:∀(r:Nat)x(j:Nat)tv,A[r]?=some x->(enc D t x)[j]?=some tv->Rd c (M r (cj t j)) tv (f r j)):∃e:List Value,e.length=A.length*cG t/\(Builtin.firstCells (cG t) A.length (.slice (some ⟨b,y,none⟩) A.length cap)).run P w.drew=.ok e.toArray w.drew/\
    ∀(r:Nat)x(j:Nat)tv,A[r]?=some x->(enc D t x)[j]?=some tv->∃u,e[r*cG t+j]?=some u/\u.oneCell'=true/\Rd c (M r (cj t j)) tv u:=by
 obtain⟨e,Q,U,Y⟩:=ZP (t:=t) A.length f;have I:∀j,(⟨b,y,none⟩:Addr).add j=⟨b,y+j,none⟩:=λj=>by unfold Addr.add;split<;>simp_all
 refine⟨e,Q,run_firstCells_some w.drew (cG t) A.length ⟨b,y,none⟩ A.length cap e Q (λk u Z=>?_),λr x j tv hx J=>?_⟩
 ·obtain⟨r,j,F,H,rfl,rfl⟩:=Y k u Z;rw[I];have:=(N r A[r] j _ (eA F) (eA (by rw[gV];exact H))).1;rw[<-oA];exact this
 ·have F:=(eF.1 hx).1;have H:j<cG t:=by have:=(eF.1 J).1;rwa[gV] at this
  exact⟨f r j,U r j F H,(N r x j tv hx J).2,S r x j tv hx J⟩
theorem ly.fk{Z:Rt->Prop}{d:Bool}{t:Ty}{x:List (El t)}{news:List Value}{e:Nat->G}(h:ly (g.rc C w) d t x news)(F:FK Z g.γ e)(hz:¬ Z (.cC 1)):ly (Gs.rc C {g with γ:=e} w) d t x news:=
 ⟨h.len,λr y j tv H A=>by
   obtain⟨u,I,J,M⟩:=h.rd r y j tv H A
   exact⟨u,I,J,M.xt (by simp[fy,fN A]) F (λq p D=>by simp only[cW,eE] at D;rw[<-D.1];exact hz)⟩⟩
theorem Ur(h:Rel C E s {g with γ:=γ1} w){d D:Bool}{t:Ty}{Q:List (El t)}{e:List Value}(F:ly (Gs.rc C {g with γ:=γ1} w) d t Q e)(U:D=true->flat t=true\/d=true)(hF:flat t=true->D=true):
  ∃γ2,Rel C E s {g with γ:=γ2} w/\ly (Gs.rc C {g with γ:=γ2} w) D t Q e/\FK (λq=>q=.cC 1) γ1 γ2:=by
 cases D with
 |true=>
  refine⟨γ1,h,⟨F.len,λr y j tv H I=>F.rd r y j tv H ?_⟩,.refl _⟩;rcases U rfl with Y|Z
  ·rwa[mK Y true d] at I
  ·rwa[Z]
 |false=>
  have x:=FK.jR (γ:=γ1) (q1:=.cC 1) (p1:=[]) yC;refine⟨_,h.pV (g:={g with γ:=γ1}) (x.mono (λq hq=>⟨1,hq⟩)),⟨F.len,λr y j tv H I=>?_⟩,x⟩;obtain⟨J,A,rfl⟩:=DK (d:=d) I;obtain⟨u,h1,h2,h3⟩:=F.rd r y j J H A;refine⟨u,h1,h2,(Rd.jR (c':=Gs.rc C {g with γ:=kY γ1 (.cC 1) []} w) h3 (fN A) (λb M=>⟨B0 M,rfl⟩) (λq p S b π M=>?_)).lift _⟩;simp only[cW,eE] at S;obtain⟨rfl,rfl⟩:=S;exact⟨Ju (p1:=[]) (π:=[((r:Int),cj t j)]++π) (by have N:γ1 b=_:=M;simpa using N),rfl⟩
theorem adx(h:Rel C E s {g with γ:=γ1} w){d D:Bool}{t:Ty}{A:List (El t)}{F:Value}(hx:Rd (Gs.rc C {g with γ:=γ1} w) (some (.cC 0,[])) (.own d t A) F)(H:D=true->flat t=true\/d=true)(I:flat t=true->D=true):
  ∃γ2,Rel C E s {g with γ:=γ2} w/\Rd (Gs.rc C {g with γ:=γ2} w) (some (.cC 0,[])) (.own D t A) F/\FK (λq=>q=.cC 0) γ1 γ2:=by
 cases D with
 |true=>
  refine⟨γ1,h,?_,.refl _⟩;rcases H rfl with x|J
  ·exact hx.BB x
  ·rwa[J] at hx
 |false=>
  have e:=FK.j1 (γ:=γ1) (q1:=.cC 0) (p1:=[]) yC;have y:flat t=false:=by cases x:flat t with|false=>rfl|true=>exact absurd (I x) (by simp)
  refine⟨_,h.pV (g:={g with γ:=γ1}) (e.mono (λq M=>⟨0,M⟩)),?_,e⟩;have:=Rd.uC (c':=Gs.rc C {g with γ:=j1 γ1 (.cC 0) []} w) hx (λb u=>⟨B1 u,rfl⟩) (λb t u=>⟨Ib u,rfl⟩) (λb i j Q N u=>⟨B2 (p1:=[]) N u,rfl⟩);rwa[y] at this
structure KU(P:Program)(tt tx:TypeId)(t:Ty)(et:TypeId)(i:TypeInfo)(z:Value):Prop where
 ut:P.underlying tt=some (.slice et)
 hi:P.info? et=some i
 hz:i.zero=some z
 sz:i.size=cG t
 zs:z.cells.size=cG t
 kd:(∃e',P.underlying tx=some (.slice e'))\/P.underlying tx=some .string
theorem Fi(h:Rel C E s {g with γ:=γ1} w){D:Bool}{t:Ty}{xs A:List (El t)}{u:List Value}{et ty N U:TypeId}{i:TypeInfo}{z:Value}{vx S:Value}(T:KU P U N t et i z)(hx:Rd (Gs.rc C {g with γ:=γ1} w) (some (.cC 0,[])) (.own D t xs) vx)
  (src:Src P (cG t) N S A.length u w)(F:ly (Gs.rc C {g with γ:=γ1} w) D t A u)(hb:2*(xs.length+A.length)*i.bytes<=2^48)(Q:xs.length+A.length<=2^62):
  ∃v w' H,(Builtin.append_ #[U,N] ty #[vx,S]).run P w=.ok v w'/\Rel C E s {g with γ:=H} w'/\Rd (Gs.rc C {g with γ:=H} w') (some (.cC 0,[])) (.own D t (xs++A)) v/\dA (λq _=>∃n,q=.cC n) γ1 w H w':=by
 have y:Src P i.size N S A.length u w:=by rw[T.sz];exact src
 rcases hx.lu with⟨rfl,va,rfl⟩|⟨q,π,b,aa,cap,cs,e,fr,f,hm,rfl,hl,Y,hh,hu,hs,hc,hr⟩
 ·by_cases hn:A.length=0
  ·have Z:A=[]:=LJ hn;subst Z;have I:u=[]:=LJ (by rw[F.len];simp);subst I;exact⟨_,w,γ1,run_append_nothing w U N ty et i T.ut T.hi va 0 0 (hY _) S y,h,.jC _ _ _ _,.refl _ h.cI.new⟩
  ·refine EK (olds:=[]) (xs:=[]) h T.ut T.hi T.hz T.sz T.zs (by simp) ?_ y (λr x j tv hx=>by simp at hx) F (by simp;omega) hb Q;cases va with
   |none=>exact run_firstCells_none w.drew i.size 0 0 0
   |some ad=>exact run_firstCells_some w.drew i.size 0 ad 0 0 [] (by simp) (by simp)
 ·simp only[cW,eE] at hm;obtain⟨rfl,rfl⟩:=hm
  by_cases J:xs.length+A.length<=cap
  ·exact abF h T.ut T.hi T.sz y hl Y hh hu hs hc hr F J
  ·obtain⟨olds,h1,h2,h3⟩:=N3 (P:=P) (D:=D) (cap:=cap) (M:=λr j=>some (.cC 0,[((r:Int),j)])) hc hr;exact EK h T.ut T.hi T.hz T.sz T.zs h1 (by rw[T.sz];exact h2) y h3 F (by omega) hb Q
end
end
section
theorem VB:∀{p p':Pl},gp p=gp p'->p=p'
 |.slot k,.slot e,h=>by simp[gp] at h;rw[h]
 |.cell k c,.cell e u,h=>by simp[gp] at h;rw[h.1,h.2]
 |.slot _,.cell _ _,h=>by simp[gp] at h
 |.cell _ _,.slot _,h=>by simp[gp] at h
 |.slot _,.sub _ _ _ _,h=>by simp[gp] at h
 |.sub _ _ _ _,.slot _,h=>by simp[gp] at h
 |.cell k c,.sub p t r j,h=>by
  cases p<;>simp[gp] at h;have:=congrArg List.length h.2;simp at this
 |.sub p t r j,.cell k c,h=>by
  cases p<;>simp[gp] at h;have:=congrArg List.length h.2;simp at this
 |.sub p t r c,.sub p' F H u,h=>by
  simp only[gp,eE] at h;obtain⟨x,y⟩:=h;have A:=List.append_inj' y rfl;obtain⟨D,a⟩:=A;simp only[lF,eE,jg] at a;obtain⟨rfl,E⟩:=a;obtain⟨rfl,rfl⟩:=J8 E;rw[VB (p:=p) (p':=p') (C9 x D)]
theorem aeS{t t':Ty}(h:tg t=tg t'):t=t':=SA (by simpa[tg] using h)
theorem Pf{p a:Pl}{t t':Ty}(j:(gp p).1=(gp a).1)(u:(gp p).2++[tg t]=(gp a).2++[tg t']):p=a/\t=t':=by
 obtain⟨x,e⟩:=List.append_inj' u rfl;simp only[lF,jg] at e;exact⟨VB (C9 j x),aeS e⟩
section
variable{C:Cx}{g:Gs}{w:World}
theorem OK{p:Pl}{t:Ty}{b y A P k0:Nat}{vals:List Value}{cs:Array Value}{e:TypeId}{fr:Nat×Nat}(J:g.γ b=.at (gp p).1 ((gp p).2++[tg t]))(D:(g.rc C w).va p=some (.slice (some ⟨b,y,none⟩) A P))(Q:w.heap[b]?=some (.cells cs e fr))(hk:y+A*cG t<=k0):
  ∀(M:Pl),VO (g.rc C w) M->(g.rc C (w.setCells b k0 vals)).va M=(g.rc C w).va M/\VO (g.rc C (w.setCells b k0 vals)) M
 |.slot k,_=>⟨rfl,trivial⟩
 |.cell k c,a=>by
  simp only[VO,Gs.rc] at a;have R:g.bx k≠b:=λe=>by rw[e,J] at a;simp at a
  exact⟨ln ((j7 b vals k0 w).other _ R),a⟩
 |.sub p1 t1 r c,a=>by
  obtain⟨F,j⟩:=a;obtain⟨S,h2⟩:=OK J D Q hk p1 F;refine⟨?_,h2,λH U u x Y=>j H U u x (S ▸Y)⟩;simp only[Gs.rc] at S D j⊢;simp only[va,S];split
  ·rename_i H U u x N;split
   ·rename_i aa
    by_cases I:H=b
    ·subst I;rcases j H U u x N with E|E
     ·rw[J] at E;simp at E
     ·rw[J] at E;simp only[G.at.injEq] at E;obtain⟨rfl,rfl⟩:=Pf E.1 E.2;rw[D] at N;simp only[cW,Value.slice.injEq,Addr.mk.injEq,jg,vn] at N;obtain⟨rfl,rfl,rfl⟩:=N;obtain⟨ab,k1,k2,k3,k4⟩:=(j7 H vals k0 w).this _ _ _ Q;have Z:(r.toNat+1)*cG t<=A*cG t:=mh _ (by omega);rw[jv,pF] at Z;simp only[cellAt,World.cell?,k1,Q];simp[k4 (y+r.toNat*cG t+c) (by omega)]
    ·exact ln ((j7 b vals k0 w).other _ I)
   ·rfl
  ·rfl
theorem abG{p:Pl}{t:Ty}{b A D I k0:Nat}{vals:List Value}{Q:Array Value}{e:TypeId}{fr:Nat×Nat}(R:g.γ b=.at (gp p).1 ((gp p).2++[tg t]))(J:(g.rc C w).va p=some (.slice (some ⟨b,A,none⟩) D I))(N:w.heap[b]?=some (.cells Q e fr))(U:A+D*cG t<=k0)
  {p':Pl}{t0:Ty}{E o' cap' len':Nat}{a:Array Value}{P:TypeId}{F:Nat×Nat}(j:g.γ E=.at (gp p').1 ((gp p').2++[tg t0]))(x:(g.rc C w).va p'=some (.slice (some ⟨E,o',none⟩) len' cap'))(u:w.heap[E]?=some (.cells a P F)):
  ∃y,(w.setCells b k0 vals).heap[E]?=some (.cells y P F)/\y.size=a.size/\∀k,k<o'+len'*cG t0->y[k]?=a[k]?:=by
 obtain⟨M,k1,k2,k3,k4⟩:=(j7 b vals k0 w).this _ _ _ N
 by_cases H:E=b
 ·subst H;rw[R] at j;simp only[G.at.injEq] at j;obtain⟨rfl,rfl⟩:=Pf j.1 j.2;rw[J] at x;simp only[cW,Value.slice.injEq,Addr.mk.injEq,jg,vn] at x;obtain⟨rfl,rfl,rfl⟩:=x;rw[N] at u;simp only[cW,Obj.cells.injEq] at u;obtain⟨rfl,rfl,rfl⟩:=u;exact⟨M,k1,k2,λk S=>k4 k (by omega)⟩
 ·exact⟨a,((j7 b vals k0 w).other _ H).trans u,rfl,λ_ _=>rfl⟩
theorem Rd.KV{p:Pl}{t:Ty}{b af len cap k0:Nat}{vals:List Value}{cs:Array Value}{e:TypeId}{fr:Nat×Nat}(hn:∀b,w.heap.size<=b->g.γ b=.fr)(hb:g.γ b=.at (gp p).1 ((gp p).2++[tg t]))(ak:(g.rc C w).va p=some (.slice (some ⟨b,af,none⟩) len cap))(hh:w.heap[b]?=some (.cells cs e fr))(hk:af+len*cG t<=k0)
  {m:Option Gp}{a:TV}{v:Value}(h:Rd (g.rc C w) m a v):∀(H:Pl),m=some (gp H)->jy a=true->(g.rc C w).va H=some v->VO (g.rc C w) H->Rd (g.rc C (w.setCells b k0 vals)) m a v:=by
 have am:=wo (j7 b vals k0 w) hn hb;obtain⟨an,k1,k2,k3,k4⟩:=(j7 b vals k0 w).this _ _ _ hh;have fz:∀{m:Option Gp}{a:TV}{v:Value},Rd (g.rc C w) m a v->dC a=true->ik a=false->Rd (g.rc C (w.setCells b k0 vals)) m a v:=λ{m a v}h hp ho=>
  ((h.any hp ho none).same (c':=g.rc C (w.setCells b k0 vals)) (λb hb=>am.im b hb) (λq p he=>by simp at he) (λi hi=>absurd hi (kz hp i)) (λp hq=>absurd hq (fZ hp p)) (λp hq=>absurd hq.mv (fZ hp p))).lift m
 have blk:∀{H:Pl}{t0:Ty}{E o' F R:Nat}{I:Array Value}{S:TypeId}{y:Nat×Nat},g.γ E=.at (gp H).1 ((gp H).2++[tg t0])->(g.rc C w).va H=some (.slice (some ⟨E,o',none⟩) R F)->w.heap[E]?=some (.cells I S y)->
   ∃J,(w.setCells b k0 vals).heap[E]?=some (.cells J S y)/\J.size=I.size/\∀k,k<o'+R*cG t0->J[k]?=I[k]?:=by
  intro H t0 E o' F R I S y u A D
  by_cases ah:E=b
  ·subst ah;rw[hb] at u;simp only[G.at.injEq] at u;obtain⟨rfl,rfl⟩:=Pf u.1 u.2;rw[ak] at A;simp only[cW,Value.slice.injEq,Addr.mk.injEq,jg,vn] at A;obtain⟨rfl,rfl,rfl⟩:=A;rw[hh] at D;simp only[cW,Obj.cells.injEq] at D;obtain⟨rfl,rfl,rfl⟩:=D;exact⟨an,k1,k2,λk ap=>k4 k (by omega)⟩
  ·exact⟨I,((j7 b vals k0 w).other _ ah).trans D,rfl,λ_ _=>rfl⟩
 induction h with
 |kf q π d t0 N E o' F I S y f hl u D hu hs hc hr ih=>
  intro H hm hT A U;have P:=gA hm;have hq:q=(gp H).1:=by rw[<-P]
  have aa:π=(gp H).2:=by rw[<-P]
  clear hm P;subst hq;subst aa;obtain⟨J,m1,m2,m3⟩:=blk u A D;have Y:∀(r:Nat)x(j:Nat)a,N[r]?=some x->(enc d t0 x)[j]?=some a->r<N.length/\j<cG t0:=λr x j a hx M=>⟨(eF.1 hx).1,by have:=(eF.1 M).1;rwa[gV] at this⟩;refine .kf _ _ _ _ _ _ _ _ J S y f hl u m1 (by rw[m2];exact hu) (by rw[m2];exact hs) (λr x j a hx M=>?_) (λr x j a hx M=>?_)
  ·obtain⟨h1,h2⟩:=Y r x j a hx M;obtain⟨h3,h4⟩:=hc r x j a hx M;have h5:(r+1)*cG t0<=N.length*cG t0:=mh _ h1;rw[jv,pF] at h5;refine⟨?_,h4⟩;have ab:w.heap[E]?=some (.cells I S y):=D;have Z:cellAt w E (o'+r*cG t0+j)=some (f r j):=h3;have ad:(w.setCells b k0 vals).heap[E]?=some (.cells J S y):=m1;show cellAt (w.setCells b k0 vals) E _=_;simp only[cellAt,World.cell?,ab,ad] at Z⊢;simpa[m3 _ (show o'+r*cG t0+j<o'+N.length*cG t0 by omega)] using Z
  ·obtain⟨h1,h2⟩:=Y r x j a hx M;refine ih r x j a hx M (.sub H t0 (r:Int) j) rfl (rb (fN M)) ?_ ⟨U,λb2 o2 ai aj Q=>?_⟩
   ·have ae:va C.vs g.tm g.bx w H=some (.slice (some ⟨E,o',none⟩) N.length F):=A;simp only[Gs.rc,va,ae];rw[cJ ⟨by omega,by omega,h2⟩];have h9:cellAt w E (o'+r*cG t0+j)=some (f r j):=(hc r x j a hx M).1;simpa using h9
   ·rw[A] at Q;simp only[cW,Value.slice.injEq,Addr.mk.injEq,jg] at Q;obtain⟨⟨rfl,_⟩,_⟩:=Q;exact .inr u
 |j4 q π t0 N r0 c0 E o' F I S y f hl u D hu hs hc hr ih=>
  intro H hm hT A U;have P:=gA hm;have hq:q=(gp H).1:=by rw[<-P]
  have aa:π=(gp H).2:=by rw[<-P]
  clear hm P;subst hq;subst aa;obtain⟨J,m1,m2,m3⟩:=blk u A D;have Y:∀(r:Nat)x(j:Nat)a,N[r]?=some x->(enc true t0 x)[j]?=some a->r<N.length/\j<cG t0:=λr x j a hx M=>⟨(eF.1 hx).1,by have:=(eF.1 M).1;rwa[gV] at this⟩;refine .j4 _ _ _ _ _ _ _ _ _ J S y f hl u m1 (by rw[m2];exact hu) (by rw[m2];exact hs) (λr x j a hx M=>?_) (λr x j a hx M ao=>?_)
  ·obtain⟨h1,h2⟩:=Y r x j a hx M;obtain⟨h3,h4⟩:=hc r x j a hx M;have h5:(r+1)*cG t0<=N.length*cG t0:=mh _ h1;rw[jv,pF] at h5;refine⟨?_,h4⟩;have ab:w.heap[E]?=some (.cells I S y):=D;have Z:cellAt w E (o'+r*cG t0+j)=some (f r j):=h3;have ad:(w.setCells b k0 vals).heap[E]?=some (.cells J S y):=m1;show cellAt (w.setCells b k0 vals) E _=_;simp only[cellAt,World.cell?,ab,ad] at Z⊢;simpa[m3 _ (show o'+r*cG t0+j<o'+N.length*cG t0 by omega)] using Z
  ·obtain⟨h1,h2⟩:=Y r x j a hx M;refine ih r x j a hx M ao (.sub H t0 (r:Int) j) rfl (rb (fN M)) ?_ ⟨U,λb2 o2 ai aj Q=>?_⟩
   ·have ae:va C.vs g.tm g.bx w H=some (.slice (some ⟨E,o',none⟩) N.length F):=A;simp only[Gs.rc,va,ae];rw[cJ ⟨by omega,by omega,h2⟩];have h9:cellAt w E (o'+r*cG t0+j)=some (f r j):=(hc r x j a hx M).1;simpa using h9
   ·rw[A] at Q;simp only[cW,Value.slice.injEq,Addr.mk.injEq,jg] at Q;obtain⟨⟨rfl,_⟩,_⟩:=Q;exact .inr u
 |un=>intros;exact .un _ _
 |jC=>intros;exact .jC _ _ _ _
 |b=>intros;exact .b _ _
 |i=>intros;exact .i _ _ _
 |s=>intros;exact .s _ _
 |nil=>intros;exact .nil _
 |gQ=>intros;exact .gQ _ _
 |kt=>intros;exact .kt _ _ _ _
 |ny m t N b o cap f h1 h2 h3 h4=>intros;exact fz (.ny m t N b o cap f h1 h2 h3 h4) rfl rfl
 |p7=>intros;exact .p7 _ _ _
 |p8 m t N b o f h1 h2 h3=>intros;exact fz (.p8 m t N b o f h1 h2 h3) rfl rfl
 |_=>intro H hm hT;simp[jy,fy,dC] at hT
theorem Rel.KV{E:Env}{s:TS}(h:Rel C E s g w){p:Pl}{t:Ty}{b U len cap k0:Nat}{vals:List Value}{cs:Array Value}{e:TypeId}{fr:Nat×Nat}(Y:p.jn=true)(A:g.γ b=.at (gp p).1 ((gp p).2++[tg t]))(a:(g.rc C w).va p=some (.slice (some ⟨b,U,none⟩) len cap))(hh:w.heap[b]?=some (.cells cs e fr))(hk:U+len*cG t<=k0)
  (Z:∀j q,MP q (s.slot j)->(gp q).1≠(gp p).1):Rel C E s g (w.setCells b k0 vals):=by
 have F:=wo (j7 b vals k0 w) h.cI.new A;have u:=OK (C:=C) (vals:=vals) A a hh hk;have H:∀k,g.γ (g.bx k)=.at (.box k) []->(w.setCells b k0 vals).heap[g.bx k]?=w.heap[g.bx k]?:=λk aa=>(j7 b vals k0 w).other _ (λe=>by rw[e,A] at aa;simp at aa);refine h.mV (g':=g) F (λk=>?_) (λk=>?_)
 ·by_cases hr:(gp p).1=.slot k
  ·left
   have ab:=KG a (wj.2 hr);obtain⟨a0,l0,c0,ad⟩:=Nc a (wj.2 hr) Y;have h0:=h.fD k;have I:jy (s.slot k)=true\/gf (s.slot k)=true:=by
    rw[ad] at h0
    cases hs:s.slot k<;>first|exact .inr rfl|exact .inl rfl|(rw[hs] at h0;cases h0)
   rcases I with hc|ha
   ·exact h0.KV h.cI.new A a hh hk (.slot k) rfl hc (by simp only[Gs.rc,va];rw[cJ ab]) trivial
   ·refine((h0.anyM ha none).same (c':=g.rc C (w.setCells b k0 vals)) (λb A=>F.im b A) (λq p he=>by simp at he) (λ_ _=>rfl) (λq J=>⟨(u q (h0.s9 J)).1,λM=>(u q M).2⟩) (λq J b' π ae=>F.at' b' _ _ ae (λhx=>Z k q J hx.1))).anyM ha _
  ·exact .inr ⟨rfl,rfl,λπ hx=>hr hx.1.symm,λ_ _=>rfl,λq J=>⟨(u q ((h.fD k).s9 J)).1,λM=>(u q M).2⟩,λq J π hx=>Z k q J hx.1⟩
 ·by_cases hr:(gp p).1=.box k
  ·left
   have h0:=h.boxes k;cases N:s.box k with
   |none=>trivial
   |cells ah=>
    rw[N] at h0;obtain⟨vs,e0,y,P,S,D,Q,h5,h6⟩:=h0;refine⟨vs,e0,y,(H k D).trans P,S,D,Q,h5,λj tv v hj hv=>⟨(h6 j tv v hj hv).1,(h6 j tv v hj hv).2.KV h.cI.new A a hh hk (.cell k j) rfl (h5 tv (eT hj)) ?_ D⟩⟩;have R:w.heap[g.bx k]?=some (.cells vs e0 y):=P;simp[Gs.rc,va,cellAt,World.cell?,R,hv]
   |vec t0 xs=>
    rw[N] at h0;obtain⟨vs,e0,y,P,S,D,Q,h5⟩:=h0;exact⟨vs,e0,y,(H k D).trans P,S,D,Q,h5⟩
   |iy x=>
    rw[N] at h0;obtain⟨p0,v0,P,S,D,Q⟩:=h0;refine⟨p0,v0,(H k S).trans P,S,D,λhl=>?_⟩;rcases Q hl with Q|⟨g',cap',ai,rfl,e2,e3,e4,e5,e6,e7,e8⟩
    ·exact .inl Q
    ·have R:w.heap[g.bx k]?=some (.cells #[p0,.slice (some ⟨g',0,none⟩) x.length cap'] F3 (0,0)):=P;obtain⟨af,f1,f2,f3⟩:=abG (vals:=vals) A a hh hk (p':=.cell k 1) (t0:=.int .u8) (o':=0) (len':=x.length) (cap':=cap') e2 (by simp[Gs.rc,va,cellAt,World.cell?,R]) e3;refine .inr ⟨g',cap',af,rfl,e2,f1,e4,e5,e6,f2.trans e7,?_⟩;rw[<-e8];apply YE;intro j;rw[oz,oz];split
     ·rename_i hj;have:=f3 j (by simp[cG];omega);simpa using this
     ·rfl
  ·exact .inr ⟨rfl,rfl,λπ hx=>hr hx.1.symm⟩
end
end
section
theorem Ii{u:Type}{e:Nat}{a b c:List u}(h:cT e a b=some c):c=a++b/\2*(a.length+b.length)*e<=2^48/\a.length+b.length<=2^62:=by
 unfold cT at h;split at h
 ·rename_i j;simp only[cW] at h;exact⟨h.symm,j.1,j.2⟩
 ·simp at h
theorem Q6:∀{p q:Pl},p.ji q=true↔(gp q).1=(gp p).1
 |.slot k,q=>by simpa[Pl.ji,gp] using wC (p:=q) (k:=k)
 |.cell k c,q=>by simpa[Pl.ji,gp] using uy (p:=q) (k:=k)
 |.sub p _ _ _,q=>by simpa[Pl.ji,gp] using Q6 (p:=p) (q:=q)
section
variable{P:Program}{C:Cx}{E:Env}{nt n:Nat}{o:Oper}{s A:TS}{g g1:Gs}{a:Act}{w B:World}{R:Type}{r:R}{γ1:Nat->G}{tv:TV}{v:Value}{K:TS->Option R}{X:Rt->dh->Prop}{nb:Nat->Prop}
theorem ady(hC:fK P C){t u:Nat}{e:Ty}{Q fR:Nat}(x:C.cX t=.sl e Q fR)(y:(∃S,P.underlying u=some (.slice S))\/P.underlying u=some .string):∃D i z,KU P t u e D i z/\i.bytes=fR:=by
 obtain⟨D,U,F,_,H⟩:=uR (hC.ty t) x;obtain⟨I,Y,Z,j,_⟩:=rf F;obtain⟨i,z,J,M,N⟩:=Ig Z;refine⟨D,i,z,⟨U,J,M,by rw[<-I];simp[Program.cellsOf,J],?_,y⟩,by rw[<-H];simp[Program.bytesOf,J]⟩;rw[N] at j;have:=(Ci (c:=⟨default,λ_=>.fr,λ_=>0,λ_=>none⟩) (m:=λ_=>none) j).1;rw[gV] at this;simpa using this
theorem JB(l:eb nt g a)(N:gN nt o.dst){x y:Operand}{t I:Nat}(Q:o.op=.call ⟨.builtin .append,#[x,y],#[t,I]⟩){J:TS}{γ2:Nat->G}{D:Bool}{e:Ty}{M:List (El e)}{Z:Rt->Prop}(H:FK Z g.γ γ2)(S:∀b,w.heap.size<=b->g.γ b=.fr)
  (h:∃v u j,(Builtin.append_ #[t,I] o.type #[a.eval x,a.eval y]).run P w=.ok v u/\Rel C E J {g with γ:=j} u/\Rd (Gs.rc C {g with γ:=j} u) (some (.cC 0,[])) (.own D e M) v/\dA (λq _=>∃n,q=.cC n) γ2 w j u)(U:K (dZ C J o.dst (.own D e M))=some r):kG P C E nt o g a w K r Z X nb:=by
 obtain⟨v,u,j,Y,h2,h3,h4⟩:=h;refine BD (n:=0) h2 rfl (λ_ _=>rfl) (((H.gi S).trans h4).mono (λq p hx=>.inl ?_)) l N h3 (by simp[execOp,Q,resolve,invoke,builtin,Y]) U;rcases hx with⟨hx,F⟩|⟨n,hx⟩
 ·exact⟨.inl hx,F⟩
 ·exact⟨.inr ⟨n,hx⟩,λF=>by rw[hx] at F;simp[kE] at F⟩
theorem aav(hC:fK P C)(h:Rel C E s g w)(l:eb nt g a)(hd:gN nt o.dst){x y:Operand}{t tx:Nat}(ho:o.op=.call ⟨.builtin .append,#[x,y],#[t,tx]⟩)(hx:fe nt x=true)(hy:fe nt y=true)(aP:(∃e',P.underlying tx=some (.slice e'))\/P.underlying tx=some .string)
  (F:Ev.step C o s K=some r):kG P C E nt o g a w K r (λq=>dU s x q\/dU s y q\/∃n,q=.cC n) X nb:=by
 simp only[Ev.step,ho] at F;split at F
 ·rename_i e sz bo a4;obtain⟨et,i,z,T,ao⟩:=ady hC a4 aP;have N:=iF h l hx;unfold xn at F;obtain⟨d,ys,A,γ1,news,F,h1,src,ab,aQ,bp⟩:=adw h l hC.gl hy aP F;have S:FK (λq=>dU s x q\/dU s y q\/∃n,q=.cC n) g.γ γ1:=aQ.mono (λq hq=>.inr (.inl hq));split at F
  ·rename_i p t0 Z;rw[Z] at N;have a5:(g.rc C w).va p=some (a.eval x):=by generalize iK x=m at N;cases N;assumption
   have aa:(Gs.rc C {g with γ:=γ1} w).va p=some (a.eval x):=a5;obtain⟨tv,aE,F⟩:=oL F;have hl:=pN h1 aa aE;split at F
   ·rename_i d' t' xs;obtain⟨aF,F⟩:=na F;subst aF;obtain⟨zs,ae,F⟩:=eM.1 F;obtain⟨rfl,hb,U⟩:=Ii ae;rcases hl with hl|hl
    ·simp at hl
    cases aj:p.jn with
    |true=>
     rw[aj,cL] at F;obtain⟨ax,F⟩:=dM.1 F;have h2:=h1.fW p.ji;have aq:VO (Gs.rc C {g with γ:=γ1} w) p:=by
      rcases sS h1 aE with h9|⟨_,_,_,h9⟩
      ·simp at h9
      ·exact h9
     have af:dU s x (gp p).1:=uG (λi=>(h.kM i).1) (by rw[Z];exact .vw _);have a6:∀j q,MP q ((A.fW p.ji).slot j)->(gp q).1≠(gp p).1:=λj q hq he=>by
      rw[yv] at hq
      have:=MG hq
      rw[Q6.2 he] at this
      simp at this
     have ak:∀(x:El t')(j:Nat)(tv:TV),(enc true t' x)[j]?=some tv->ik tv=false/\dC tv=true:=λx j tv J=>⟨rE (x:=x) (j:=j) (by rwa[mK ax true false] at J),fN J⟩;have aG:∀{v w' Q},(Builtin.append_ #[t,tx] o.type #[a.eval x,a.eval y]).run P w=.ok v w'->Rel C E (A.fW p.ji) {g with γ:=Q} w'->VO (Gs.rc C {g with γ:=Q} w') p->(Gs.rc C {g with γ:=Q} w').va p=some (a.eval x)->Rd (Gs.rc C {g with γ:=Q} w') (some (gp p)) (.own true t' (jL rfl xs++ys)) v->dA (λq π=>(q=(gp p).1/\¬ kE q π)\/∃n,q=.cC n) γ1 w Q w'->
       kG P C E nt o g a w K r (λq=>dU s x q\/dU s y q\/∃n,q=.cC n) X nb:=by
      intro v w' Q m1 m2 m3 m4 m5 m6
      refine BD (g1:={g with γ:=Q}) (n:=0) m2 rfl (λ_ _=>rfl) (((S.gi h.cI.new).trans m6).mono (λq π hx=>.inl ?_)) l hd (.pa _ _ _ _ _ _ aj m3 m4 m5) (by simp[execOp,ho,resolve,invoke,builtin,m1]) F
      rcases hx with⟨hx,ap⟩|(⟨hx,ap⟩|⟨n,hx⟩)
      ·exact⟨.inl hx,ap⟩
      ·exact⟨.inl (.inl (by rw[hx];exact af)),ap⟩
      ·exact⟨.inr ⟨n,hx⟩,λap=>by rw[hx] at ap;simp[kE] at ap⟩
     have Y:Src P i.size tx (a.eval y) ys.length news w:=by rw[T.sz];exact src
     have au:ly (Gs.rc C {g with γ:=γ1} w) true t' ys news:=⟨ab.len,λr y j tv hy J=>ab.rd r y j tv hy (by rwa[mK ax true d] at J)⟩;have aH:jL rfl xs=xs:=rfl;rw[aH] at hb U;have grow:∀{av:Option Addr}{cap:Nat}{olds:List Value},a.eval x=.slice av xs.length cap->olds.length=xs.length*cG t'->(Builtin.firstCells i.size xs.length (.slice av xs.length cap)).run P w.drew=.ok olds.toArray w.drew->
       (∀(r:Nat)x(j:Nat)tv,xs[r]?=some x->(enc true t' x)[j]?=some tv->∃u,olds[r*cG t'+j]?=some u/\u.oneCell'=true/\Rd (Gs.rc C {g with γ:=γ1} w) (some (.cC 0,[((r:Int),cj t' j)])) tv u)->cap<xs.length+ys.length->kG P C E nt o g a w K r (λq=>dU s x q\/dU s y q\/∃n,q=.cC n) X nb:=by
      intro av cap olds H ho a7 a8 hg
      obtain⟨v,w',Q,m1,m2,m3,m4⟩:=EK (ty:=o.type) h2 T.ut T.hi T.hz T.sz T.zs ho a7 Y a8 au hg (by rw[ao];exact hb) U
      have aR:=FK.dP (γ:=Q) (q1:=.cC 0) (q2:=(gp p).1) (p1:=[]) (p2:=(gp p).2) yC
      have m5:Rel C E (A.fW p.ji) {g with γ:=dP Q (.cC 0) [] (gp p).1 (gp p).2} w':=m2.pV (g:={g with γ:=Q}) (aR.mono (λq hq=>⟨0,hq⟩))
      have m6:=m3.Cs (g:={g with γ:=Q}) (q2:=(gp p).1) (p2:=(gp p).2) rfl
      have az:dA (λq _=>∃n,q=Rt.cC n) γ1 w (dP Q (.cC 0) [] (gp p).1 (gp p).2) w':=(m4.trans (aR.gi m2.cI.new)).mono (λq π hx=>by
       rcases hx with hx|⟨hx,_⟩
       ·exact hx
       ·exact⟨0,hx⟩)
      have aS:=FF (C:=C) (g:={g with γ:=γ1}) az (λq π hx=>hx) p aq
      exact aG (by rw[H];exact m1) m5 aS.2 (aS.1.trans aa) m6 (az.mono (λq π hx=>.inr hx))
     rcases hl.lu with⟨rfl,aI,H⟩|⟨q,π,b,I,cap,cs,e',fr,f,hm,H,bq,a9,hh,aT,ba,hc,hr⟩
     ·by_cases bb:ys.length=0
      ·have bc:ys=[]:=LJ bb;subst bc;have aJ:news=[]:=LJ (by rw[ab.len];simp);subst aJ;refine aG (v:=.slice aI 0 0) (by rw[H];exact run_append_nothing w t tx o.type et i T.ut T.hi aI 0 0 (hY _) (a.eval y) Y) h2 aq aa (.jC _ _ _ _) (.refl _ h1.cI.new)
      ·refine grow (olds:=[]) H (by simp) ?_ (λr x j tv hx=>by simp at hx) (by simp;omega);cases aI with
       |none=>exact run_firstCells_none w.drew i.size 0 0 0
       |some ad=>exact run_firstCells_some w.drew i.size 0 ad 0 0 [] (by simp) (by simp)
     ·have aU:∀(r:Nat)x(j:Nat)tv,xs[r]?=some x->(enc true t' x)[j]?=some tv->cellAt w b (I+r*cG t'+j)=some (f r j)/\(f r j).oneCell'=true:=λr x j tv hx J=>hc r x j tv hx (by rwa[mK ax true d'] at J);have aV:∀(r:Nat)x(j:Nat)tv,xs[r]?=some x->(enc true t' x)[j]?=some tv->Rd (Gs.rc C {g with γ:=γ1} w) none tv (f r j):=λr x j tv hx J=>(hr r x j tv hx (by rwa[mK ax true d'] at J)).any (ak x j tv J).2 (ak x j tv J).1 _
      by_cases ah:xs.length+ys.length<=cap
      ·have be:gp p=(q,π):=gA hm;have am:γ1 b=.at (gp p).1 ((gp p).2++[tg t']):=by rw[be];exact a9
       have aA:(Gs.rc C {g with γ:=γ1} w).va p=some (.slice (some ⟨b,I,none⟩) xs.length cap):=by rw[aa,H]
       have aW:(xs.length+ys.length)*cG t'<=cap*cG t':=mh _ ah;rw[jv] at aW;have an:∀k,w.cell? ⟨b,k,none⟩=cs[k]?:=λk=>by
        have aK:w.heap[b]?=some (.cells cs e' fr):=hh
        simp[World.cell?,aK]
       have bf:∀k,k<cs.size->w.frozen? ⟨b,k,none⟩=false:=λk F=>by
        have:=aT k F
        have aK:w.heap[b]?=some (.cells cs e' fr):=hh
        simp only[World.frozen?,aK]
        simp only[YD,kS]
        by_cases h1:fr.1<=k
        ·exact .inr (λh2=>this ⟨h1,h2⟩)
        ·exact .inl h1
       have br:=au.len;have aB:=run_append_room_src (P:=P) w t tx o.type et i T.ut T.hi b I xs.length cap (a.eval y) ys.length news Y ah (λj J=>by rw[an,T.sz];rw[ju (by omega)];rfl) (λj J=>bf _ (by rw[T.sz];omega));rw[T.sz] at aB;have pk:=j7 b news (I+xs.length*cG t') w;obtain⟨ay,k1,k2,k3,k4⟩:=pk.this _ _ _ hh;have aL:=Rel.KV (g:={g with γ:=γ1}) (vals:=news) h2 aj am aA hh (hY _) a6;have aX:=OK (C:=C) (g:={g with γ:=γ1}) (vals:=news) am aA hh (hY _) p aq;have aY:=wo pk h1.cI.new am;have aw:∀(r:Nat)x(j:Nat)tv,(xs++ys)[r]?=some x->(enc true t' x)[j]?=some tv->∃u,ay[I+r*cG t'+j]?=some u/\u.oneCell'=true/\Rd (Gs.rc C {g with γ:=γ1} w) none tv u:=λr x j tv hx J=>by
        have bs:j<cG t':=by have:=(eF.1 J).1;rwa[gV] at this
        by_cases aZ:r<xs.length
        ·rw[oB aZ] at hx;obtain⟨m1,m2⟩:=aU r x j tv hx J;have bg:(r+1)*cG t'<=xs.length*cG t':=mh _ aZ;rw[jv,pF] at bg;refine⟨f r j,?_,m2,aV r x j tv hx J⟩;rw[k4 _ (by omega)];have:cellAt w b (I+r*cG t'+j)=cs[I+r*cG t'+j]?:=an _;rw[<-this];exact m1
        ·rw[pG (by omega)] at hx;have bt:=(eF.1 hx).1;obtain⟨u,n1,n2,n3⟩:=au.rd (r-xs.length) x j tv hx J;have bh:=(eF.1 n1).1;refine⟨u,?_,n2,n3.any (ak x j tv J).2 (ak x j tv J).1 _⟩;have:=k3 ((r-xs.length)*cG t'+j) bh (by omega);rw[show I+xs.length*cG t'+((r-xs.length)*cG t'+j)=I+r*cG t'+j by
          have:r*cG t'=xs.length*cG t'+(r-xs.length)*cG t':=by rw[<-jv];congr 1;omega
          omega] at this;rw[this];exact n1
       have aC:=Rd.kf (c:=Gs.rc C {g with γ:=γ1} (w.setCells b (I+xs.length*cG t') news)) (gp p).1 (gp p).2 true t' (xs++ys) b I cap ay e' fr (λr j=>ay[I+r*cG t'+j]?.getD undef) (by simpa using ah) am k1 (by rw[k2];exact aT) (by rw[k2];exact ba)
        (λr x j tv hx J=>by
          obtain⟨u,m1,m2,_⟩:=aw r x j tv hx J
          have bi:(w.setCells b (I+xs.length*cG t') news).heap[b]?=some (.cells ay e' fr):=k1
          exact⟨by simp[cellAt,World.cell?,Gs.rc,bi,m1],by simp[m1,m2]⟩)
        (λr x j tv hx J=>by
          obtain⟨u,m1,_,m3⟩:=aw r x j tv hx J
          rw[m1]
          have aM:=fN J
          exact(m3.same (c':=Gs.rc C {g with γ:=γ1} (w.setCells b (I+xs.length*cG t') news)) (λb hb=>aY.im b hb) (λq p he=>by simp at he) (λi hi=>absurd hi (kz aM i)) (λp aN=>absurd aN (fZ aM p)) (λp aN=>absurd aN.mv (fZ aM p))).lift _);rw[eS] at aC;have bn:(some ((gp p).1,(gp p).2):Option Gp)=some (gp p):=rfl;refine aG (by rw[H];exact aB) aL aX.2 (aX.1.trans aa) aC (aY.mono (λq' bu hx=>.inl ⟨hx.1,λbj=>?_⟩));have:=bj.2;rw[hx.2] at this;simp at this
      ·obtain⟨olds,m1,m2,m3⟩:=N3 (P:=P) (w:=w) (D:=true) (cap:=cap) (M:=λr j=>some (.cC 0,[((r:Int),j)])) aU (λr x j tv hx J=>(aV r x j tv hx J).lift _);exact grow H m1 (by rw[T.sz];exact m2) m3 (by omega)
    |false=>
     rw[aj,cN] at F;obtain⟨s2,γ2,ai,h2,h3,h4,h5⟩:=Jv (n:=0) (π0:=[]) h1 p aE rfl hl F;have a0:ly (Gs.rc C {g with γ:=γ2} w) d t' ys news:=ab.fk (g:={g with γ:=γ1}) h4 (λhq=>iV p 1 hq.symm);have a1:(bif flat t' then true else bif d then d' else false)=true->flat t'=true\/d=true/\d'=true:=λhD=>by
      cases hf:flat t' with
      |true=>exact .inl rfl
      |false=>
       rw[hf,cN] at hD
       cases d with
       |true=>exact .inr ⟨rfl,hD⟩
       |false=>simp at hD
     obtain⟨a2,h6,h7,h8⟩:=adx (D:=bif flat t' then true else bif d then d' else false) h2 h3 (λhD=>(a1 hD).imp id (λh=>h.2)) (λhf=>by rw[hf];rfl);have a3:ly (Gs.rc C {g with γ:=a2} w) d t' ys news:=a0.fk (g:={g with γ:=γ2}) h8 (by simp);obtain⟨zD,k1,k2,k3⟩:=Ur (D:=bif flat t' then true else bif d then d' else false) h6 a3 (λhD=>(a1 hD).imp id (λh=>h.1)) (λhf=>by rw[hf];rfl);have bk:Rd (Gs.rc C {g with γ:=zD} w) (some (.cC 0,[])) (.own (bif flat t' then true else bif d then d' else false) t' xs) (a.eval x):=h7.xt (g:={g with γ:=a2}) (by simp[fy,dC]) k3 (λq p he=>by simp only[cW,eE] at he;rw[<-he.1];simp);have af:dU s x (gp p).1:=uG (λi=>(h.kM i).1) (by rw[Z];exact .vw _);refine JB l hd ho (γ2:=zD) (((S.trans (h4.mono (λq hq=>.inl (by rw[hq];exact af)))).trans (h8.mono (λq hq=>.inr (.inr ⟨0,hq⟩)))).trans (k3.mono (λq hq=>.inr (.inr ⟨1,hq⟩)))) h.cI.new (Fi (ty:=o.type) k1 T bk src k2 (by rw[ao];exact hb) U) ai
   ·simp at F
  ·rename_i Z;rw[Z] at N;have H:a.eval x=.slice none 0 0:=by generalize iK x=m at N;generalize a.eval x=u at N;cases N;rfl
   obtain⟨zs,ae,ai⟩:=eM.1 F;obtain⟨hz,hb,U⟩:=Ii ae;rw[hz] at ai;refine JB l hd ho (γ2:=γ1) S h.cI.new (Fi (ty:=o.type) (xs:=[]) h1 T ?_ src ab (by rw[ao];exact hb) U) ai;rw[H];exact .jC _ _ _ _
  ·rename_i Z;rw[Z] at N;obtain⟨va,H⟩:∃va,a.eval x=.slice va 0 0:=by generalize iK x=m at N;generalize a.eval x=u at N;cases N;exact⟨_,rfl⟩
   obtain⟨zs,ae,ai⟩:=eM.1 F;obtain⟨hz,hb,U⟩:=Ii ae;rw[hz] at ai;refine JB l hd ho (γ2:=γ1) S h.cI.new (Fi (ty:=o.type) (xs:=[]) h1 T ?_ src ab (by rw[ao];exact hb) U) ai;rw[H];exact .jC _ _ _ _
  ·rename_i t' xs Z;rw[Z] at N;obtain⟨aF,F⟩:=na F;subst aF;obtain⟨_,aO,F⟩:=eM.1 F;have aO:(0:Int)<cz ys:=fj (lR.1 aO);simp only[cz] at aO;obtain⟨zs,ae,F⟩:=eM.1 F;obtain⟨rfl,hb,U⟩:=Ii ae;have aH:jL rfl xs=xs:=rfl;obtain⟨zD,k1,k2,k3⟩:=Ur (D:=flat t') h1 ab (λhD=>.inl hD) (λhf=>hf);have aD:FK (λq=>dU s x q\/dU s y q\/∃n,q=.cC n) g.γ zD:=S.trans (k3.mono (λq hq=>.inr (.inr ⟨1,hq⟩)));have Y:Src P i.size tx (a.eval y) ys.length news w:=by rw[T.sz];exact src
   have bm:Rd (Gs.rc C {g with γ:=zD} w) none (.fE t' xs) (a.eval x):=(N.anyM rfl none).xt (by simp[fy,dC]) aD (λq p he=>by simp at he);rw[aH] at hb U;refine JB l hd ho (γ2:=zD) aD h.cI.new ?_ F;rcases bm.Js with⟨rfl,va,H⟩|⟨b,I,f,H,bv,hc,hr⟩
   ·rw[H];refine EK (olds:=[]) (xs:=[]) k1 T.ut T.hi T.hz T.sz T.zs (by simp) ?_ Y (λr x j tv hx=>by simp at hx) k2 (by simp;omega) (by rw[ao];exact hb) U;cases va with
    |none=>exact run_firstCells_none w.drew i.size 0 0 0
    |some ad=>exact run_firstCells_some w.drew i.size 0 ad 0 0 [] (by simp) (by simp)
   ·rw[H];obtain⟨olds,m1,m2,m3⟩:=N3 (P:=P) (w:=w) (D:=flat t') (cap:=xs.length) (M:=λr j=>some (.cC 0,[((r:Int),j)])) (c:=Gs.rc C {g with γ:=zD} w) (λr x j tv hx J=>hc r x j tv hx (by rwa[OJ] at J)) (λr x j tv hx J=>(hr r x j tv hx (by rwa[OJ] at J)).lift _);exact EK k1 T.ut T.hi T.hz T.sz T.zs m1 (by rw[T.sz];exact m2) Y m3 k2 (by omega) (by rw[ao];exact hb) U
  ·simp at F
 ·simp at F
end
end
section
section
variable{P:Program}{C:Cx}{E:Env}{nt n:Nat}{o:Oper}{s d:TS}{g g1:Gs}{a:Act}{w b:World}{R:Type}{r:R}{γ1:Nat->G}{tv:TV}{v:Value}{K:TS->Option R}{X:Rt->dh->Prop}{nb:Nat->Prop}
theorem aeT{t:Ty}(A:Ev.gk t=false){x:TV}{y:El t}(D:dec t [x]=some y){c:Rc}{m:Option Gp}{u:Value}(M:Rd c m x u):u=jE t y:=by
 obtain⟨F,j,_,_,_,_⟩:=y6 A false y;obtain⟨N,H⟩:=(sN false D).get;rw[j] at H;have e:=H 0 x F rfl rfl;have I:enc false t y=[F]:=j;cases t<;>simp[Ev.gk] at A<;>simp only[enc,lF,jg] at I<;>subst I
 ·rcases e with rfl|⟨_,_,_,J⟩
  ·exact M.oS
  ·simp[sc] at J
 ·rcases e with rfl|⟨_,_,_,J⟩
  ·exact M.ka
  ·simp[sc] at J
 ·rcases e with rfl|⟨_,_,_,J⟩
  ·exact M.nq
  ·simp[sc] at J
theorem Zp(hC:fK P C)(h:Rel C E s g w)(l:eb nt g a)(hd:gN nt o.dst){t:Nat}{parts:Array (Nat×Operand)}(ho:o.op=.build t parts)(hx:∀p∈parts.toList,fe nt p.2=true){len:Nat}{e:Ty}(U:C.cX t=.ar len e)(hk:Ev.step C o s K=some r):
  gx P C E nt o g a w K r (λq=>(∃p∈parts.toList,dU s p.2 q)\/∃n,q=.cC n):=by
 simp only[Ev.step,ho,U] at hk;obtain⟨et,hu,Y,h1,_,y,aa⟩:=F4 (hC.ty t) U;obtain⟨ab,ad,_⟩:=rf Y;have ae:=(pR (hC.ty t) (by rw[U];rfl)).2.2.2.2;obtain⟨z,ap,af,i,hi,ah⟩:=Nd (P:=P) (w:=w) ae;obtain⟨ie,ai,H⟩:=Mp (P:=P) (t:=et) ad;obtain⟨D,S,s',aq,k1,k2,k3,k4,k5,_⟩:=NY hC l (s0:=s) (Z:=λq=>∃p∈parts.toList,dU s p.2 q) parts.toList (γ:=g.γ) h hx (λp A q hq=>⟨p,A,hq⟩) (.refl _) hk;obtain⟨hn,aj⟩:=dM.1 k1;have hn:=gw hn;have ak:parts.toList.length=len:=by simpa using hn
 have am:z.cells.size=len:=by
  have:=congrArg List.length (N2 (λv hv=>Wl y _ v hv) aa)
  rw[<-af] at this
  simpa using this
 have I:ie.size=1:=by rw[H,ab,h1]
 obtain⟨qa,m1,m2,m3,_⟩:=Nh (size:=1) a parts.toList (n:=0) (arr:=z.cells) (λi p A=>by
  have au:=(eF.1 A).1
  obtain⟨vs,F,u⟩:=k4 i p (S[i]'(by omega)) A (eA _)
  exact⟨u.ix,by rw[u.len,F]⟩) (by rw[am,ak];simp);have hb:P.built t (parts.map λ(i,x)=>(i,a.eval x)).toList=some qa:=by
  unfold Program.built
  simp only[hi,hu,ah,ai,I]
  rw[YB]
  exact m1
 have J:=run_build (P:=P) w t (parts.map λ(i,x)=>(i,a.eval x)) qa hb;have M:qa=(S.map (jE e)).toArray:=by
  apply Array.ext_getElem?
  intro j
  by_cases hj:j<len
  ·have A:parts.toList[j]?=some (parts.toList[j]'(by omega)):=eA _;have N:S[j]?=some (S[j]'(by omega)):=eA _;obtain⟨vs,F,u⟩:=k4 j _ _ A N;have h9:=m3 j _ 0 A (by omega);simp only[ia,LL,q6] at h9
   match vs,F,u with
   |[an],_,u=>
    have av:(a.eval (parts.toList[j]'(by omega)).2).cells.size=1:=u.len;have Q:(a.eval (parts.toList[j]'(by omega)).2).cells[0]?=some ((a.eval (parts.toList[j]'(by omega)).2).cells[0]'(by omega)):=ju _;have ao:=(u.rd 0 an _ rfl (by rw[lG];exact Q)).1;rw[h9,Q,aeT y u.dc ao];simp[N]
  ·rw[xH (by omega),xH (by simp;omega)]
 exact qz (n:=0) (v:=.agg qa) k2 k5 h.cI.new l hd (by rw[M];exact .vec _ _ _ y) (by simp only[execOp,ho];simp[J]) aj
end
end
def PE(a:Nat):Option Nat->Bool|some d=>Nat.blt d a|none=>true
theorem aaw{a:Nat}{d:Option Nat}(h:PE a d=true):gN a d:=by
 cases d with
 |none=>trivial
 |some d=>exact(by simpa[PE,sB] using h:d<a)
def N4(C:Cx)(t:Nat):Bool:=
 match C.cX t with
 |.sl _ _ _=>true
 |.str=>true
 |_=>false
def Wm:Option Nat->Bool|none=>true|_=>false
def nS(P:Program)(C:Cx)(a:Nat)(o:Oper):Bool:=
 PE a o.dst&&o.op.operands.toList.all (fe a)&&
 match o.op with
 |.store _ _ _=>Wm o.dst
 |.binOp _ t _ y _=>Gh P C t y
 |.makeInterface t _=>(match C.cX t with|.iy=>false|_=>true)
 |.makeFunc (.func _) first _=>first.toList.isEmpty
 |.call c=>
  match c.callee with
  |.builtin .append=>(match c.args.toList,c.argTypes.toList with|[_,_],[_,e]=>N4 C e|_,_=>false)
  |.builtin .len=>(match c.args.toList with|[_]=>true|_=>false)
  |.builtin .min=>(match c.args.toList with|[_,_]=>true|_=>false)
  |.builtin .max=>(match c.args.toList with|[_,_]=>true|_=>false)
  |_=>true
 |_=>true
section
section
variable{P:Program}{C:Cx}{E:Env}{nt n:Nat}{o:Oper}{s B:TS}{g g1:Gs}{a:Act}{w A:World}{R:Type}{r:R}{γ1:Nat->G}{tv:TV}{v:Value}{K:TS->Option R}{Z Z':Rt->Prop}{X u:Rt->dh->Prop}{nb Lf:Nat->Prop}
theorem Zi(hC:fK P C){t:Nat}(h:N4 C t=true):(∃j,P.underlying t=some (.slice j))\/P.underlying t=some .string:=by
 unfold N4 at h;split at h
 ·rename_i e;obtain⟨x,y,_⟩:=uR (hC.ty t) e;exact .inl ⟨x,y⟩
 ·rename_i e;exact .inr (uF (hC.ty t) e)
 ·simp at h
theorem uh(h:nS P C nt o=true):gN nt o.dst/\∀x∈o.op.operands.toList,fe nt x=true:=by
 simp only[nS,du,jh] at h;exact⟨aaw h.1.1,h.1.2⟩
theorem Out.mono{X Y:Rt->dh->Prop}{d:Option Nat}{e:TS}{j:Act}{x:World}{g':Gs}(h:Out C E nt X d nb g w e j x g')(hx:∀q p,X q p->Y q p)(y:∀k,nb k->Lf k):Out C E nt Y d Lf g w e j x g':=⟨h.rel,h.CV,h.gi.mono hx,h.tm,λk D=>h.bx k λF=>D (y k F)⟩
theorem u2.mono{x Ψ:Act->World->Prop}(h:u2 P o a w x)(y:∀e j,x e j->Ψ e j):u2 P o a w Ψ:=λnext Q D=>h next Q λe j F=>D e j (y e j F)
theorem kG.mono(h:kG P C E nt o g a w K r Z X nb)(hz:∀q,Z q->Z' q\/∃n,q=.cC n)(hx:∀q p,X q p->u q p)(x:∀k,nb k->Lf k):kG P C E nt o g a w K r Z' u Lf:=by
 obtain⟨y,D,F⟩:=h;refine⟨y,D,F.mono λM N⟨H,I⟩=>⟨H,I.mono (λq p j=>?_) x⟩⟩;rcases j with⟨e,J⟩|j
 ·refine .inl ⟨?_,J⟩;rcases e with e|e
  ·exact hz q e
  ·exact .inr e
 ·exact .inr (hx q p j)
def xf(s:TS)(o:Oper)(q:Rt):Prop:=∃x∈o.op.operands.toList,dU s x q
def zE(C:Cx)(s:TS)(o:Oper)(q:Rt)(p:dh):Prop:=∃t e x,o.op=.store t e x/\PD (cZ C s e) q p
def qD(o:Oper):Bool:=
 match o.op with
 |.call c=>(match c.callee with|.builtin _=>true|_=>false)
 |_=>true
def oZ(s:TS)(o:Oper)(q:Rt):Prop:=
 match o.op with
 |.move x=>qR x q
 |_=>xf s o q
theorem step_ok(hC:fK P C)(h:Rel C E s g w)(l:eb nt g a)(ae:nS P C nt o=true)(af:qD o=true)(J:Ev.step C o s K=some r):
  kG P C E nt o g a w K r (oZ s o) (zE C s o) (λk=>k∈l8 o):=by
 obtain⟨N,hx⟩:=uh ae;have aa:=ae;simp only[nS,du] at aa;have I:=aa.2;cases D:o.op with
 |move x=>exact((Jx hC h l N D (hx x (by simp[D,Op.operands])) J).mono (λq F=>by simp only[oZ,D];exact F)).b
 |assign x=>
  have H:∀x∈o.op.operands.toList,∀q,dU s x q->oZ s o q:=λx hx q F=>by simp only[oZ,D];exact⟨x,hx,F⟩
  exact((RN h l N D (hx x (by simp[D,Op.operands])) hC.gl J).mono (λq F=>H x (by simp[D,Op.operands]) q F.1)).b
 |pick c x y=>
  have H:∀x∈o.op.operands.toList,∀q,dU s x q->oZ s o q:=λx hx q F=>by simp only[oZ,D];exact⟨x,hx,F⟩
  exact((NV hC h l N D (hx c (by simp[D,Op.operands])) (hx x (by simp[D,Op.operands])) (hx y (by simp[D,Op.operands])) J).mono (λq F=>F.elim (λF=>H x (by simp[D,Op.operands]) q (dU.z F)) (λF=>H y (by simp[D,Op.operands]) q (dU.z F)))).b
 |alloc t=>
  have H:∀x∈o.op.operands.toList,∀q,dU s x q->oZ s o q:=λx hx q F=>by simp only[oZ,D];exact⟨x,hx,F⟩
  exact(abE hC h l N D J).mono (λq F=>.inl F) (λ_ _ F=>F.elim) (λk F=>by simp only[l8,D];rw[F];simp[dx])
 |box t x=>
  have H:∀x∈o.op.operands.toList,∀q,dU s x q->oZ s o q:=λx hx q F=>by simp only[oZ,D];exact⟨x,hx,F⟩
  exact(aeR hC h l N D (hx x (by simp[D,Op.operands])) J).mono (λq F=>.inl (H x (by simp[D,Op.operands]) q F)) (λ_ _ F=>F.elim) (λk F=>by simp only[l8,D];rw[F];simp[dx])
 |build t ps=>
  have H:∀x∈o.op.operands.toList,∀q,dU s x q->oZ s o q:=λx hx q F=>by simp only[oZ,D];exact⟨x,hx,F⟩
  have S:∀p∈ps.toList,fe nt p.2=true:=λp hp=>hx p.2 (by simp only[D,Op.operands];exact gR.2 ⟨p,hp,rfl⟩);have hz:∀q,(∃p∈ps.toList,dU s p.2 q)->oZ s o q:=λq⟨p,hp,F⟩=>H p.2 (by simp only[D,Op.operands];exact gR.2 ⟨p,hp,rfl⟩) q F;cases ht:C.cX t with
  |st t' m fs=>exact((Zo hC h l N D S ht J).mono hz).b
  |ar len e=>exact(Zp hC h l N D S ht J).b.mono (λq F=>F.imp (hz q) id) (λ_ _ F=>F) (λ_ F=>F)
  |_=>simp[Ev.step,D,ht] at J
 |buildSlice t n ps=>
  have H:∀x∈o.op.operands.toList,∀q,dU s x q->oZ s o q:=λx hx q F=>by simp only[oZ,D];exact⟨x,hx,F⟩
  have S:∀p∈ps.toList,fe nt p.2=true:=λp hp=>hx p.2 (by simp only[D,Op.operands];exact gR.2 ⟨p,hp,rfl⟩);exact(Za hC h l N D S J).mono (λq⟨p,hp,F⟩=>.inl (H p.2 (by simp only[D,Op.operands];exact gR.2 ⟨p,hp,rfl⟩) q F)) (λ_ _ F=>F) (λ_ F=>F)
 |load t x=>
  have H:∀x∈o.op.operands.toList,∀q,dU s x q->oZ s o q:=λx hx q F=>by simp only[oZ,D];exact⟨x,hx,F⟩
  exact(Um hC h l N D (hx x (by simp[D,Op.operands])) J).b
 |store t ad x=>
  have H:∀x∈o.op.operands.toList,∀q,dU s x q->oZ s o q:=λx hx q F=>by simp only[oZ,D];exact⟨x,hx,F⟩
  rw[D] at I;have ah:o.dst=none:=by
   cases ai:o.dst with
   |none=>rfl
   |some d=>rw[ai] at I;simp[Wm] at I
  exact(abD hC h l ah D (hx ad (by simp[D,Op.operands])) (hx x (by simp[D,Op.operands])) J).mono (λq F=>.inl (F.elim (H x (by simp[D,Op.operands]) q) (H ad (by simp[D,Op.operands]) q))) (λq p F=>⟨t,ad,x,D,F⟩) (λ_ F=>F)
 |nilCheck x=>
  have H:∀x∈o.op.operands.toList,∀q,dU s x q->oZ s o q:=λx hx q F=>by simp only[oZ,D];exact⟨x,hx,F⟩
  exact(QE h l N D (hx x (by simp[D,Op.operands])) J).b
 |binOp op t x y t'=>
  have H:∀x∈o.op.operands.toList,∀q,dU s x q->oZ s o q:=λx hx q F=>by simp only[oZ,D];exact⟨x,hx,F⟩
  rw[D] at I;exact(SK hC h l N D (hx x (by simp[D,Op.operands])) (hx y (by simp[D,Op.operands])) I J).b
 |unOp op t x=>
  have H:∀x∈o.op.operands.toList,∀q,dU s x q->oZ s o q:=λx hx q F=>by simp only[oZ,D];exact⟨x,hx,F⟩
  exact(Uk h l N D (hx x (by simp[D,Op.operands])) J).b
 |convert t t' x=>
  have H:∀x∈o.op.operands.toList,∀q,dU s x q->oZ s o q:=λx hx q F=>by simp only[oZ,D];exact⟨x,hx,F⟩
  exact ZO hC h l N D (hx x (by simp[D,Op.operands])) J
 |makeInterface t x=>
  have H:∀x∈o.op.operands.toList,∀q,dU s x q->oZ s o q:=λx hx q F=>by simp only[oZ,D];exact⟨x,hx,F⟩
  rw[D] at I;exact(Qr hC h l N D J (λhb=>by simp[hb] at I)).b
 |makeFunc f first aj=>
  have H:∀x∈o.op.operands.toList,∀q,dU s x q->oZ s o q:=λx hx q F=>by simp only[oZ,D];exact⟨x,hx,F⟩
  cases f with
  |func fi=>
   rw[D] at I;have hf:first=#[]:=by simpa using I
   exact(QF h l N D hf (λz hz=>hx z (by simp only[D,Op.operands,G1];exact eB.2 (.inr hz))) J).b
  |_=>simp[Ev.step,D] at J
 |makeSlice t x y=>
  have H:∀x∈o.op.operands.toList,∀q,dU s x q->oZ s o q:=λx hx q F=>by simp only[oZ,D];exact⟨x,hx,F⟩
  exact Zh hC h l N D (hx x (by simp[D,Op.operands])) (hx y (by simp[D,Op.operands])) J
 |slice t x lo hi mx=>
  have H:∀x∈o.op.operands.toList,∀q,dU s x q->oZ s o q:=λx hx q F=>by simp only[oZ,D];exact⟨x,hx,F⟩
  have hb:∀z:Option Operand,(∀y,z=some y->y∈o.op.operands.toList)->CJ nt z=true:=λz hz=>by
   cases z with
   |none=>rfl
   |some y=>exact hx y (hz y rfl)
  exact(SO hC h l N D (hx x (by simp[D,Op.operands])) (hb lo λy hy=>by simp[D,Op.operands,hy]) (hb hi λy hy=>by simp[D,Op.operands,hy]) (hb mx λy hy=>by simp[D,Op.operands,hy]) J).b
 |fieldAddr t x j=>
  have H:∀x∈o.op.operands.toList,∀q,dU s x q->oZ s o q:=λx hx q F=>by simp only[oZ,D];exact⟨x,hx,F⟩
  exact(Qv hC h l N D (hx x (by simp[D,Op.operands])) J).b
 |field t x j=>
  have H:∀x∈o.op.operands.toList,∀q,dU s x q->oZ s o q:=λx hx q F=>by simp only[oZ,D];exact⟨x,hx,F⟩
  exact((aby hC h l N D (hx x (by simp[D,Op.operands])) J).mono (λq F=>H x (by simp[D,Op.operands]) q (dU.z F))).b
 |indexAddr t x i=>
  have H:∀x∈o.op.operands.toList,∀q,dU s x q->oZ s o q:=λx hx q F=>by simp only[oZ,D];exact⟨x,hx,F⟩
  exact(Qw hC h l N D (hx x (by simp[D,Op.operands])) (hx i (by simp[D,Op.operands])) J).b
 |index t x i=>
  have H:∀x∈o.op.operands.toList,∀q,dU s x q->oZ s o q:=λx hx q F=>by simp only[oZ,D];exact⟨x,hx,F⟩
  exact(SL hC h l N D (hx x (by simp[D,Op.operands])) (hx i (by simp[D,Op.operands])) J).b
 |extract x i=>
  have H:∀x∈o.op.operands.toList,∀q,dU s x q->oZ s o q:=λx hx q F=>by simp only[oZ,D];exact⟨x,hx,F⟩
  cases x with
  |tmp k=>exact((Q4 h l N D (hx _ (by simp[D,Op.operands])) J).mono (λq F=>H _ (by simp[D,Op.operands]) q (dU.z F.1))).b
  |_=>simp[Ev.step,D] at J
 |call c=>
  have H:∀x∈o.op.operands.toList,∀q,dU s x q->oZ s o q:=λx hx q F=>by simp only[oZ,D];exact⟨x,hx,F⟩
  obtain⟨U,args,Y⟩:=c;cases U with
  |value f=>simp[qD,D] at af
  |invoke f m=>simp[qD,D] at af
  |builtin b=>
   rw[D] at I;have M:∀x∈args.toList,fe nt x=true:=λx ab=>hx x (by simp[D,Op.operands,Call.operands];simpa using ab);have Q:∀x∈args.toList,x∈o.op.operands.toList:=λx ab=>by simp[D,Op.operands,Call.operands];simpa using ab
   obtain⟨args⟩:=args;obtain⟨Y⟩:=Y;cases b with
   |len=>
    match args,Y,D,I,M,Q with
    |[x],t::ts,D,I,M,Q=>exact(Vz hC h l N D (M x (by simp)) J).b
    |[],_,D,I,_,_=>simp at I
    |_::_::_,_,D,I,_,_=>simp at I
    |[_],[],D,I,_,_=>simp[Ev.step,D] at J
   |append=>
    match args,Y,D,I,M,Q with
    |[x,y],[t,tx],D,I,M,Q=>
     exact(aav hC h l N D (M x (by simp)) (M y (by simp)) (Zi hC (by simpa using I)) J).mono (λq F=>by
      rcases F with F|F|F
      ·exact .inl (H x (Q x (by simp)) q F)
      ·exact .inl (H y (Q y (by simp)) q F)
      ·exact .inr F) (λ_ _ F=>F) (λ_ F=>F)
    |[],_,D,I,_,_=>simp at I
    |[_],_,D,I,_,_=>simp at I
    |_::_::_::_,_,D,I,_,_=>simp at I
    |[_,_],[],D,I,_,_=>simp at I
    |[_,_],[_],D,I,_,_=>simp at I
    |[_,_],_::_::_::_,D,I,_,_=>simp at I
   |min=>
    match args,D,I,M,Q with
    |[x,y],D,I,M,Q=>exact(Vx h l N D (M x (by simp)) (M y (by simp)) J).b
    |[],D,I,_,_=>simp at I
    |[_],D,I,_,_=>simp at I
    |_::_::_::_,D,I,_,_=>simp at I
   |max=>
    match args,D,I,M,Q with
    |[x,y],D,I,M,Q=>exact(Vy h l N D (M x (by simp)) (M y (by simp)) J).b
    |[],D,I,_,_=>simp at I
    |[_],D,I,_,_=>simp at I
    |_::_::_::_,D,I,_,_=>simp at I
   |_=>simp[Ev.step,D] at J
 |_=>simp[Ev.step,D] at J
end
end
section
section
variable{C:Cx}{s:TS}
theorem fO{a e j:Type}(o:Option a)(f:a->Option e)(K:e->Option j):(ck o f).bind K=ck o λx=>(f x).bind K:=by cases o<;>rfl
theorem fa{a R:Type}(b:Bool)(x y:Option a)(K:a->Option R):(bif b then x else y).bind K=bif b then x.bind K else y.bind K:=by cases b<;>rfl
theorem afO{a R:Type}(b:Bool)(x y:Option a)(K:a->Option R):(tI b x y).bind K=tI b (x.bind K) (y.bind K):=by cases b<;>rfl
theorem ff{a R:Type}(K:a->Option R):(none:Option a).bind K=none:=rfl
theorem FH{e R:Type}(a:e)(K:e->Option R):(some a).bind K=K a:=rfl
theorem nj{a R:Type}(p:Pl)(e:TV->Option a)(K:a->Option R):(jN C s p e).bind K=jN C s p λx=>(e x).bind K:=by
 rw[uz,uz];cases fQ C s p<;>rfl
theorem OL{a R:Type}(p:Pl)(e:TS->Option a)(K:a->Option R):(mw s p e).bind K=mw s p λx=>(e x).bind K:=by
 cases p with
 |slot k=>rfl
 |cell k c=>simp only[mw];cases s.box k<;>rfl
 |sub p t i c=>
  cases p with
  |slot k=>
   simp only[mw];cases s.slot k with
   |own d u y=>cases d<;>first|rfl|simp only[fa,ff]
   |_=>rfl
  |cell k j=>
   simp only[mw];cases s.box k with
   |cells A=>
    simp only[];cases nth A j with
    |own d u y=>cases d<;>first|rfl|simp only[fa,ff]
    |_=>rfl
   |_=>rfl
  |sub _ _ _ _=>rfl
theorem VC{e R:Type}:∀(p:Pl)(a:TS->Option e)(K:e->Option R),(tp s p a).bind K=tp s p λx=>(a x).bind K
 |.slot k,_,_=>rfl
 |.cell k c,_,_=>by simp only[tp];cases s.box k<;>rfl
 |.sub p _ _ _,a,K=>by simp only[tp];exact VC p a K
theorem VD{e R:Type}(p:Pl)(a:TS->Option e)(K:e->Option R):(rS s p a).bind K=rS s p λx=>(a x).bind K:=by
 cases p with
 |slot k=>rfl
 |cell k c=>simp only[rS];cases s.box k<;>rfl
 |sub p _ _ _=>simp only[rS];exact VC p a K
theorem KW{e R:Type}(m:Bool->Pl->Bool)(v:TV)(j:TV->TS->Option e)(K:e->Option R):(cv C m v s j).bind K=cv C m v s λa b=>(j a b).bind K:=by
 cases v with
 |vw p t=>
  simp only[cv,nj]
  congr 1;funext x
  cases x with
  |own d t u=>simp only[];cases m true p<;>simp only[VD,OL]
  |_=>rfl
 |sl p t0 y A=>
  simp only[cv,nj]
  congr 1;funext x
  cases x with
  |own d t u=>
   simp only[fa,ff]
   congr 1
   cases m false p<;>simp only[VD,OL,fO]
  |dT t u=>simp only[fa,ff,fO]
  |_=>rfl
 |_=>rfl
theorem Cu{u R:Type}(m:Bool->Pl->Bool):∀(e:List TV)(s:TS)(j:List TV->TS->Option u)(K:u->Option R),(pn C m e s j).bind K=pn C m e s λa b=>(j a b).bind K
 |[],s,j,K=>rfl
 |v::e,s,j,K=>by
  simp only[pn,KW]
  congr 1;funext x y
  exact Cu m e y _ K
theorem OM{e R:Type}:∀(p:Pl)(f:TV->(TV->Option e)->Option e)(j:TV->(TV->Option R)->Option R)(a:TS->Option e)(K:e->Option R),(∀v(k:TV->Option e),(f v k).bind K=j v λx=>(k x).bind K)->(qL C s p f a).bind K=qL C s p j λx=>(a x).bind K
 |.slot k,f,j,a,K,u=>by simp only[qL,fa,ff,u]
 |.cell k c,f,j,a,K,u=>by
  simp only[qL];cases s.box k with
  |cells D=>simp only[u]
  |_=>rfl
 |.sub p t i c,f,j,a,K,u=>by
  simp only[qL];refine OM p _ _ a K λv k=>?_;cases v with
  |own d y E=>
   cases d with
   |false=>rfl
   |true=>
    simp only[fa,ff,fO,u]
    congr 1
    congr 1
    funext x
    congr 1
    funext A;cases pP A<;>first|rfl|(cases dec y (kJ (enc true y x) c A)<;>rfl)
  |_=>rfl
theorem ng{e R:Type}{t a:Ty}{xs:List (El t)}(j:List (El a)->Option e)(K:e->Option R):(castLT t a xs j).bind K=castLT t a xs λx=>(j x).bind K:=by
 unfold castLT;split<;>rfl
theorem wU{e R:Type}{t:Ty}{a:List TV}(j:El t->Option e)(K:e->Option R):(one? t a j).bind K=one? t a λx=>(j x).bind K:=by
 unfold one?;cases dec t a<;>rfl
theorem afP{a R:Type}(n:Nat)(e:Bool)(p:TV)(j:TV->Option a)(K:a->Option R):(tJ C s n e p j).bind K=tJ C s n e p λx=>(j x).bind K:=by
 cases p with
 |ptr k c=>simp only[tJ];cases s.box k<;>first|rfl|simp only[fa,ff,fO]
 |pe k i=>simp only[tJ];cases s.box k<;>first|rfl|simp only[fa,ff,fO]
 |ep p t i c=>simp only[tJ,nj];congr 1;funext x;cases x<;>first|rfl|simp only[fa,ff,fO]
 |ip u c=>simp only[tJ,fa,ff]
 |iv t y=>simp only[tJ,fa,ff,fO]
 |_=>rfl
theorem VE{a R:Type}(p:TV)(n:Nat)(e:TV->Option a)(K:a->Option R):(qM p n e).bind K=qM p n λx=>(e x).bind K:=by
 cases p<;>first|rfl|simp only[qM,fa,ff]
theorem afQ{u R:Type}(e:Ty)(a:Nat)(x j:TV)(y:TV->Option u)(K:u->Option R):(tK C s e a x j y).bind K=tK C s e a x j λx=>(y x).bind K:=by
 cases j with
 |i k n=>
  cases x with
  |vw p t=>simp only[tK,nj];congr 1;funext x;cases x<;>first|rfl|simp only[fa,ff,fO]
  |sl p t D E=>simp only[tK,nj];congr 1;funext x;cases x<;>first|rfl|simp only[fa,ff,fO]
  |ptr k c=>simp only[tK];cases s.box k<;>first|rfl|simp only[fa,ff,fO]
  |dT t A=>simp only[tK,fO]
  |fE t A=>simp only[tK,fO]
  |iv t A=>simp only[tK,fO]
  |_=>rfl
 |_=>rfl
theorem afR{j R:Type}(e:BinOp)(k:IntKind)(a c:Int)(u:TV->Option j)(K:j->Option R):(zB e k a c u).bind K=zB e k a c λx=>(u x).bind K:=by
 cases e<;>first|rfl|simp only[zB,fO]
theorem afS{j R:Type}(e:BinOp)(x y:TV)(u:TV->Option j)(K:j->Option R):(CS e x y u).bind K=CS e x y λx=>(u x).bind K:=by
 unfold CS;split
 ·simp only[fa,afR,ff]
 ·cases e<;>first|rfl|simp only[fO]
 ·cases e<;>rfl
 ·cases e<;>rfl
 ·rename_i a c;cases e<;>(try rfl)<;>(cases js a c<;>rfl)
 ·rfl
theorem afT{e R:Type}(a:UnOp)(x:TV)(j:TV->Option e)(K:e->Option R):(La a x j).bind K=La a x λx=>(j x).bind K:=by
 cases a<;>cases x<;>rfl
theorem aeU{a R:Type}(x:TV)(e:Int->Option a)(K:a->Option R):(Gc C s x e).bind K=Gc C s x λx=>(e x).bind K:=by
 cases x with
 |vw p t=>simp only[Gc,nj];congr 1;funext x;cases x<;>rfl
 |_=>rfl
theorem VF{a R:Type}{t:Ty}(e:List (El t))(l h m:Int)(j:TV->Option a)(K:a->Option R):(zq e l h m j).bind K=zq e l h m λx=>(j x).bind K:=by
 simp only[zq,fO]
theorem afU{j R:Type}(x:TV)(u y A:Option Operand)(D:TV->Option j)(K:j->Option R):(r9 C s x u y A D).bind K=r9 C s x u y A λx=>(D x).bind K:=by
 cases x with
 |s a=>simp only[r9];split<;>first|rfl|simp only[fO]
 |dT t e=>
  simp only[r9];split
  ·simp only[fO]
  ·split<;>first|rfl|exact VF _ _ _ _ _ _
  ·rfl
 |fE t e=>
  simp only[r9];split
  ·simp only[fO]
  ·split<;>first|rfl|exact VF _ _ _ _ _ _
  ·rfl
 |vw p t=>
  simp only[r9,nj];congr 1;funext x;cases x with
  |own d E e=>
   simp only[fa,ff]
   congr 1
   split
   ·simp only[fO]
   ·split<;>first|rfl|simp only[fO]
   ·rfl
  |dT E e=>
   simp only[fa,ff]
   congr 1
   split
   ·simp only[fO]
   ·rfl
  |_=>rfl
 |sl p t a b=>simp only[r9];split<;>first|rfl|simp only[fO]
 |nil=>
  simp only[r9];split
  ·simp only[fO]
  ·split<;>first|rfl|simp only[fO]
  ·rfl
 |gQ=>
  simp only[r9];split
  ·simp only[fO]
  ·split<;>first|rfl|simp only[fO]
  ·rfl
 |_=>rfl
theorem afV{e R:Type}(n:Nat)(p v:TV)(a:TS->Option e)(K:e->Option R):(Gu C s n p v a).bind K=Gu C s n p v λx=>(a x).bind K:=by
 unfold Gu;split
 ·split
  ·rename_i k c;cases s.box k<;>first|rfl|simp only[fa,ff,fO]
  ·rfl
 ·split
  ·rename_i A D E;simp only[fa,ff,fO]
   congr 1
   congr 1
   funext y;refine OM _ _ _ a K λv k=>?_;cases v with
   |own d u F=>
    cases d with
    |false=>rfl
    |true=>simp only[fa,ff,fO,wU]
   |_=>rfl
  ·rfl
 ·simp only[fa,ff,Cu]
  congr 1
  congr 1
  funext H j;cases p with
  |ptr k c=>simp only[];cases j.box k<;>first|rfl|simp only[fa,ff]
  |pe k i=>simp only[];cases j.box k<;>first|rfl|simp only[wU,fO]
  |ep p t i c=>
   simp only[];refine OM p _ _ a K λv k=>?_;cases v<;>first|rfl|simp only[fa,ff,fO,wU]
  |_=>rfl
end
end
section
section
variable{C:Cx}{s:TS}
theorem VG{u R:Type}(t:Ty)(y:TV)(j:Bool->List (El t)->TS->Option u)(K:u->Option R):(l5 C t y s j).bind K=l5 C t y s λd e s=>(j d e s).bind K:=by
 cases y with
 |dT A e=>simp only[l5,ng]
 |fE A e=>simp only[l5,ng]
 |s a=>exact ng (t:=.int .u8) (xs:=dB a) (λe=>j true e s) K
 |vw p E=>
  simp only[l5,fa,nj,KW]
  congr 1
  ·congr 1;funext x;cases x<;>first|rfl|simp only[ng]
  ·congr 1;funext x D;cases x<;>first|rfl|simp only[ng]
 |sl p t0 F H=>
  simp only[l5,fa,nj,KW]
  congr 1
  ·congr 1;funext x;cases x<;>first|rfl|simp only[fa,ff,fO,ng]
  ·congr 1;funext x D;cases x<;>first|rfl|simp only[ng]
 |_=>rfl
theorem afW{e R:Type}(t:Ty)(a:Nat)(x y:TV)(j:TV->TS->Option e)(K:e->Option R):(xn C t a x y s j).bind K=xn C t a x y s λv s=>(j v s).bind K:=by
 simp only[xn,VG]
 congr 1;funext d A s
 cases x with
 |vw p D=>
  simp only[nj]
  congr 1;funext u
  cases u<;>first|rfl|simp only[ng,fO,fa,ff,OL]
 |nil=>simp only[fO]
 |gQ=>simp only[fO]
 |fE E F=>simp only[ng,fO]
 |_=>rfl
theorem VH{j R:Type}(fs:List (Nat×Nat)):∀(a:List (Nat×Operand))(z:List TV)(s:TS)(e:List TV->TS->Option j)(K:j->Option R),(fill C fs a z s e).bind K=fill C fs a z s λu s=>(e u s).bind K
 |[],_,_,_,_=>rfl
 |(i,x)::a,z,s,e,K=>by
  simp only[fill];cases nv fs i with
  |none=>rfl
  |some q=>simp only[fa,ff,Cu,VH fs a]
theorem N5{u R:Type}(t:Ty)(e:Nat):∀(a:List (Nat×Operand))(n:Nat)(s:TS)(j:Bool->List (El t)->TS->Option u)(K:u->Option R),(wQ C t e a n s j).bind K=wQ C t e a n s λd y s=>(j d y s).bind K
 |[],_,_,_,_=>rfl
 |(i,x)::a,n,s,j,K=>by simp only[wQ,fa,ff,Cu,wU,N5 t e a]
theorem aeV{j R:Type}:∀(e:List Ty)(a:List TV)(u:qg e->Option j)(K:j->Option R),(ks s e a u).bind K=ks s e a λx=>(u x).bind K:=by
 intro e a u K;induction e generalizing a j with
 |nil=>cases a<;>(simp only[ks];try rfl)
 |cons t e y=>
  cases a with
  |nil=>simp only[ks];rfl
  |cons v a=>
   cases v with
   |ip A c=>
    cases c with
    |zero=>simp only[ks,wU,y]
    |succ n=>simp only[ks];rfl
   |ptr k c=>
    cases c with
    |zero=>simp only[ks];cases s.box k<;>first|rfl|simp only[wU,y]
    |succ n=>simp only[ks];rfl
   |_=>simp only[ks];rfl
theorem adz{a R:Type}(v:TV)(e:TV->Option a)(K:a->Option R):(uN C s v e).bind K=uN C s v λx=>(e x).bind K:=by
 cases v with
 |vw p t=>simp only[uN,nj];congr 1;funext x;cases x<;>rfl
 |sl p t j u=>simp only[uN,nj];congr 1;funext x;cases x<;>first|rfl|simp only[fa,ff,fO]
 |_=>rfl
theorem Us{j R:Type}:∀(a:List TV)(e:List TV->Option j)(K:j->Option R),(zb C s a e).bind K=zb C s a λx=>(e x).bind K
 |[],_,_=>rfl
 |v::a,e,K=>by simp only[zb,adz,Us a]
theorem aeW{j R:Type}(e u:Bool)(x:List TV)(y:List TV->TS->Option j)(K:j->Option R):(xc C e u x s y).bind K=xc C e u x s λa b=>(y a b).bind K:=by
 simp only[xc,fa,Cu,Us]
theorem afX{y R:Type}(e:Bool)(p:dL)(v:TV)(A:p.T->(p.O->TS->TS)->TS->Option y)(K:y->Option R):(arg C e p v s A).bind K=arg C e p v s λa b c=>(A a b c).bind K:=by
 cases p with
 |val q=>
  cases v with
  |vec t j=>simp only[arg];cases q.dec (.vec t j)<;>rfl
  |_=>simp only[arg,aeW];congr 1;funext a b;cases q.dec (tr _ a)<;>rfl
 |pb t m E=>
  simp only[arg];split
  ·rename_i k;cases s.box k<;>first|rfl|simp only[fa,ff,wU]
  ·rfl
 |pr t=>
  simp only[arg];split
  ·rename_i k t0 i;cases s.slot k with
   |own d u j=>cases d<;>first|rfl|simp only[fa,ff,ng,fO]
   |_=>rfl
  ·rename_i k c t0 i;cases s.box k with
   |cells x=>
    simp only[];cases nth x c with
    |own d u j=>cases d<;>first|rfl|simp only[fa,ff,ng,fO]
    |_=>rfl
   |_=>rfl
  ·rfl
 |mu t=>
  simp only[arg];split
  ·rename_i k D;cases s.slot k with
   |own d u j=>cases d<;>first|rfl|simp only[ng]
   |_=>rfl
  ·rename_i k c D;cases s.box k with
   |cells x=>
    simp only[];cases nth x c with
    |own d u j=>cases d<;>first|rfl|simp only[ng]
    |_=>rfl
   |_=>rfl
  ·rfl
 |bd=>
  simp only[arg];split
  ·rename_i k;cases s.box k<;>rfl
  ·rfl
 |rp t=>
  simp only[arg];split
  ·simp only[wU]
  ·rfl
 |fn g F=>
  simp only[arg];split
  ·simp only[fa,ff,aeV]
  ·rfl
theorem VI{A R:Type}(e:Bool):∀(j:List dL)(u:List TV)(s:TS)(y:og j->(nE j->TS->TS)->TS->Option A)(K:A->Option R),(args C e j u s y).bind K=args C e j u s λa b c=>(y a b c).bind K
 |[],[],s,_,_=>rfl
 |[],_::_,s,_,_=>by simp only[args];rfl
 |_::_,[],s,_,_=>by simp only[args];rfl
 |p::j,v::u,s,y,K=>by
  simp only[args,fa,ff,afX]
  congr 1;congr 1;funext x E D
  exact VI e j u D _ K
theorem adA{u R:Type}(g:Nat)(j:List TV)(e:Option Nat)(y:TS->Option u)(K:u->Option R):(Cp C g j s e y).bind K=Cp C g j s e λx=>(y x).bind K:=by
 simp only[Cp];cases C.fn g (wB j) with
 |none=>rfl
 |some c=>
  simp only[fa,ff,VI,fO]
  congr 1;congr 1;funext a A D;congr 1;funext x
  cases xd C e c.rs (c.back x).1 (A (c.back x).2 D)<;>rfl
theorem aeX{u R:Type}(o:Oper)(A:TS->Option u)(K:u->Option R):(Ev.step C o s A).bind K=Ev.step C o s λx=>(A x).bind K:=by
 unfold Ev.step;cases o.op with
 |move x=>rfl
 |assign x=>
  simp only[];cases cZ C s x<;>(cases o.dst<;>first|rfl|simp only[fa,ff,KW])
 |pick c a b=>
  simp only[];cases cZ C s c<;>first|rfl|simp only[afO]
 |alloc t=>
  simp only[];cases o.dst with
  |none=>rfl
  |some d=>
   simp only[];cases s.box d<;>(try rfl);simp only[];cases C.cX t<;>rfl
 |box t x=>
  simp only[];cases o.dst with
  |none=>rfl
  |some d=>
   simp only[];cases s.box d<;>(try rfl);simp only[];cases cZ C s x<;>first|rfl|simp only[Cu]
 |build t D=>
  simp only[];cases C.cX t with
  |st _ _ fs=>simp only[VH]
  |ar n e=>simp only[N5,fa,ff]
  |_=>rfl
 |buildSlice t n D=>
  simp only[];cases C.cX t<;>first|rfl|simp only[fa,ff,N5]
 |load t a=>simp only[fa,ff,afP]
 |store t a x=>simp only[fa,ff,afV]
 |nilCheck x=>simp only[VE]
 |binOp E t x y J=>simp only[fa,ff,afS]
 |unOp E t x=>simp only[afT]
 |fieldAddr t x j=>
  simp only[];cases C.cX t<;>(try rfl);simp only[];rename_i fs;cases nv fs j<;>first|rfl|simp only[VE]
 |indexAddr t x i=>simp only[fa,ff,afQ]
 |index t x i=>
  simp only[fa,ff]
  congr 1
  split
  ·simp only[fO]
  ·simp only[fO,fa,ff]
  ·rfl
 |field t x j=>
  simp only[];split
  ·rename_i fs _ _;cases nv fs j<;>first|rfl|simp only[fa,ff]
  ·rfl
 |extract x i=>
  cases x with
  |tmp k=>
   simp only[];cases s.slot k<;>(try rfl);rename_i F;simp only[fa,ff]
   congr 1
   cases xe (nth F i)<;>rfl
  |_=>rfl
 |convert src H x=>
  simp only[fa,ff]
  congr 1
  split
  ·rfl
  ·rfl
  ·simp only[fO]
  ·simp only[fa,ff,nj]
   congr 1;congr 1;funext v
   cases eZ (.int .u8) v<;>rfl
  ·simp only[fa,ff,nj]
   congr 1;congr 1;funext v
   cases eZ (.int .u8) v<;>first|rfl|simp only[fa,ff,fO]
  ·rename_i v _ _ _ _;simp only[fa,ff]
   congr 1
   cases eZ (.int .u8) _<;>rfl
  ·rfl
 |slice t x M N P=>simp only[fa,ff,afU]
 |makeSlice t l c=>
  simp only[];split
  ·simp only[fO]
  ·rfl
 |makeFunc f first I=>
  cases f with
  |func g=>simp only[fa,ff]
  |_=>rfl
 |makeInterface t x=>
  simp only[];cases C.cX t<;>rfl
 |call c=>
  simp only[];cases c.callee with
  |value x=>
   simp only[];cases cZ C s x<;>first|rfl|simp only[fa,ff,adA]
  |invoke r m=>rfl
  |builtin b=>
   simp only[];split
   ·simp only[fa,ff,aeU]
   ·split
    ·simp only[afW]
    ·rfl
   ·split<;>rfl
   ·split<;>rfl
   ·rfl
 |_=>rfl
theorem abH{R:Type}{r:R}{o:Oper}{K:TS->Option R}(h:Ev.step C o s K=some r):∃a,Ev.step C o s some=some a/\K a=some r:=by
 have e:=aeX (C:=C) (s:=s) o some K;simp only[FH] at e;rw[<-e] at h;cases j:Ev.step C o s some with
 |none=>rw[j] at h;simp at h
 |some a=>rw[j] at h;exact⟨a,rfl,h⟩
end
end
def kp:Fl->dh->Prop|.l,_=>False|.s,a=>∃x:Int×Nat,a=[x]/\x.2<64|.d,_=>True
def o7:List Fl->Nat->Fl|[],_=>.l|f::_,0=>f|_::fs,j+1=>o7 fs j
theorem EL:∀(m:List Fl)(a:List TV)(j:Nat),(je m a)[j]?=(a[j]?).map (vc (o7 m j))
 |[],a,j=>by
  simp only[je,o7];cases a[j]? with
  |none=>rfl
  |some x=>cases x<;>rfl
 |f::fs,[],j=>by simp[je]
 |f::fs,c::a,0=>by simp[je,o7]
 |f::fs,c::a,j+1=>by simp only[je,o7,Yv];exact EL fs a j
theorem EM:∀(m:List Fl)(a:List TV),(je m a).length=a.length
 |[],a=>rfl
 |f::fs,[]=>rfl
 |f::fs,c::a=>by simp[je,EM fs a]
theorem Ut:∀{m:List Fl}{cs:List TV}{j:Nat}{e:TV},okF m cs=true->cs[j]?=some e->o5 (o7 m j) e=true
 |[],cs,j,e,_,_=>by simp[o7,o5]
 |f::fs,[],j,e,_,h=>by simp at h
 |f::fs,c::cs,0,e,a,h=>by
  simp only[okF] at a;simp at h;subst h;simp only[o7];cases u:o5 f c with
  |true=>rfl
  |false=>rw[u] at a;simp at a
 |f::fs,c::cs,j+1,e,a,h=>by
  simp only[okF] at a;cases u:o5 f c with
  |true=>rw[u,cL] at a;exact Ut (m:=fs) (cs:=cs) a (by simpa using h)
  |false=>rw[u] at a;simp at a
theorem Ek{f:Fl}{a:TV}(h:dC a=true):dC (vc f a)=true:=by
 cases f<;>cases a<;>simp_all [vc,dC]
structure Tn(c c':Rc)(K:dh->Prop)(q:Rt)(p:dh)(q':Rt)(p':dh):Prop where
 jq:∀b π,c.γ b=.at q (p++π)->K π->c'.γ b=.at q' (p'++π)
 jR:∀b π,c.γ b=.at q (p++π)->¬ K π->c'.γ b=.im
 heap:∀b π,c.γ b=.at q (p++π)->c'.w.heap[b]?=c.w.heap[b]?
def jS(c a:Rc):Prop:=∀b,c.γ b=.im->a.γ b=.im/\a.w.heap[b]?=c.w.heap[b]?
theorem Tn.sub{c e:Rc}{K j:dh->Prop}{q u:Rt}{p p':dh}(h:Tn c e K q p u p')(x:Int×Nat)(y:∀a,K (x::a)↔j a):Tn c e j q (p++[x]) u (p'++[x]) where
 jq b a hb hK:=by
  have:=h.jq b (x::a) (by simpa using hb) ((y a).2 hK);simpa using this
 jR b a hb hK:=h.jR b (x::a) (by simpa using hb) (λA=>hK ((y a).1 A))
 heap b a hb:=h.heap b (x::a) (by simpa using hb)
theorem Rd.all{c c':Rc}{q a:Rt}{p e:dh}{j:TV}{v:Value}(h:Rd c (some (q,p)) j v)(u:dC j=true)(E:jS c c')(y:Tn c c' (λ_=>True) q p a e):Rd c' (some (a,e)) j v:=
 h.mono _ E (λH I A=>by
  simp only[cW,eE] at A
  obtain⟨rfl,rfl⟩:=A
  exact⟨a,e,rfl,λb C D=>⟨y.jq b C D trivial,y.heap b C D⟩⟩) (λk F=>absurd F (kz u k)) (λr x=>absurd x (fZ u r)) (λr x=>absurd x.mv (fZ u r))
theorem Rd.PF{c a:Rc}{q:Rt}{p:dh}{q':Rt}{p':dh}{e:TV}{v:Value}(h:Rd c (some (q,p)) e v)(A:dC e=true)(C:jS c a)(j:Tn c a (λ_=>False) q p q' p')(m:Option Gp):Rd a m (jZ e) v:=
 (h.jR A C (λD E u b x y=>by
   simp only[cW,eE] at u
   obtain⟨rfl,rfl⟩:=u
   exact⟨j.jR b x y (λh=>h),j.heap b x y⟩)).lift m
open Classical in
noncomputable def rV(c e:Rc)(K:dh->Prop)(q:Rt)(p:dh):Nat->G:=λb=>
 if∃a,c.γ b=.at q (p++a)/\K a then c.γ b else if e.γ b=.im then .im else .fr
theorem MK{c c':Rc}{q q':Rt}{p p':dh}{f:Fl}{a b:TV}{v:Value}(M:jS c c')(H:Tn c c' (kp f) q p q' p')(C:Cd false a b)(Y:ik b=false)(N:o5 f a=true)(hp:dC a=true)(h:Rd c (some (q,p)) a v):
  Rd c' (some (q',p')) (vc f b) v:=by
 have I:∀(t:Ty)(ad:Option Addr),Rd c' (some (q',p')) (vc f (.dT t [])) (.slice ad 0 0):=λt ad=>by
  cases f
  ·exact .kt _ _ _ _
  ·exact .jC _ _ _ _
  ·exact .jC _ _ _ _
 cases a with
 |b x=>
  rcases C with rfl|⟨t,xs,y,_⟩
  ·rw[h.oS];cases f<;>exact .b _ _
  ·simp[eZ] at y
 |i k n=>
  rcases C with rfl|⟨t,xs,y,_⟩
  ·rw[h.ka];cases f<;>exact .i _ _ _
  ·simp[eZ] at y
 |s x=>
  rcases C with rfl|⟨t,xs,y,_⟩
  ·rw[h.nq];cases f<;>exact .s _ _
  ·simp[eZ] at y
 |nil=>
  cases h;rcases C with rfl|⟨t,xs,y,rfl⟩
  ·cases f<;>exact .nil _
  ·simp only[eZ,cW] at y;subst y;exact I _ _
 |gQ=>
  cases h;rcases C with rfl|⟨t,xs,y,rfl⟩
  ·cases f<;>exact .gQ _ _
  ·simp only[eZ,cW] at y;subst y;exact I _ _
 |dT t xs=>
  cases f with
  |s=>simp[o5] at N
  |d=>simp[o5] at N
  |l=>
   have e:b=.dT t xs:=by
    rcases C with rfl|⟨P,R,y,rfl⟩
    ·rfl
    ·rcases rj y with A|A|⟨d,A⟩|⟨A,_⟩|⟨A,_⟩<;>first|(cases A;rfl)|cases A
   subst e;have A:=h.PF (m:=some (q',p')) rfl M ⟨λb D e E=>E.elim,λb D e E=>H.jR b D e (λJ=>J),H.heap⟩ (q':=q') (p':=p');exact A
 |fE t xs=>
  cases f with
  |s=>simp[o5] at N
  |d=>simp[o5] at N
  |l=>
   have A:=h.PF (m:=some (q',p')) rfl M ⟨λb D e E=>E.elim,λb D e E=>H.jR b D e (λJ=>J),H.heap⟩ (q':=q') (p':=p');rcases C with rfl|⟨P,R,y,rfl⟩
   ·exact A
   ·rcases rj y with Q|Q|⟨d,Q⟩|⟨Q,_⟩|⟨Q,_⟩<;>first|(cases Q;exact Rd.yW A)|cases Q
 |own d t xs=>
  have e:b=.dT t xs:=by
   rcases C with rfl|⟨P,R,y,rfl⟩
   ·simp[ik] at Y
   ·rcases rj y with A|A|⟨d,A⟩|⟨A,_⟩|⟨A,_⟩<;>first|(cases A;rfl)|cases A
  subst e;cases f with
  |l=>exact h.PF (q':=q') (p':=p') rfl M ⟨λb D e E=>E.elim,λb D e E=>H.jR b D e (λJ=>J),H.heap⟩ _
  |d=>
   have hd:Rd c (some (q,p)) (.own true t xs) v:=by
    simp only[o5] at N
    cases S:flat t with
    |true=>exact h.BB S
    |false=>rw[S,cN] at N;subst N;exact h
   exact hd.all rfl M H
  |s=>
   have y:Rd {c' with γ:=rV c c' (kp .s) q p} (some (q,p)) (.own (flat t) t xs) v:=by
    refine h.uC (λb e=>?_) (λb P e=>?_) (λb r j D hj e=>?_)
    ·refine⟨?_,(M b e).2⟩;show rV c c' (kp .s) q p b=.im;rw[rV,cK (by rintro⟨D,F,_⟩;rw[e] at F;cases F),cJ (M b e).1]
    ·refine⟨?_,H.heap b [tg P] e⟩;show rV c c' (kp .s) q p b=_;rw[rV,cJ ⟨[tg P],e,tg P,rfl,Fe P⟩];exact e
    ·refine⟨?_,H.heap b ((r,j)::D) e⟩;show rV c c' (kp .s) q p b=_;have U:¬ kp .s ((r,j)::D):=by
      rintro⟨x,hx,Z⟩
      simp only[lF] at hx
      obtain⟨rfl,_⟩:=hx
      simp at Z;omega
     rw[rV,cK,cJ (H.jR b _ e U)]
     ·rintro⟨aa,F,E⟩;rw[e] at F;simp only[G.at.injEq,vn,aib] at F;subst F;exact U E
   refine y.mono (some (q',p')) (λb e=>?_) (λq1 p1 J=>?_) (λk E=>by cases E) (λr hr=>by cases hr) (λr hr=>by cases hr)
   ·have u:rV c c' (kp .s) q p b=.im:=e;refine⟨?_,rfl⟩;unfold rV at u;split at u
    ·exact(M b u).1
    ·split at u
     ·assumption
     ·cases u
   ·simp only[cW,eE] at J;obtain⟨rfl,rfl⟩:=J;refine⟨q',p',rfl,λb D e=>⟨?_,rfl⟩⟩;have u:rV c c' (kp .s) q p b=.at q (p++D):=e;unfold rV at u;split at u
    ·rename_i F;obtain⟨aa,F,E⟩:=F;rw[u] at F;simp only[G.at.injEq,vn,aib] at F;subst F;exact H.jq b _ u E
    ·split at u<;>cases u
 |_=>simp[dC] at hp
theorem Nk{a b:TV}(h:Cd false a b)(e:dC b=true):dC a=true:=by
 rcases h with rfl|⟨t,u,j,_⟩
 ·exact e
 ·rcases rj j with rfl|rfl|⟨d,rfl⟩|⟨rfl,_⟩|⟨rfl,_⟩<;>rfl
def om:VS->dh->Prop
 |.el _ m,a=>match a with|[]=>True|x::a=>kp (o7 m x.2) a
 |.sl f _,a=>kp f a
 |_,_=>True
theorem HF{t:Ty}{e:List TV}{x:El t}(A:Ev.dec t e=some x){j:Nat}{b:TV}(u:(enc false t x)[j]?=some b):∃a,e[j]?=some a/\Cd false a b:=by
 obtain⟨E,C⟩:=(sN false A).get;have D:=(eF.1 u).1;have y:e[j]?=some (e[j]'(by omega)):=eA _;exact⟨_,y,C j _ _ y u⟩
theorem Q7{c D:Rc}{r H:Rt}{p I:dh}{m:List Fl}{t:Ty}{E:List TV}{x:El t}{vs:List Value}(M:jS c D)(N:∀j,Tn c D (kp (o7 m j)) r (p++[(0,j)]) H (I++[(0,j)]))(F:okF m E=true)(P:Ev.dec t E=some x)
  (Q:∀(j:Nat)e v,E[j]?=some e->vs[j]?=some v->Rd c (some (r,p++[(0,j)])) e v){j:Nat}{e:TV}{v:Value}(u:(je m (enc false t x))[j]?=some e)(R:vs[j]?=some v):Rd D (some (H,I++[(0,j)])) e v/\dC e=true:=by
 rw[EL] at u;cases y:(enc false t x)[j]? with
 |none=>rw[y] at u;simp at u
 |some b=>
  rw[y] at u;simp only[jc,cW] at u;subst u;obtain⟨a,J,A⟩:=HF P y;have C:=fN y;exact⟨MK M (N j) A (rE y) (Ut F J) (Nk A C) (Q j a v J R),Ek C⟩
theorem BE{t:Ty}{m:List Fl}{e:TV}{x:El t}(y:(VS.el t m).dec e=some x):(∃a,e=.agg a/\Ev.gk t=true/\okF m a=true/\Ev.dec t a=some x)\/(Ev.gk t=false/\Ev.dec t [e]=some x/\∀a,e≠.agg a):=by
 have j:(bif Ev.gk t then none else Ev.dec t [e]:Option (El t))=some x->Ev.gk t=false/\Ev.dec t [e]=some x:=λh=>by
  cases u:Ev.gk t with
  |true=>rw[u] at h;simp at h
  |false=>rw[u] at h;exact⟨rfl,h⟩
 cases e with
 |agg a=>
  have h:(bif Ev.gk t then(bif okF m a then Ev.dec t a else none) else none:Option (El t))=some x:=y;obtain⟨C,A⟩:=dM.1 h;obtain⟨A,D⟩:=dM.1 A;exact .inl ⟨a,rfl,C,A,D⟩
 |_=>exact .inr ⟨(j y).1,(j y).2,by simp⟩
theorem Fj{t:Ty}{m:List Fl}{x:(VS.el t m).T}:(VS.el t m).enc x=(if Ev.gk t=true then .agg (je m (enc false t x)) else nth (enc false t x) 0):=by
 have h:(VS.el t m).enc x=bif Ev.gk t then .agg (je m (enc false t x)) else nth (enc false t x) 0:=rfl;rw[h];cases Ev.gk t<;>rfl
theorem EN{f:Fl}{t:Ty}{a:TV}{x:List (El t)}(e:(VS.sl f t).dec a=some x):o5 f a=true/\eZ t a=some x:=by
 have h:(bif o5 f a then eZ t a else none:Option (List (El t)))=some x:=e;exact dM.1 h
theorem Em{t:Ty}{a:TV}{x:List (El t)}(e:(VS.fE t).dec a=some x):a=.fE t x:=by
 cases a with
 |fE j u=>
  have h:(if h:j=t then some (jL h u) else none:Option (List (El t)))=some x:=e;split at h
  ·rename_i y;subst y;simp only[jL,cW] at h;rw[h]
  ·simp at h
 |_=>have h:(none:Option (List (El t)))=some x:=e;simp at h
theorem Bs{t:Ty}{a:TV}{x:List (El t)}(e:(VS.vec t).dec a=some x):a=.vec t x:=by
 cases a with
 |vec j u=>
  have h:(if h:j=t then some (jL h u) else none:Option (List (El t)))=some x:=e;split at h
  ·rename_i y;subst y;simp only[jL,cW] at h;rw[h]
  ·simp at h
 |_=>have h:(none:Option (List (El t)))=some x:=e;simp at h
theorem BF{a:TV}{x:Bool}(e:VS.er.dec a=some x):a=.er x\/(a=.lA/\x=false):=by
 cases a with
 |er y=>have h:(some y:Option Bool)=some x:=e;simp at h;exact .inl (by rw[h])
 |lA=>have h:(some false:Option Bool)=some x:=e;simp at h;exact .inr ⟨rfl,h⟩
 |_=>have h:(none:Option Bool)=some x:=e;simp at h
theorem RO{t:Ty}{a:TV}{v:Value}{x:El t}{c c':Rc}{m m':Option Gp}(u:Ev.gk t=false)(A:Ev.dec t [a]=some x)(h:Rd c m a v):Rd c' m' (nth (enc false t x) 0) v/\dC a=true/\dC (nth (enc false t x) 0)=true:=by
 obtain⟨C,y⟩:=(sN false A).get;cases t<;>simp[Ev.gk] at u
 ·have e:=y 0 a _ rfl rfl;rcases e with rfl|⟨_,_,_,j⟩
  ·rw[h.oS];exact⟨.b _ _,rfl,rfl⟩
  ·simp[sc] at j
 ·have e:=y 0 a _ rfl rfl;rcases e with rfl|⟨_,_,_,j⟩
  ·rw[h.ka];exact⟨.i _ _ _,rfl,rfl⟩
  ·simp[sc] at j
 ·have e:=y 0 a _ rfl rfl;rcases e with rfl|⟨_,_,_,j⟩
  ·rw[h.nq];exact⟨.s _ _,rfl,rfl⟩
  ·simp[sc] at j
theorem rF{c F:Rc}{r P:Rt}{p Q:dh}{q:VS}{a:TV}{v:Value}{x:q.T}(H:jS c F)(I:Tn c F (om q) r p P Q)(e:q.dec a=some x)(h:Rd c (some (r,p)) a v):Rd F (some (P,Q)) (q.enc x) v:=by
 cases q with
 |el t m=>
  rcases BE e with⟨cs,rfl,u,C,e⟩|⟨u,e,_⟩
  ·rw[Fj,cJ u];cases h with
   |agg _ _ vs Z R S U=>
    obtain⟨D,_⟩:=(sN false e).get;have E:=λ(j:Nat)a v(y:(je m (enc false t x))[j]?=some a)(A:vs.toList[j]?=some v)=>Q7 H (λj=>I.sub (0,j) (λπ=>G2)) C e (vs:=vs.toList) (λj a v y A=>U j a v y (by simpa using A)) y A;have J:vs.size=(je m (enc false t x)).length:=by rw[EM,R,D]
    have val:∀(j:Nat)a,(je m (enc false t x))[j]?=some a->∃v,vs.toList[j]?=some v:=λj a y=>by
     have:=(eF.1 y).1
     exact⟨_,eA (by simp;omega)⟩
    refine .agg _ _ _ (λa M=>?_) J (λj a v y A=>?_) (λj a v y A=>(E j a v y (by simpa using A)).1)
    ·obtain⟨j,y⟩:=G3.1 M;obtain⟨v,A⟩:=val j a y;exact Br (E j a v y A).2
    ·have N:j<cs.length:=by
       have:=(eF.1 y).1
       omega
     exact S j _ v (eA N) A
  ·rw[Fj,cK (by simp[u])];exact(RO u e h).1
 |sl f t=>
  obtain⟨C,e⟩:=EN e;have Y:dC a=true:=by rcases rj e with rfl|rfl|⟨d,rfl⟩|⟨rfl,_⟩|⟨rfl,_⟩<;>rfl
  exact MK H I (.inr ⟨t,x,e,rfl⟩) rfl C Y h
 |fE t=>
  have:=Em e;subst this;exact h.all rfl H I
 |vec t=>
  have:=Bs e;subst this;cases h with
  |vec _ _ _ u=>exact .vec _ _ _ u
 |er=>
  rcases BF e with rfl|⟨rfl,rfl⟩
  ·cases h with
   |sd _ t x=>exact .sd _ _ _
   |sf=>exact .sf _
  ·cases h;exact .sf _
theorem B5(q:VS)(x:q.T):gZ (q.enc x)=true/\∀k,¬ MB k (q.enc x):=by
 have u:∀{tv:TV},dC tv=true->gZ tv=true/\∀k,¬ MB k tv:=λ{tv}h=>⟨by cases tv<;>simp_all [dC,gZ,fy],λk=>kz h k⟩;cases q with
 |el t m=>
  rw[Fj];cases y:Ev.gk t with
  |true=>
   rw[cJ rfl];refine⟨?_,λk e=>by cases e⟩;simp only[gZ,jh];intro tv A;obtain⟨j,a⟩:=G3.1 A;rw[EL] at a;cases C:(enc false t x)[j]? with
   |none=>rw[C] at a;simp at a
   |some b=>rw[C] at a;simp only[jc,cW] at a;subst a;simp[fy,Ek (fN C)]
  |false=>cases t<;>simp[Ev.gk] at y<;>exact u rfl
 |sl f t=>exact u (Ek rfl)
 |fE t=>exact u rfl
 |vec t=>exact⟨rfl,λk e=>by cases e⟩
 |er=>exact⟨rfl,λk e=>by cases e⟩
def ta(c:Rc)(q:Rt)(b:Nat)(x:List TV):Prop:=∃a e fr,c.w.heap[b]?=some (.cells a e fr)/\uY a.size fr/\c.γ b=.at q []/\a.size=x.length/\(∀u∈x,jy u=true)/\∀(j:Nat)u v,x[j]?=some u->a[j]?=some v->v.oneCell'=true/\Rd c (some (q,[(0,j)])) u v
def afY(c:Rc)(q:Rt)(b:Nat)(t:Ty)(j:List (El t)):Prop:=∃a e fr,c.w.heap[b]?=some (.cells a e fr)/\uY a.size fr/\c.γ b=.at q []/\Ev.gk t=false/\a.toList=j.map (jE t)
theorem Uu{c a:Rc}{q e:Rt}{x:cq}{v:Value}(h:s8 c.γ c.w q x v)(j:Tn c a (λ_=>True) q [] e []):s8 a.γ a.w e x v:=h.move λg u=>⟨j.jq g _ u trivial,j.heap g _ u⟩
def wV(c:Rc)(q:Rt)(b:Nat)(x:cq):Prop:=∃p v,c.w.heap[b]?=some (.cells #[p,v] F3 (0,0))/\c.γ b=.at q []/\(p=.pointer none\/p=.pointer (some ⟨b,0,none⟩))/\s8 c.γ c.w q x v
def KX(c:Rc)(q:Rt)(b:Nat):BC->Prop|.none=>True|.cells a=>ta c q b a|.vec t e=>afY c q b t e|.iy x=>wV c q b x
theorem uB{c:Rc}{k:Nat}{u:BC}:tw c k u↔KX c (.box k) (c.bx k) u:=by cases u<;>exact G2
def sg:gh->dh->Prop
 |.st _ m,a=>match a with|[]=>True|x::a=>kp (o7 m x.2) a
 |.one s,a=>match a with|[]=>True|_::a=>om s a
 |_,_=>True
theorem aeY{a b:TV}(h:CU a b=true):a=b:=by
 unfold CU at h;split at h
 ·rfl
 ·rename_i k n e j
  by_cases u:k=e<;>by_cases x:n=0<;>by_cases y:j=0<;>simp_all
 ·rfl
 ·rfl
 ·simp at h
theorem Uv:∀{as e:List TV},rU as e=true->as=e
 |[],[],_=>rfl
 |[],_::_,h=>by simp[rU] at h
 |_::_,[],h=>by simp[rU] at h
 |a::as,b::e,h=>by
  simp only[rU] at h;cases j:CU a b with
  |false=>rw[j] at h;simp at h
  |true=>rw[j,cL] at h;rw[aeY j,Uv h]
theorem abI{q:VS}{x:q.T}{j:TV}{c:Rc}{m:Option Gp}{v:Value}(a:q.dec j=some x)(u:jy j=true)(h:Rd c m j v):jy (q.enc x)=true:=by
 cases q with
 |el t m=>
  rcases BE a with⟨y,rfl,_,_,_⟩|⟨e,a,_⟩
  ·simp[jy,fy,dC] at u
  ·rw[Fj,cK (by simp[e])];exact rb (RO (c':=c) (m':=none) e a h).2.2
 |sl f t=>exact rb (Ek rfl)
 |fE t=>exact rb rfl
 |vec t=>have:=Bs a;subst this;simp[jy,fy,dC] at u
 |er=>rcases BF a with rfl|⟨rfl,_⟩<;>simp[jy,fy,dC] at u
theorem adB{t:Ty}{m:List Fl}{u:BC}{x:El t}(e:p5 (.st t m) u=some x):∃a,u=.cells a/\okF m a=true/\Ev.dec t a=some x:=by
 cases u with
 |cells a=>
  have h:(bif okF m a then Ev.dec t a else none:Option (El t))=some x:=e;obtain⟨j,y⟩:=dM.1 h;exact⟨a,rfl,j,y⟩
 |_=>have h:(none:Option (El t))=some x:=e;simp at h
theorem abJ{s:VS}{u:BC}{x:s.T}(a:p5 (.one s) u=some x):∃e,u=.cells [e]/\s.dec e=some x:=by
 cases u with
 |cells j=>
  match j,a with
  |[e],a=>exact⟨e,rfl,a⟩
  |[],a=>have h:(none:Option s.T)=some x:=a;simp at h
  |_::_::_,a=>have h:(none:Option s.T)=some x:=a;simp at h
 |_=>have h:(none:Option s.T)=some x:=a;simp at h
theorem abK{t:Ty}{u:BC}{x:List (El t)}(a:p5 (.vec t) u=some x):u=.vec t x:=by
 cases u with
 |vec e j=>
  have h:(if h:e=t then some (jL h j) else none:Option (List (El t)))=some x:=a;split at h
  ·rename_i y;subst y;simp only[jL,cW] at h;rw[h]
  ·simp at h
 |_=>have h:(none:Option (List (El t)))=some x:=a;simp at h
theorem adC{a:List TV}{u:BC}{x:Unit}(e:p5 (.zr a) u=some x):u=.cells a/\rU a a=true:=by
 cases u with
 |cells y=>
  have h:(bif rU a y then some () else none:Option Unit)=some x:=e;obtain⟨j,_⟩:=dM.1 h;have:=Uv j;subst this;exact⟨rfl,j⟩
 |_=>have h:(none:Option Unit)=some x:=e;simp at h
theorem abL{u:BC}{x:cq}(a:p5 .iy u=some x):u=.iy x:=by
 cases u with
 |iy y=>have h:(some y:Option cq)=some x:=a;simp at h;rw[h]
 |_=>have h:(none:Option cq)=some x:=a;simp at h
theorem ZQ:∀{as x:List TV},rU as x=true->∀y∈as,dC y=true:=by
 intro as;induction as with
 |nil=>intro x _ y e;simp at e
 |cons a as A=>
  intro x u y e;cases x with
  |nil=>simp[rU] at u
  |cons b x=>
   simp only[rU] at u;cases j:CU a b with
   |false=>rw[j] at u;simp at u
   |true=>
    rw[j,cL] at u;rcases eo.1 e with rfl|e
    ·unfold CU at j;split at j<;>first|rfl|simp at j
    ·exact A u y e
theorem JC{c c':Rc}{r Z:Rt}{b:Nat}{q:gh}{u:BC}{x:q.T}(R:jS c c')(A:Tn c c' (sg q) r [] Z [])(F:p5 q u=some x)(h:KX c r b u):KX c' Z b (CF q x):=by
 cases q with
 |st t m=>
  obtain⟨cs,rfl,S,F⟩:=adB F;obtain⟨vs,e,fr,I,M,C,H,N,J⟩:=h;obtain⟨P,_⟩:=(sN false F).get;have Q:=λ(j:Nat)y v(a:(je m (enc false t x))[j]?=some y)(D:vs.toList[j]?=some v)=>Q7 R (λj=>A.sub (0,j) (λπ=>G2)) S F (vs:=vs.toList) (p:=[]) (λj y v a D=>(J j y v a (by simpa using D)).2) a D;have val:∀(j:Nat)y,(je m (enc false t x))[j]?=some y->∃v,vs.toList[j]?=some v:=λj y a=>by
   have:=(eF.1 a).1
   rw[EM] at this
   exact⟨_,eA (by simp;omega)⟩
  refine⟨vs,e,fr,(A.heap b [] C).trans I,M,A.jq b [] C trivial,(by rw[EM,H,P]:vs.size=(je m (enc false t x)).length),λy E=>?_,λj y v a D=>⟨?_,(Q j y v a (by simpa using D)).1⟩⟩
  ·obtain⟨j,a⟩:=G3.1 E;obtain⟨v,D⟩:=val j y a;exact rb (Q j y v a D).2
  ·have U:j<cs.length:=by
     have:=(eF.1 a).1
     rw[EM] at this
     omega
   exact(J j _ v (eA U) D).1
 |one s=>
  obtain⟨y,rfl,F⟩:=abJ F;obtain⟨vs,e,fr,I,M,C,H,N,J⟩:=h;have Y:vs[0]?=some (vs[0]'(by rw[H];simp)):=ju _;refine⟨vs,e,fr,(A.heap b [] C).trans I,M,A.jq b [] C trivial,H,λkx E=>?_,λj kx v a D=>?_⟩
  ·have E:kx∈[s.enc x]:=E;rw[fM] at E;subst E;exact abI F (N y (by simp)) (J 0 y _ rfl Y).2
  ·have a:[s.enc x][j]?=some kx:=a;cases j with
   |zero=>
    simp only[qp,cW] at a;subst a;obtain⟨h7,h8⟩:=J 0 y v rfl D;exact⟨h7,rF R (A.sub (p:=[]) (p':=[]) (0,0) (λπ=>G2)) F h8⟩
   |succ j=>simp at a
 |vec t=>
  have:=abK F;subst this;obtain⟨vs,e,fr,I,M,C,H⟩:=h;exact⟨vs,e,fr,(A.heap b [] C).trans I,M,A.jq b [] C trivial,H⟩
 |zr cs=>
  obtain⟨rfl,hz⟩:=adC F;obtain⟨vs,e,fr,I,M,C,H,N,J⟩:=h;exact⟨vs,e,fr,(A.heap b [] C).trans I,M,A.jq b [] C trivial,H,N,λj y v a D=>⟨(J j y v a D).1,(J j y v a D).2.all (ZQ hz y (eT a)) R (A.sub (p:=[]) (p':=[]) (0,j) (λπ=>G2))⟩⟩
 |iy=>
  have:=abL F;subst this;obtain⟨p,v,I,C,H,N⟩:=h;exact⟨p,v,(A.heap b [] C).trans I,A.jq b [] C trivial,H,Uu N A⟩
section
def qb{a:Type}(k:Nat):List (Nat×a)->Option a
 |[]=>none
 |p::e=>if p.1=k then some p.2 else qb k e
def kpL:fp->dh->Prop|.val s,a=>om s a|_,_=>True
def Lg(sl:Nat->Option fp)(bx:Nat->Option gh):Rt->dh->Prop|.slot k,p=>∀s,sl k=some s->kpL s p|.box k,p=>∀s,bx k=some s->sg s p|.cC _,_=>True
open Classical in
noncomputable def lV(γ:Nat->G)(sl:Nat->Option fp)(bx:Nat->Option gh):Nat->G:=λb=>
 match γ b with
 |.at q p=>if Lg sl bx q p then .at q p else .im
 |x=>x
section
variable{γ:Nat->G}{sl:Nat->Option fp}{bx:Nat->Option gh}{b:Nat}{q:Rt}{p:dh}
theorem Nl(h:γ b=.im):lV γ sl bx b=.im:=by unfold lV;rw[h]
theorem SS(h:γ b=.fr):lV γ sl bx b=.fr:=by unfold lV;rw[h]
theorem HG(h:γ b=.at q p)(a:Lg sl bx q p):lV γ sl bx b=.at q p:=by unfold lV;rw[h];simp only[];rw[cJ a]
theorem ML(h:γ b=.at q p)(a:¬ Lg sl bx q p):lV γ sl bx b=.im:=by unfold lV;rw[h];simp only[];rw[cK a]
theorem abM(h:γ b=.at q p):lV γ sl bx b=.im\/lV γ sl bx b=.at q p:=by
 by_cases a:Lg sl bx q p
 ·exact .inr (HG h a)
 ·exact .inl (ML h a)
theorem Uw(s:gh):sg s []:=by cases s<;>trivial
theorem abN{w:World}(a:∀b,w.heap.size<=b->γ b=.fr):dA (λ_ _=>True) γ w (lV γ sl bx) w:=⟨λb h=>⟨Nl h,rfl⟩,λb q p h hx=>absurd trivial hx,λb _ h=>⟨SS h,rfl⟩,hY _,λb h=>SS (a b h),rfl,rfl,rfl⟩
end
section
variable{C:Cx}{E:Env}{s:TS}{g:Gs}{w:World}{sl:Nat->Option fp}{bx:Nat->Option gh}
theorem JD:∀(p:Pl),VO (g.rc C w) p->VO (Gs.rc C {g with γ:=lV g.γ sl bx} w) p
 |.slot _,_=>trivial
 |.cell k c,h=>by
  have y:g.γ (g.bx k)=.at (.box k) []:=h;exact HG y (λs _=>Uw s)
 |.sub p t _ _,h=>by
  refine⟨JD p h.1,λb o e j u=>?_⟩;rcases h.2 b o e j u with x|x
  ·have a:g.γ b=.im:=x;exact .inl (Nl a)
  ·have a:g.γ b=.at (gp p).1 ((gp p).2++[tg t]):=x;exact abM a
theorem Nn:jS (g.rc C w) (Gs.rc C {g with γ:=lV g.γ sl bx} w):=λb h=>⟨Nl h,rfl⟩
theorem adD{k:Nat}{sh:VS}(j:sl k=some (.val sh)):Tn (g.rc C w) (Gs.rc C {g with γ:=lV g.γ sl bx} w) (om sh) (.slot k) [] (.slot k) [] where
 jq b u e hk:=HG e (λs a=>by rw[j] at a;cases a;exact hk)
 jR b u e hk:=ML e (λx=>hk (x _ j))
 heap _ _ _:=rfl
theorem aeZ{k:Nat}{sh:gh}(j:bx k=some sh):Tn (g.rc C w) (Gs.rc C {g with γ:=lV g.γ sl bx} w) (sg sh) (.box k) [] (.box k) [] where
 jq b u e hk:=HG e (λs a=>by rw[j] at a;cases a;exact hk)
 jR b u e hk:=ML e (λx=>hk (x _ j))
 heap _ _ _:=rfl
theorem No{c c':Rc}(hI:jS c c'){m:Option Gp}{tm':Option Gp}:∀{y:List Ty}{J:List TV}{x:qg y},qj y J=some x->(j5 y x).length=J.length/\(∀u∈j5 y x,pq u=true/\∃F,u=.ip F 0)/\∀(j:Nat)u A v,J[j]?=some u->(j5 y x)[j]?=some A->Rd c none u v->Rd c' none A v
 |[],[],x,_=>⟨rfl,by simp[j5],by simp⟩
 |[],_::_,x,h=>by simp[qj] at h
 |t::y,[],x,h=>by simp[qj] at h
 |t::y,v0::J,x,h=>by
  have aa:∃F M N,v0=.ip F 0/\Ev.dec t F=some M/\qj y J=some N/\x=(M,N):=by
   cases v0 with
   |ip F n=>
    cases n with
    |zero=>
     simp only[qj] at h
     cases H:Ev.dec t F with
     |none=>rw[H] at h;simp at h
     |some M=>
      cases e:qj y J with
      |none=>rw[H,e] at h;simp at h
      |some N=>rw[H,e] at h;exact⟨F,M,N,rfl,H,rfl,(gA h).symm⟩
    |succ n=>simp[qj] at h
   |_=>simp[qj] at h
  obtain⟨F,M,N,rfl,H,e,rfl⟩:=aa;obtain⟨h1,h2,h3⟩:=No hI (m:=m) (tm':=tm') e;refine⟨by simp[j5,h1],λu D=>?_,λj u A v hj I Y=>?_⟩
  ·simp only[j5,eo] at D;rcases D with rfl|D
   ·exact⟨by simp only[pq,jh];exact yB _ _ _,_,rfl⟩
   ·exact h2 u D
  ·cases j with
   |succ j=>exact h3 j u A v (by simpa using hj) (by simpa[j5] using I) Y
   |zero=>
    simp only[qp,cW] at hj;simp only[j5,qp,cW] at I;subst hj;subst I;cases Y with
    |ip _ _ _ b o f P hg hc Y=>
     obtain⟨ab,hh⟩:=hI b hg;refine .ip _ _ _ _ _ f (yB _ _ _) ab (λi u e=>?_) (λi u e=>?_)
     ·obtain⟨a,Z,_⟩:=HF H e;rw[ln hh];exact hc i a Z
     ·obtain⟨a,Z,Q⟩:=HF H e;have R:=Y i a Z;have af:=P a (eT Z);have ae:Rd c none u (f i):=by
       cases S:ik a with
       |false=>exact Q.frozen S R
       |true=>
        obtain⟨d,t',xs,rfl⟩:=wm S
        rcases R.lu with⟨rfl,ad,hv⟩|⟨q,p,_,_,_,_,_,_,_,hm,_⟩
        ·rw[hv];rcases Q with h9|⟨t2,ah,h9,rfl⟩
         ·rw[<-h9] at e;exact absurd (rE e) (by simp[ik])
         ·rcases rj h9 with U|U|⟨d2,U⟩|⟨U,_⟩|⟨U,_⟩<;>cases U;exact .kt _ _ _ _
        ·cases hm
      exact ae.mono none hI (λ_ _ h=>by simp at h) (λk hk=>absurd hk (kz (fN e) k)) (λp P=>absurd P (fZ (fN e) p)) (λp P=>absurd P.mv (fZ (fN e) p))
theorem adE(h:Rel C E s g w){k:Nat}{sh:fp}{x:sh.T}(hs:sl k=some sh)(y:Gd sh (s.slot k)=some x):
  Rd (Gs.rc C {g with γ:=lV g.γ sl bx} w) (some (.slot k,[])) (CE sh x) (g.tm k):=by
 have D:=h.fD k;cases sh with
 |val q=>exact rF Nn (adD hs) y D
 |ptr k' c=>
  cases F:s.slot k with
  |ptr k2 c2=>
   rw[F] at y D;have e:(bif Nat.beq k' k2 then(bif Nat.beq c c2 then some () else none) else none:Option Unit)=some x:=y;obtain⟨H,A⟩:=dM.1 e;obtain⟨A,_⟩:=dM.1 A;have M:=gw H;have Q:=gw A;subst M;subst Q;generalize g.tm k=u at D⊢;cases D;exact .ptr _ _ _
  |_=>rw[F] at y;have e:(none:Option Unit)=some x:=y;simp at e
 |vw q t=>
  cases F:s.slot k with
  |vw p P=>
   rw[F] at y D;have e:(bif Pl.beq q p then(bif decide (P=t) then some () else none) else none:Option Unit)=some x:=y;obtain⟨H,A⟩:=dM.1 e;obtain⟨A,_⟩:=dM.1 A;have M:=Ke H;have Q:P=t:=by simpa using A
   subst M;subst Q;generalize g.tm k=u at D⊢;cases D with
   |vw _ _ _ _ I J=>exact .vw _ _ _ _ (JD _ I) J
  |_=>rw[F] at y;have e:(none:Option Unit)=some x:=y;simp at e
 |sv q t=>
  cases F:s.slot k with
  |sl p P lo hi=>
   rw[F] at y D;have e:(bif Pl.beq q p then(bif decide (P=t) then some (lo,hi) else none) else none:Option (Int×Int))=some x:=y;obtain⟨H,A⟩:=dM.1 e;obtain⟨A,N⟩:=dM.1 A;have M:=Ke H;have Q:P=t:=by simpa using A
   subst M;subst Q;have N:=gA N;subst N;generalize g.tm k=u at D⊢;cases D with
   |sl _ _ _ _ _ a R S a' U I J H A N Y h5 h6=>exact .sl _ _ _ _ _ a R S a' U (JD _ I) J H A N Y h5 h6
  |_=>rw[F] at y;have e:(none:Option (Int×Int))=some x:=y;simp at e
 |ep q t c=>
  cases F:s.slot k with
  |ep p P r c'=>
   rw[F] at y D;have e:(bif Pl.beq q p then(bif decide (P=t) then(bif Nat.beq c c' then some r else none) else none) else none:Option Int)=some x:=y;obtain⟨H,A⟩:=dM.1 e;obtain⟨A,N⟩:=dM.1 A;obtain⟨N,Y⟩:=dM.1 N;have M:=Ke H;have Q:P=t:=by simpa using A
   have e3:=gw N;subst M;subst Q;subst e3;have Y:=gA Y;subst Y;generalize g.tm k=u at D⊢;cases D with
   |ep _ _ _ _ _ b o R S I J H A=>exact .ep _ _ _ _ _ b o R S (JD _ I) J H A
  |_=>rw[F] at y;have e:(none:Option Int)=some x:=y;simp at e
 |fn gg ts=>
  cases F:s.slot k with
  |fn g' vs=>
   rw[F] at y D;have e:(bif Nat.beq gg g' then qj ts vs else none:Option (qg ts))=some x:=y;obtain⟨H,A⟩:=dM.1 e;have M:=gw H;subst M;generalize hu:g.tm k=u at D⊢;cases D with
   |fn _ _ _ ab hc hl hr=>
    obtain⟨l1,l2,l3⟩:=No (c:=g.rc C w) (c':=Gs.rc C {g with γ:=lV g.γ sl bx} w) Nn (m:=none) (tm':=none) A;refine .fn _ _ _ _ (λtv aa=>(l2 tv aa).1) (by rw[l1,hl]) (λj tv v hj F=>?_);have Z:j<vs.length:=by
     have:=(eF.1 hj).1
     omega
    exact l3 j _ tv v (eA Z) hj (hr j _ v (eA Z) F)
  |_=>rw[F] at y;have e:(none:Option (qg ts))=some x:=y;simp at e
theorem Mc(k:Nat):pQ.get .un k=.un:=vI _ _ _
theorem Mq(k:Nat):rI.get .none k=.none:=vI _ _ _
theorem RP:∀{a:List (Nat×fp)}{x:Gq a}(s:TS),wR a s=some x->∀k,(zc a x).get .un k=.un\/∃sh,∃y:sh.T,qb k a=some sh/\Gd sh (s.slot k)=some y/\(zc a x).get .un k=CE sh y
 |[],x,s,_,k=>.inl (Mc k)
 |p::a,x,s,h,k=>by
  have H:∃j u,Gd p.2 (s.slot p.1)=some j/\wR a s=some u/\x=(j,u):=by
   simp only[wR] at h
   cases D:Gd p.2 (s.slot p.1) with
   |none=>rw[D] at h;simp at h
   |some j=>
    cases F:wR a s with
    |none=>rw[D,F] at h;simp at h
    |some u=>rw[D,F] at h;exact⟨j,u,rfl,rfl,(gA h).symm⟩
  obtain⟨j,u,D,F,rfl⟩:=H;have e:zc (p::a) (j,u)=(zc a u).set p.1 (CE p.2 j):=rfl;rw[e]
  by_cases I:p.1=k
  ·subst I;rcases xT .un (CE p.2 j) (zc a u) p.1 with A|A
   ·exact .inr ⟨p.2,j,by simp[qb],D,A⟩
   ·exact .inl A
  ·rw[vA _ _ _ _ _ I];rcases RP s F k with A|⟨sh,y,A,J,M⟩
   ·exact .inl A
   ·exact .inr ⟨sh,y,by simp[qb,I,A],J,M⟩
theorem RQ:∀{a:List (Nat×gh)}{x:Gr a}(s:TS),wS a s=some x->∀k,(zd a x).get .none k=.none\/∃sh,∃y:sh.T,qb k a=some sh/\p5 sh (s.box k)=some y/\(zd a x).get .none k=CF sh y
 |[],x,s,_,k=>.inl (Mq k)
 |p::a,x,s,h,k=>by
  have H:∃j u,p5 p.2 (s.box p.1)=some j/\wS a s=some u/\x=(j,u):=by
   simp only[wS] at h
   cases D:p5 p.2 (s.box p.1) with
   |none=>rw[D] at h;simp at h
   |some j=>
    cases F:wS a s with
    |none=>rw[D,F] at h;simp at h
    |some u=>rw[D,F] at h;exact⟨j,u,rfl,rfl,(gA h).symm⟩
  obtain⟨j,u,D,F,rfl⟩:=H;have e:zd (p::a) (j,u)=(zd a u).set p.1 (CF p.2 j):=rfl;rw[e]
  by_cases I:p.1=k
  ·subst I;rcases xT .none (CF p.2 j) (zd a u) p.1 with A|A
   ·exact .inr ⟨p.2,j,by simp[qb],D,A⟩
   ·exact .inl A
  ·rw[vA _ _ _ _ _ I];rcases RQ s F k with A|⟨sh,y,A,J,M⟩
   ·exact .inl A
   ·exact .inr ⟨sh,y,by simp[qb,I,A],J,M⟩
theorem MM(h:Rel C E s g w){l:Live}{v:l.V}(j:l.dec s=some v):∃x,Rel C E (l.enc v) {g with γ:=x} w/\dA (λ_ _=>True) g.γ w x w:=by
 have H:∃a e,wR l.sl s=some a/\wS l.bx s=some e/\v=(a,e):=by
  simp only[Live.dec] at j
  cases A:wR l.sl s with
  |none=>rw[A] at j;simp at j
  |some a=>
   cases F:wS l.bx s with
   |none=>rw[A,F] at j;simp at j
   |some e=>rw[A,F] at j;exact⟨a,e,rfl,rfl,(gA j).symm⟩
 obtain⟨a,e,A,F,rfl⟩:=H;have D:dA (λ_ _=>True) g.γ w (lV g.γ (λk=>qb k l.sl) (λk=>qb k l.bx)) w:=abN h.cI.new;refine⟨_,h.mV (g':={g with γ:=lV g.γ (λk=>qb k l.sl) (λk=>qb k l.bx)}) D (λk=>.inl ?_) (λk=>.inl ?_),D⟩
 ·rcases RP s A k with u|⟨sh,y,u,I,J⟩
  ·have:(l.enc (a,e)).slot k=.un:=u;rw[this];exact .un _ _
  ·have:(l.enc (a,e)).slot k=CE sh y:=J;rw[this];exact adE h (sl:=λk=>qb k l.sl) u I
 ·rcases RQ s F k with u|⟨sh,y,u,I,J⟩
  ·have:(l.enc (a,e)).box k=.none:=u;rw[this];trivial
  ·have:(l.enc (a,e)).box k=CF sh y:=J;rw[this];exact uB.2 (JC Nn (aeZ (bx:=λk=>qb k l.bx) u) I (uB.1 (h.boxes k)))
end
end
end Go.Sd
