/- The evaluator is sound, second part: operations. No conditions. -/
import Derived.Great.BuildSlice
import Derived.Deep.Upon
import Derived.Test.YtfnlbejcgjlclaaGreatDoorA
set_option linter.all false
namespace Go.Sd
open Go Go.RowKit
open Go.Ev hiding World cY Rd
section
def ed(s:TS)(x:Operand)(q:Rt):Prop:=∃k,x=.tmp k/\(q=.cD k\/∃p,MV p (s.cD k)/\(gp p).1=q)
def ed.less{s e:TS}{x:Operand}{q:Rt}(h:ed e x q)(j:fo e s):ed s x q:=by
 obtain⟨k,rfl,h⟩:=h;exact⟨k,rfl,h.imp id λ⟨p,u,y⟩=>⟨p,j k p u,y⟩⟩
def ed.z{s:TS}{x:Operand}{q:Rt}(h:ry x q):ed s x q:=by
 obtain⟨k,e,j⟩:=h;exact⟨k,e,.inl j⟩
def TD{tv u:TV}{p:Pl}(e:u∈cellsOf tv)(x:MV p u)(y:∀j,tv=.agg j->∀u∈j,kF u=true):MV p tv:=by
 cases tv with
 |agg j=>
  simp only[cellsOf] at e;exact Wc (y j rfl u e) e x
 |_=>simp only[cellsOf,gf] at e;subst e;exact x
def vc{C:Cx}{s:TS}(A:∀i p,¬ MV p (C.gl i)){x:Operand}{p:Pl}(h:MV p (dn C s x)):ed s x (gp p).1:=by
 cases x with
 |tmp k=>
  refine⟨k,rfl,?_⟩;simp only[dn] at h;unfold nE at h;split at h
  ·cases e:C.vs k<;>rw[e] at h<;>cases h;exact .inl rfl
  ·cases e:C.vs k<;>rw[e] at h<;>cases h;exact .inl rfl
  ·exact .inr ⟨p,h,rfl⟩
 |const v=>
  simp only[dn] at h;have j:∀v,¬ MV p (qJ v):=λv h=>by unfold qJ at h;split at h<;>cases h
  cases v with
  |agg D=>
   simp only[xV] at h;cases h with
   |agg _ t y=>
    simp only[ik] at y;obtain⟨a,_,u⟩:=y;unfold qJ at u;split at u<;>simp at u
  |_=>rw[Gg _ (by simp)] at h;exact absurd h (j _)
 |global i=>exact absurd h (A i p)
 |func n=>simp only[dn] at h;cases h
def abl(s:TS)(x:Operand):fo (iH s x) s:=by
 cases x with
 |tmp k=>
  simp only[iH];split
  ·exact fo.raw _ _ (λp e=>by cases e)
  ·exact fo.raw _ _ (λp e=>by cases e)
  ·exact .refl _
 |_=>exact .refl _
def Nk{c:Rc}{m:Option Gp}{tv:TV}{v:Value}(h:Rd c m tv v)(e:dN tv=true):v.oneCell'=true/\v.cells=#[v]:=by
 cases h<;>first|exact⟨rfl,rfl⟩|(simp[dN] at e)
def Rr{c:Rc}{n:Nat}{tv:TV}{v:Value}(h:Rd c (some (.cE n,[])) tv v)(M:(∃cs,tv=.agg cs)\/(∃cs,tv=.fp cs)\/gB tv=true):
  ∃F:List Value,F.length=(cellsOf tv).length/\(∀(j:Nat)x D,(cellsOf tv)[j]?=some x->F[j]?=some D->qM c (.cE n,[(0,0+j)]) x D)/\((∃cs,tv=.agg cs/\v=.agg F.toArray/\(∀u∈cs,kF u=true)/\∀u∈F,u.oneCell'=true)\/((∀cs,tv≠.agg cs)/\F=[v])):=by
 rcases M with⟨cs,rfl⟩|⟨cs,rfl⟩|I
 ·cases h with
  |agg _ _ N Q S U Y=>
   refine⟨N.toList,by simpa[cellsOf] using S,λj x D y A=>?_,.inl ⟨cs,rfl,by simp,Q,λu hu=>?_⟩⟩
   ·have:=(Y j x D y (by simpa using A)).Hc;simpa using this
   ·obtain⟨j,y,he⟩:=p8 hu;simp at y;have:=U j _ u (eN (by omega)) (by rw[jN y,<-he];simp);exact this
 ·refine⟨[v],rfl,λj x D y A=>?_,.inr ⟨by simp,rfl⟩⟩;cases j with
  |zero=>
   simp[cellsOf] at y A;subst y;exact⟨λp t e=>by simp at e,λp t lo hi e=>by simp at e,λe=>by simp[dN] at e⟩
  |succ j=>simp at A
 ·have J:∀cs,tv≠.agg cs:=λcs e=>by subst e;simp[gB] at I
  have H:cellsOf tv=[tv]:=by cases tv<;>first|rfl|simp[gB] at I
  refine⟨[v],by rw[H];rfl,λj x D y A=>?_,.inr ⟨J,rfl⟩⟩;rw[H] at y;cases j with
  |zero=>simp at y A;subst y;subst A;exact(h.anyM I _).Hc
  |succ j=>simp at A
section
variable{P:Program}{C:Cx}{E:Env}{nt n:Nat}{o:Oper}{s f:TS}{g g1:Gs}{a:Act}{w w1:World}{R:Type}{r:R}{K:TS->Option R}{Z:Rt->Prop}{γ1:Nat->G}{tv:TV}{v:Value}{X:Rt->dv->Prop}{nb:Nat->Prop}
def KL(hC:ga P C)(h:cQ C E s g w)(l:eE nt g a){x:Operand}(hx:fD nt x=true){m:Bool->Pl->Bool}{K:List TV->TS->Option R}(n:Nat)(hk:pU C m (cellsOf (dn C s x)) (iH s x) K=some r):
  ∃e F A,K e F=some r/\cQ C E F {g with γ:=A} w/\(a.eval x).cells.toList.length=e.length/\e.length=(cellsOf (dn C s x)).length/\(∀tv∈e,dN tv=true)/\
   (∀(j:Nat)tv v,e[j]?=some tv->(a.eval x).cells.toList[j]?=some v->Rd (Gs.rc C {g with γ:=A} w) (some (.cE n,[(0,j)])) tv v/\v.oneCell'=true)/\FK (ed s x) g.γ A/\fo F s:=by
 obtain⟨γ1,h1,Q,hf⟩:=Dm (n:=n) h l hC.gl hx;obtain⟨xs,H,U,I⟩:=Rr Q (IN hC.gl);obtain⟨e,F,A,h2,h3,S,Y,h6,h7,h8⟩:=Pq (n:=n) (j0:=0) (cellsOf (dn C s x)) h1 H U hk;have y:(a.eval x).cells.toList=xs:=by
  rcases I with⟨cs,_,J,_⟩|⟨D,rfl⟩
  ·rw[J];rfl
  ·have aa:cellsOf (dn C s x)=[dn C s x]:=by
     cases ho:dn C s x<;>first|rfl|exact absurd ho (D _)
   rw[aa] at S
   match e,S with
   |[M],_=>
    have:=h6 0 M (a.eval x) rfl rfl;rw[(Nk this (Y M (by simp))).2]
 refine⟨e,F,A,h2,h3,by rw[y,H,S],S,Y,λj tv v hj Q=>?_,(hf.mono (λq hq=>ed.z hq)).trans (h7.mono (λq hq=>?_)),h8.trans (abl s x)⟩
 ·rw[y] at Q;have h9:=h6 j tv v hj Q;rw[iB] at h9;exact⟨h9,(Nk h9 (Y tv (fh hj))).1⟩
 ·obtain⟨u,hu,p,hp,rfl⟩:=hq;refine vc (λi=>(h.ln i).1) (TD hu hp (λcs N=>?_));rcases I with⟨ad,J,_,ab,_⟩|⟨D,_⟩
  ·rw[N] at J;simp only[TV.agg.injEq] at J;subst J;exact ab
  ·exact absurd N (D _)
def cQ.afJ(h:cQ C E s g w){I:Array Value}(F:Ad w w1 I){d n:Nat}{u:BC}
  (J:uf (Gs.rc C ⟨iI (dZ g.γ (.cE n) [] (.box d) []) w.heap.size (.at (.box d) []),λk=>if k=d then w.heap.size else g.bx k,g.tm⟩ w1) d u):
  cQ C E ((s.gr d).bx d u) ⟨iI (dZ g.γ (.cE n) [] (.box d) []) w.heap.size (.at (.box d) []),λk=>if k=d then w.heap.size else g.bx k,g.tm⟩ w1/\
  dK (eQ (.cE n) []) g.γ w (iI (dZ g.γ (.cE n) [] (.box d) []) w.heap.size (.at (.box d) [])) w1:=by
 have H:∀b,w.heap.size<=b->dZ g.γ (.cE n) [] (.box d) [] b=.fr:=λb M=>Fk (h.cL.new b M);have j:dK (eQ (.cE n) []) g.γ w (iI (dZ g.γ (.cE n) [] (.box d) []) w.heap.size (.at (.box d) [])) w1:=
  ((ph h.cL.new (q1:=.cE n) (p1:=[]) (q2:=.box d) (p2:=[])).trans (OF F H (.at (.box d) []) (λ_ _=>False))).mono (λq p hx=>hx.elim id (λN=>N.elim));refine⟨(h.gr d).nF (s':=(s.gr d).bx d u) j (λk=>.inr ⟨rfl,rfl,λp hx=>by simp[eQ] at hx,?_⟩) (λk=>?_),j⟩
 ·have A:∀p,MV p ((s.gr d).cD k)->(gp p).1≠.box d:=λp x e=>by
    rw[BO] at x
    have:=(tD (Tq x)).2
    rw[uY.2 e] at this
    simp at this
  have D:∀p,MV p ((s.gr d).cD k)->VO (g.rc C w) p->_:=λp x y=>nv (C:=C) (g:=g) (g':=⟨iI (dZ g.γ (.cE n) [] (.box d) []) w.heap.size (.at (.box d) []),λk=>if k=d then w.heap.size else g.bx k,g.tm⟩) j p y (oq j λq Q _ hx=>jk q n hx.1) (λ_ _ _=>rfl)
   (λi hi=>⟨cN (λe=>A p x (by rw[<-e];exact zo.1 hi)),λhx=>by simp[eQ] at hx⟩);exact⟨λi hi=>cN (λe=>by rw[BO] at hi;exact(Tp hi).2 e),λp x=>⟨(D p x (((h.gr d).fQ k).tR x)).1,λy=>(D p x y).2⟩,λp x S hx=>jk p n hx.1⟩
 ·by_cases A:k=d
  ·subst A
   left
   rcases uP (s.gr k) k u with e|e<;>rw[e]
   ·exact J
   ·trivial
  ·exact .inr ⟨uO _ u A,cN A,λp hx=>by simp[eQ] at hx⟩
def OG(h:cQ C E f {g with γ:=γ1} w)(F:FK Z g.γ γ1)(H:∀b,w.heap.size<=b->g.γ b=.fr)(l:eE nt g a){d n:Nat}(j:o.dst=some d)(I:ij nt o.dst){J:Array Value}(y:Ad w w1 J){u:BC}
  (M:uf (Gs.rc C ⟨iI (dZ γ1 (.cE n) [] (.box d) []) w.heap.size (.at (.box d) []),λk=>if k=d then w.heap.size else g.bx k,g.tm⟩ w1) d u)
  (N:(execOp a.eval o).run P w=.ok (.value (.pointer (some ⟨w.heap.size,0,none⟩))) w1)(A:K (((f.gr d).bx d u).put C d (.ptr d 0))=some r):kY P C E nt o g a w K r Z (λ_ _=>False) (λk=>o.dst=some k):=by
 obtain⟨Q,S⟩:=h.afJ y (n:=n) M;have D:=Rd.ptr (c:=Gs.rc C ⟨iI (dZ γ1 (.cE n) [] (.box d) []) w.heap.size (.at (.box d) []),λk=>if k=d then w.heap.size else g.bx k,g.tm⟩ w1) (some (.cE 0,[])) d 0;have U:(if d=d then w.heap.size else g.bx d)=w.heap.size:=cM rfl;simp only[Gs.rc,U] at D;refine Ch (n:=0) Q rfl (λk A=>cN (λe=>A (by rw[j,e]))) ?_ l I D N (by rw[j];exact A);refine((F.gD H).trans S).mono (λq p hx=>.inl ?_);rcases hx with⟨hx,x⟩|hx
 ·exact⟨.inl hx,x⟩
 ·exact⟨.inr ⟨n,hx.1⟩,λx=>by rw[hx.1] at x;simp[kW] at x⟩
def afK(hC:ga P C)(h:cQ C E s g w)(l:eE nt g a)(hd:ij nt o.dst){t:Nat}{x:Operand}(ho:o.op=.box t x)(hx:fD nt x=true)(A:Ev.step C o s K=some r):kY P C E nt o g a w K r (ed s x) (λ_ _=>False) (λk=>o.dst=some k):=by
 simp only[Ev.step,ho] at A;split at A
 ·rename_i d F;split at A
  ·have H:(execOp a.eval o).run P w=.ok (.value (.pointer (some ⟨w.heap.size,0,none⟩))) (w.alloc (.cells (a.eval x).cells t)):=by
     simp[execOp,ho,Instr.box,newVar,newRow]
   have D:∀{Q Y y},cQ C E Y {g with γ:=y} w->(a.eval x).cells.toList.length=Q.length->(∀tv∈Q,dN tv=true)->(∀(j:Nat)tv v,Q[j]?=some tv->(a.eval x).cells.toList[j]?=some v->Rd (Gs.rc C {g with γ:=y} w) (some (.cE 0,[(0,j)])) tv v/\v.oneCell'=true)->
     FK (ed s x) g.γ y->K (((Y.gr d).bx d (.cells Q)).put C d (.ptr d 0))=some r->kY P C E nt o g a w K r (ed s x) (λ_ _=>False) (λk=>o.dst=some k):=by
    intro Q Y y h1 hl hp hr hf A
    refine OG (n:=0) h1 hf h.cL.new l F hd (wB w (a.eval x).cells t) ?_ H A
    obtain⟨e,fr,hh,hu,_⟩:=(wB w (a.eval x).cells t).new
    have he:(if d=d then w.heap.size else g.bx d)=w.heap.size:=cM rfl
    have aa:∀b,w.heap.size<=b->dZ y (.cE 0) [] (.box d) [] b=.fr:=λb S=>Fk (h1.cL.new b S)
    have I:=OF (wB w (a.eval x).cells t) aa (.at (.box d) []) (λ_ _=>False)
    refine⟨(a.eval x).cells,e,fr,by simp only[Gs.rc,he];exact hh,hu,by simp only[Gs.rc,he];exact qj,by simpa using hl,λtv ab=>rO (hp tv ab),λj tv v hj N=>?_⟩
    have ad:(a.eval x).cells.toList[j]?=some v:=by simpa using N
    obtain⟨h5,h6⟩:=hr j tv v hj ad
    refine⟨h6,?_⟩
    have J:=hp tv (fh hj)
    refine h5.mono _ (λb S=>?_) (λq p hq=>?_) (λi hi=>absurd hi (kS J i)) (λp M=>absurd M (gz J p)) (λp M=>absurd M.mv (gz J p))
    ·exact I.im b (qY S)
    ·simp only[di,eS] at hq;obtain⟨rfl,rfl⟩:=hq;refine⟨_,_,rfl,λb π S=>?_⟩;have ae:dZ y (.cE 0) [] (.box d) [] b=.at (.box d) ([(0,j)]++π):=by
      have:=zt (q2:=.box d) (p2:=[]) (γ:=y) (q1:=.cE 0) (p1:=[]) (π:=[(0,j)]++π) (b:=b) (by have af:y b=_:=S;simpa using af)
      simpa using this
     exact I.at' b _ _ ae (λhf=>hf)
   split at A
   ·rename_i t' xs ah;have N:=iU h l hx;rw[ah] at N;obtain⟨he,ai⟩:a.eval x=.agg (xs.map (jW t')).toArray/\Ev.gJ t'=false:=by
     generalize iY x=m at N;generalize a.eval x=u at N;cases N;exact⟨rfl,by assumption⟩
    refine OG (n:=0) (γ1:=g.γ) h (.refl _) h.cL.new l F hd (wB w (a.eval x).cells t) ?_ H A;obtain⟨e,fr,hh,hu,_⟩:=(wB w (a.eval x).cells t).new;have U:(if d=d then w.heap.size else g.bx d)=w.heap.size:=cM rfl;exact⟨(a.eval x).cells,e,fr,by simp only[Gs.rc,U];exact hh,hu,by simp only[Gs.rc,U];exact qj,ai,by rw[he];rfl⟩
   ·obtain⟨aj,Y,y,h1,h2,h3,h4,h5,h6,h7,h8⟩:=KL hC h l hx 0 A;exact D h2 h3 h5 h6 h7 h1
  ·simp at A
 ·simp at A
end
end
section
def iJ(u:Nat->G)(n:Nat)(j:Nat->Gp):Nat->G:=λb=>
 match u b with
 |.at (.cE i) ((x,c)::p)=>if i=n/\x=0 then .at (j c).1 ((j c).2++p) else .at (.cE i) ((x,c)::p)
 |x=>x
def ael{x:Nat->G}{n b j:Nat}{u:Nat->Gp}{p:dv}(h:x b=.at (.cE n) ((0,j)::p)):iJ x n u b=.at (u j).1 ((u j).2++p):=by simp[iJ,h]
def J7{j:Nat->G}{n b:Nat}{y:Nat->Gp}{q:Rt}{p:dv}(h:j b=.at q p)(A:q≠.cE n):iJ j n y b=.at q p:=by
 unfold iJ;rw[h];split
 ·rename_i i x c F u;simp only[G.at.injEq] at u;obtain⟨rfl,rfl⟩:=u;rw[cN (λD=>A (by rw[D.1]))]
 ·rfl
def FX{γ:Nat->G}{n:Nat}{τ:Nat->Gp}:FK (λq=>q=.cE n) γ (iJ γ n τ) where
 im:=λb h=>by simp[iJ,h]
 at':=λb q p h u=>J7 h (λj=>by have:=u j;simp[kW,j] at this)
 fr:=λb h=>by simp[iJ,h]
def Rd.LH{c A:Rc}{n j:Nat}{τ:Nat->Gp}{tv:TV}{v:Value}(h:Rd c (some (.cE n,[(0,j)])) tv v)(x:dN tv=true)(F:A={c with γ:=iJ c.γ n τ}):Rd A (some (τ j)) tv v:=by
 subst F;refine h.mono _ (λb y=>⟨FX.im b y,rfl⟩) (λq p D=>?_) (λi hi=>absurd hi (kS x i)) (λp u=>absurd u (gz x p)) (λp u=>absurd u.mv (gz x p));simp only[di,eS] at D;obtain⟨rfl,rfl⟩:=D;exact⟨_,_,rfl,λb H y=>⟨ael (by simpa using y),rfl⟩⟩
section
variable{C:Cx}{E:Env}{s:TS}{g:Gs}{w:World}{γ':Nat->G}
def cQ.qq(h:cQ C E s g w)(j:FK (λq=>∃n,q=.cE n) g.γ γ'):cQ C E s {g with γ:=γ'} w:=h.grow (j.gD h.cL.new) (λq p hx=>hx.1)
def Rd.ya{Z:Rt->Prop}{m:Option Gp}{tv:TV}{v:Value}(h:Rd (g.rc C w) m tv v)(j:fO tv=true)(y:FK Z g.γ γ')(A:∀q p,m=some (q,p)->¬ Z q):Rd (Gs.rc C {g with γ:=γ'} w) m tv v:=by
 rcases Wb j with j|rfl
 ·exact h.same (λb x=>⟨y.im b x,rfl⟩) (λq p u b D x=>⟨y.at' b _ _ x (λhz=>absurd hz (A q p u)),rfl⟩) (λi hi=>absurd hi (kS j i)) (λp u=>absurd u (gz j p)) (λp u=>absurd u.mv (gz j p))
 ·exact .un _ _
end
def Sv{s:TS}{x:Operand}{n:Nat}:¬ ed s x (.cE n):=by
 rintro⟨k,_,h|⟨p,_,h⟩⟩
 ·simp at h
 ·exact jk p n h
def Rs:∀(l:List Value)(j:Array Value)(u y:Nat),((l.zipIdx y).foldl (λA(x:Value×Nat)=>A.setIfInBounds (u+x.2) x.1) j).size=j.size/\
  ∀k,((l.zipIdx y).foldl (λA(x:Value×Nat)=>A.setIfInBounds (u+x.2) x.1) j)[k]?=if u+y<=k/\k<u+y+l.length/\k<j.size then l[k-(u+y)]? else j[k]?
 |[],j,u,y=>⟨rfl,λk=>by simp only[List.zipIdx_nil,HB,jP];rw[cN (by omega)]⟩
 |v::l,j,u,y=>by
  obtain⟨I,J⟩:=Rs l (j.setIfInBounds (u+y) v) u (y+1);simp only[List.zipIdx_cons,vZ];refine⟨by rw[I];simp,λk=>?_⟩;rw[J k];simp only[HC,gy]
  by_cases F:u+y=k
  ·subst F;rw[cN (by omega)]
   by_cases D:u+y<j.size
   ·rw[cM (by omega),aiX D,vX];rfl
   ·rw[cN (by omega),yl (by simp;omega),yl (by omega)]
  ·rw[Zj F]
   by_cases H:u+(y+1)<=k/\k<u+(y+1)+l.length/\k<j.size
   ·rw[cM H,cM (by omega)];rw[show k-(u+y)=(k-(u+(y+1)))+1 by omega,Zm]
   ·rw[cN H,cN (by omega)]
def Sw{place:Nat->Option (Nat×Nat)}{cells:Array Value}{i off x:Nat}{v:Value}{rest:List (Nat×Value)}(A:place i=some (off,x))(F:v.cells.size=x)(H:off+x<=cells.size):
  ∃u:Array Value,Instr.fill place cells ((i,v)::rest)=Instr.fill place u rest/\u.size=cells.size/\(∀j,j<x->u[off+j]?=v.cells[j]?)/\(∀k,¬ (off<=k/\k<off+x)->u[k]?=cells[k]?):=by
 obtain⟨D,y⟩:=Rs v.cells.toList cells off 0;refine⟨_,?_,D,λj I=>?_,λk J=>?_⟩
 ·simp only[Instr.fill,A];rw[cN (by simp;omega),<-Array.foldl_toList,Array.toList_zipIdx]
 ·rw[y,cM (by simp;omega)];simp
 ·rw[y,cN (by simp;omega)]
structure LI(c:Rc)(q:Rt)(z:List TV)(arr:Array Value):Prop where
 len:arr.size=z.length
 rd:∀(j:Nat)tv v,z[j]?=some tv->arr[j]?=some v->fO tv=true/\v.oneCell'=true/\Rd c (some (q,[(0,j)])) tv v
section
variable{P:Program}{C:Cx}{E:Env}{nt n:Nat}{o:Oper}{s d:TS}{g g1:Gs}{a:Act}{w e:World}{R:Type}{r:R}{K:TS->Option R}{Z:Rt->Prop}{γ1:Nat->G}{tv:TV}{v:Value}{X:Rt->dv->Prop}{nb:Nat->Prop}
def Vb(hC:ga P C){fs:List (Nat×Nat)}{place:Nat->Option (Nat×Nat)}(y:∀i u U,nX fs i=some (u,U)->place i=some (u,(C.dj U).sz))(l:eE nt g a){s0:TS}{Z:Rt->Prop}:∀(parts:List (Nat×Operand)){s:TS}{z:List TV}{γ:Nat->G}{arr:Array Value}{K:List TV->TS->Option R},
  cQ C E s {g with γ:=γ} w->(∀p∈parts,fD nt p.2=true)->(∀p∈parts,∀q,ed s0 p.2 q->Z q)->fo s s0->LI (Gs.rc C {g with γ:=γ} w) (.cE 0) z arr->fill C fs parts z s K=some r->
  ∃z' s' γ' qC,K z' s'=some r/\cQ C E s' {g with γ:=γ'} w/\LI (Gs.rc C {g with γ:=γ'} w) (.cE 0) z' qC/\Instr.fill place arr (parts.map λp=>(p.1,a.eval p.2))=some qC/\FK (λq=>Z q\/∃n,q=.cE n) γ γ'
 |[],s,z,γ,arr,K,h,_,_,_,Y,H=>⟨z,s,γ,arr,H,h,Y,rfl,.refl _⟩
 |(i,x)::parts,s,z,γ,arr,K,h,hx,hZ,hl,Y,H=>by
  simp only[fill] at H;split at H
  ·rename_i u U hf;obtain⟨A,H⟩:=dY.1 H;obtain⟨M,H⟩:=dY.1 H;have A:=gU A;rw[xb] at A;have M:=uS.1 M;obtain⟨D,s',γ1,h1,h2,h3,h4,h5,h6,h7,h8⟩:=KL (g:={g with γ:=γ}) hC h (l.same rfl) (hx (i,x) (by simp)) 1 H;have ae:D.length=(C.dj U).sz:=by rw[h4,A]
   have N:=FX (γ:=γ1) (n:=1) (τ:=λj=>(.cE 0,[(0,u+j)]));have aa:cQ C E s' {g with γ:=iJ γ1 1 (λj=>(.cE 0,[(0,u+j)]))} w:=h2.qq (g:={g with γ:=γ1}) (N.mono (λq F=>⟨1,F⟩));obtain⟨qC,af,ah,ai,aj⟩:=Sw (rest:=parts.map λp=>(p.1,a.eval p.2)) (y _ _ _ hf) (v:=a.eval x) (cells:=arr) ((show(a.eval x).cells.size=D.length by simpa using h3).trans ae) (by rw[Y.len];exact M);have ak:LI (Gs.rc C {g with γ:=iJ γ1 1 (λj=>(.cE 0,[(0,u+j)]))} w) (.cE 0) (pK z u D) qC:=by
    refine⟨by rw[ah,Y.len,CE];simp;omega,λj tv v I hv=>?_⟩
    rw[CE] at I
    by_cases am:u<=j/\j<u+(C.dj U).sz
    ·have J:D[j-u]?=some tv:=by
       rw[ke,qb (by simp;omega),o7 (by simp;omega)] at I
       simpa[show min u z.length=u by omega] using I
     have Q:(a.eval x).cells.toList[j-u]?=some v:=by
      have:=ai (j-u) (by omega)
      rw[show u+(j-u)=j by omega,hv] at this
      simpa using this.symm
     obtain⟨h9,S⟩:=h6 _ tv v J Q;have ab:=h5 tv (fh J);refine⟨by simp[fO,ab],S,?_⟩;have:=h9.LH (τ:=λj=>(.cE 0,[(0,u+j)])) ab rfl;simp only[show u+(j-u)=j by omega] at this;exact this
    ·have Q:arr[j]?=some v:=by rw[<-aj j am];exact hv
     have J:z[j]?=some tv:=by
      by_cases an:j<u
      ·rw[ke,o7 (by simp;omega),o5] at I;simpa[an] using I
      ·rw[qb (by simp;omega)] at I;simp only[fg,kI,vW] at I;rw[show u+D.length+(j-(min u z.length+D.length))=j by omega] at I;exact I
     obtain⟨h9,S,ao⟩:=Y.rd j tv v J Q;refine⟨h9,S,?_⟩;have ap:=ao.ya (g:={g with γ:=γ}) (γ':=γ1) h9 h7 (λq p F=>by simp only[di,eS] at F;rw[<-F.1];exact Sv);exact ap.ya (g:={g with γ:=γ1}) (γ':=iJ γ1 1 (λj=>(.cE 0,[(0,u+j)]))) h9 N (λq p F=>by simp only[di,eS] at F;rw[<-F.1];simp)
   obtain⟨z2,s2,aq,ad,k1,k2,k3,k4,k5⟩:=Vb hC y l parts aa (λp hp=>hx p (by simp[hp])) (λp hp=>hZ p (by simp[hp])) (h8.trans hl) ak h1;refine⟨z2,s2,aq,ad,k1,k2,k3,by simp only[lz];rw[af];exact k4,?_⟩;refine((h7.mono (λq F=>.inl (hZ (i,x) (by simp) q (F.less hl)))).trans (N.mono (λq F=>.inr ⟨1,F⟩))).trans k5
  ·simp at H
def NR{t:TypeId}(h:vB P t=true):∃z,(zeroValue t).run P w=.ok z w/\z.cells.toList=mA P t/\∃i,P.info? t=some i/\i.zero=some z:=by
 obtain⟨i,z,j,u,x⟩:=IQ h;exact⟨z,by simp[zeroValue,typeInfo,j,u],x.symm,i,j,u⟩
def acz(h:cQ C E s g w){z:List TV}{u:List Value}(y:kr z u=true){arr:Array Value}(x:arr.toList=u)(q:Rt):LI (g.rc C w) q z arr:=by
 obtain⟨A,D⟩:=CW (c:=g.rc C w) (m:=λj=>some (q,[(0,j)])) y;refine⟨by rw[<-A,<-x];simp,λj tv v F H=>?_⟩;obtain⟨I,J,M⟩:=D j tv v F (by rw[<-x];simpa using H);exact⟨M,J,I⟩
def Sx(hC:ga P C):∀{fs:List (Nat×Nat)}{x:List Field},oy fs x=true->(∀p∈fs,(C.dj p.2).var=true)->
  ∃pl,x.mapM (λf=>(P.info? f.type).map λi=>(f.offset,i.size))=some pl/\∀i j u,nX fs i=some (j,u)->pl[i]?=some (j,(C.dj u).sz)
 |[],[],_,_=>⟨[],rfl,λi j u h=>by simp[nX] at h⟩
 |[],_::_,h,_=>by simp[oy] at h
 |_::_,[],h,_=>by simp[oy] at h
 |(j,u)::fs,f::x,h,F=>by
  simp only[oy,dF,p9] at h;obtain⟨⟨⟨rfl,rfl⟩,_⟩,h⟩:=h;obtain⟨pl,H,I⟩:=Sx hC h (λp J=>F p (by simp[J]));obtain⟨y,M,_⟩:=qm (hC.ty f.type) (F (f.offset,f.type) (by simp));obtain⟨i,N,A⟩:=MZ (P:=P) (t:=f.type) (by omega);refine⟨(f.offset,i.size)::pl,by simp[List.mapM_cons,N,H],λk j u D=>?_⟩;cases k with
  |zero=>
   simp only[nX,di,eS] at D;obtain⟨rfl,rfl⟩:=D;simp[A,y]
  |succ k=>simpa using I k j u (by simpa[nX] using D)
def aai(hC:ga P C)(h:cQ C E s g w)(l:eE nt g a)(hd:ij nt o.dst){t:Nat}{parts:Array (Nat×Operand)}(A:o.op=.build t parts)(hx:∀p∈parts.toList,fD nt p.2=true){t':Ty}{m:Nat}{fs:List (Nat×Nat)}(I:C.dj t=.st t' m fs)(hk:Ev.step C o s K=some r):
  gW P C E nt o g a w K r (λq=>∃p∈parts.toList,ed s p.2 q):=by
 simp only[Ev.step,A,I] at hk;obtain⟨gs,hu,J,hz,D⟩:=Lc (hC.ty t) I;have M:=(qm (hC.ty t) (by rw[I];rfl)).2.2.2.2;obtain⟨z,ae,N,i,hi,S⟩:=NR (P:=P) (w:=w) M;obtain⟨pl,U,Y⟩:=Sx hC J D;obtain⟨z',s',γ',qC,h1,h2,F,h4,u⟩:=Vb (place:=(pl.toArray[·]?)) hC (λi aa ft hf=>by simpa using Y i aa ft hf) l (s0:=s) (Z:=λq=>∃p∈parts.toList,ed s p.2 q) parts.toList (γ:=g.γ) (arr:=z.cells) h hx (λp J q hq=>⟨p,J,hq⟩) (.refl _) (acz h hz N (.cE 0)) hk;have hb:P.built t (parts.map λ(i,x)=>(i,a.eval x)).toList=some qC:=by
  unfold Program.built
  simp only[hi,hu,S,U]
  rw[Zu]
  exact h4
 have H:=run_build (P:=P) w t (parts.map λ(i,x)=>(i,a.eval x)) qC hb;have hh:=q6 (P:=P) (o:=o) (n:=0) (v:=.agg qC) h2 u h.cL.new l hd (.agg _ _ _ (λtv ab=>?_) F.len (λj tv v y hv=>(F.rd j tv v y hv).2.1) (λj tv v y hv=>(F.rd j tv v y hv).2.2)) (by simp only[execOp,A];simp[H]) h1
 ·obtain⟨s2,h6,h7⟩:=hh;exact⟨s2,h6,λnext Q hn=>h7 next Q (λa' w'⟨g',A⟩=>hn a' w' ⟨g',{A with gD:=A.gD.mono (λq p hx=>⟨by rcases hx.1 with(u|u)|u<;>first|exact .inl u|exact .inr u,hx.2⟩)}⟩)⟩
 ·obtain⟨j,y⟩:=qR ab;have ad:=(eT.1 y).1;have:=(F.rd j tv _ y (jN (by rw[F.len];exact ad))).1;simp[kF,this]
end
end
section
def NS:∀{j:List TV},deep j=true->∀tv∈j,qk tv=true
 |[],_,tv,h=>by simp at h
 |v::j,e,tv,h=>by
  simp only[deep] at e;cases u:qk v with
  |false=>rw[u] at e;simp at e
  |true=>
   rw[u,cP] at e;rcases eG.1 h with rfl|h
   ·exact u
   ·exact NS e tv h
def NT{D:Bool}{t:Ty}{F:List TV}{x:El t}(H:dec t F=some x)(U:D=true->eZ t=true\/deep F=true){j:Nat}{b:TV}(y:(enc D t x)[j]?=some b):
  ∃J,F[j]?=some J/\(D=true->∀c m v,Rd c m J v->Rd c m b v)/\(D=false->∀c m v,Rd c none (kh J) v->Rd c m b v):=by
 obtain⟨hl,S⟩:=(tr D H).get;have Y:=(eT.1 y).1;have M:F[j]?=some (F[j]'(by omega)):=eN _;refine⟨_,M,λN c m v I=>?_,λN c m v I=>?_⟩
 ·subst N;have u:=S j _ _ M y;rcases U rfl with hf|Q
  ·rcases u with e|⟨t',xs,h1,rfl⟩
   ·rw[<-e];exact I
   ·rw[ns hf true false] at y;have:=sg y;simp[sc,iF] at this
  ·exact u.deep (NS Q _ (dM _)) I
 ·subst N;have u:=S j _ _ M y;exact((u.j8 (sg y)).frozen (Tw _) I).lift m
section
variable{P:Program}{C:Cx}{E:Env}{nt n:Nat}{o:Oper}{s f:TS}{g g1:Gs}{a:Act}{w A:World}{R:Type}{r:R}{K:TS->Option R}{Z:Rt->Prop}{γ1:Nat->G}{tv:TV}{v:Value}{X:Rt->dv->Prop}{nb:Nat->Prop}
structure Row(c:Rc)(a:Act)(t:Ty)(D:Bool)(k:Nat)(p:Nat×Operand)(x:El t)(vs:List TV):Prop where
 ix:p.1=k
 dc:dec t vs=some x
 pl:∀tv∈vs,dN tv=true
 len:(a.eval p.2).cells.size=vs.length
 dp:D=true->eZ t=true\/deep vs=true
 rd:∀(j:Nat)tv v,vs[j]?=some tv->(a.eval p.2).cells.toList[j]?=some v->Rd c (some (.cE 0,[((k:Int),cj t j)])) tv v/\v.oneCell'=true
def OH(hC:ga P C){t:Ty}{sz:Nat}(l:eE nt g a){s0:TS}{Z:Rt->Prop}:∀(parts:List (Nat×Operand)){s:TS}{γ:Nat->G}{n:Nat}{K:Bool->List (El t)->TS->Option R},
  cQ C E s {g with γ:=γ} w->(∀p∈parts,fD nt p.2=true)->(∀p∈parts,∀q,ed s0 p.2 q->Z q)->fo s s0->xu C t sz parts n s K=some r->
  ∃D xs s' H,K D xs s'=some r/\cQ C E s' {g with γ:=H} w/\xs.length=parts.length/\(∀(i:Nat)p x,parts[i]?=some p->xs[i]?=some x->∃vs,vs.length=sz/\Row (Gs.rc C {g with γ:=H} w) a t D (n+i) p x vs)/\FK (λq=>Z q\/∃n,q=.cE n) γ H/\
   ∀b k c I,k<n->γ b=.at (.cE 0) (((k:Nat),c)::I)->H b=.at (.cE 0) (((k:Nat),c)::I)
 |[],s,γ,n,K,h,_,_,_,N=>⟨true,[],s,γ,N,h,rfl,by simp,.refl _,λ_ _ _ _ _ h=>h⟩
 |(i,x)::parts,s,γ,n,K,h,hx,hZ,hl,N=>by
  simp only[xu] at N;obtain⟨U,N⟩:=dY.1 N;have U:=gU U;obtain⟨u,N⟩:=dY.1 N;have u:=gU u;rw[xb] at u;obtain⟨Q,s',γ1,h1,h2,h3,h4,h5,h6,h7,h8⟩:=KL (g:={g with γ:=γ}) hC h (l.same rfl) (hx (i,x) (by simp)) 1 N;unfold one? at h1;split at h1
  ·rename_i v Y;have aa:=FX (γ:=γ1) (n:=1) (τ:=λj=>(.cE 0,[((n:Int),cj t j)]));have ab:cQ C E s' {g with γ:=iJ γ1 1 (λj=>(.cE 0,[((n:Int),cj t j)]))} w:=h2.qq (g:={g with γ:=γ1}) (aa.mono (λq F=>⟨1,F⟩));obtain⟨D,xs,s2,ad,k1,k2,k3,k4,k5,k6⟩:=OH hC l parts ab (λp S=>hx p (by simp[S])) (λp S=>hZ p (by simp[S])) (h8.trans hl) h1;have ae:∀b k c I,k<n->γ b=.at (.cE 0) (((k:Nat),c)::I)->ad b=.at (.cE 0) (((k:Nat),c)::I):=λb k c I am hb=>by
    have af:=h7.at' b _ _ hb (λF=>absurd F Sv)
    have ah:iJ γ1 1 (λj=>(.cE 0,[((n:Int),cj t j)])) b=_:=J7 af (by simp)
    exact k6 b k c I (by omega) ah
   refine⟨_,_,s2,ad,k1,k2,by simp[k3],λi' p y S hy=>?_,?_,ae⟩
   ·cases i' with
    |zero=>
     simp at S hy;subst S;subst hy;refine⟨Q,by rw[h4,u],U,Y,h5,by simpa using h3,λJ=>?_,λj tv v hj hv=>?_⟩
     ·cases hf:eZ t with
      |true=>exact .inl rfl
      |false=>
       rw[hf,cR] at J;cases hd:deep Q with
       |true=>exact .inr rfl
       |false=>rw[hd] at J;simp at J
     ·obtain⟨h9,ai⟩:=h6 j tv v hj hv;have M:=h5 tv (fh hj);refine⟨?_,ai⟩;have aj:Rd (Gs.rc C {g with γ:=iJ γ1 1 (λj=>(.cE 0,[((n:Int),cj t j)]))} w) (some (.cE 0,[((n:Int),cj t j)])) tv v:=h9.LH (τ:=λj=>(.cE 0,[((n:Int),cj t j)])) M rfl;refine aj.same (λb hb=>⟨k5.im b hb,rfl⟩) (λq p F b I hb=>?_) (λi U=>absurd U (kS M i)) (λp F=>absurd F (gz M p)) (λp F=>absurd F.mv (gz M p));simp only[di,eS] at F;obtain⟨rfl,rfl⟩:=F;exact⟨k6 b n (cj t j) I (by omega) hb,rfl⟩
    |succ i'=>
     obtain⟨vs,ak,hr⟩:=k4 i' p y (by simpa using S) (by simpa using hy);refine⟨vs,ak,?_⟩;have e:n.succ+i'=n+(i'+1):=by omega
     rw[e] at hr;refine{hr with dp:=λJ=>?_};cases hf:eZ t with
     |true=>exact .inl rfl
     |false=>
      rw[hf,cR] at J;cases hd:deep Q with
      |false=>rw[hd] at J;simp at J
      |true=>rw[hd,cP] at J;have:=hr.dp J;rwa[hf] at this
   ·exact((h7.mono (λq F=>.inl (hZ (i,x) (by simp) q (F.less hl)))).trans (aa.mono (λq F=>.inr ⟨1,F⟩))).trans k5
  ·simp at h1
def NU{size:Nat}(a:Act):∀(parts:List (Nat×Operand)){n:Nat}{arr:Array Value},(∀(i:Nat)p,parts[i]?=some p->p.1=n+i/\(a.eval p.2).cells.size=size)->(n+parts.length)*size<=arr.size->
  ∃e,Instr.fill (λi=>some (i*size,size)) arr (parts.map λp=>(p.1,a.eval p.2))=some e/\e.size=arr.size/\(∀(i:Nat)p j,parts[i]?=some p->j<size->e[(n+i)*size+j]?=(a.eval p.2).cells[j]?)/\∀k,k<n*size->e[k]?=arr[k]?
 |[],n,arr,_,_=>⟨arr,rfl,rfl,by simp,λ_ _=>rfl⟩
 |(i,x)::parts,n,arr,I,J=>by
  obtain⟨M,H⟩:=I 0 (i,x) rfl;simp only[rI] at M;subst M;have u:∀k,(i+1+k)*size=i*size+size+k*size:=λk=>by rw[jO,jO,qa]
  simp only[gy] at J;rw[show i+(parts.length+1)=i+1+parts.length by omega,u] at J;obtain⟨y,S,N,U,Y⟩:=Sw (rest:=parts.map λp=>(p.1,a.eval p.2)) (place:=λi=>some (i*size,size)) (i:=i) (off:=i*size) (cells:=arr) rfl H (by omega);obtain⟨D,k1,k2,k3,k4⟩:=NU a parts (n:=i+1) (arr:=y) (λj p F=>by have:=I (j+1) p (by simpa using F);exact⟨by rw[this.1];omega,this.2⟩) (by rw[u,N];omega);refine⟨D,by simp only[lz];rw[S];exact k1,by rw[k2,N],λj p c F Q=>?_,λk hk=>?_⟩
  ·cases j with
   |zero=>
    simp at F;subst F;have:=u 0;simp only[rI,Hy] at this⊢;rw[k4 _ (by rw[this];omega),U c Q]
   |succ j=>
    rw[show i+(j+1)=i+1+j by omega];exact k3 j p c (by simpa using F) Q
  ·have:=u 0;simp only[rI,Hy] at this;rw[k4 k (by rw[this];omega),Y k (by omega)]
def Z3(hC:ga P C)(h:cQ C E s g w)(l:eE nt g a)(hd:ij nt o.dst){t len:Nat}{parts:Array (Nat×Operand)}(ho:o.op=.buildSlice t len parts)(hx:∀p∈parts.toList,fD nt p.2=true)(hk:Ev.step C o s K=some r):
  kY P C E nt o g a w K r (λq=>∃p∈parts.toList,ed s p.2 q) X nb:=by
 simp only[Ev.step,ho] at hk;split at hk
 ·rename_i e sz aA an;obtain⟨hn,hk⟩:=dY.1 hk;have hn:=gU hn;obtain⟨ah,hk⟩:=dY.1 hk;have ah:len*sz<=16777216:=Zw ah;obtain⟨et,hu,ao,ap,_⟩:=vn (hC.ty t) an;subst ap;obtain⟨aq,aB,hz,aC,_⟩:=rQ ao;obtain⟨i,z,hi,au,aD⟩:=IQ hz;have J:i.size=cI e:=by rw[<-aq];simp[Program.cellsOf,hi]
  obtain⟨D,xs,s',I,h1,h2,h3,h4,h5,_⟩:=OH hC l (s0:=s) (Z:=λq=>∃p∈parts.toList,ed s p.2 q) parts.toList (γ:=g.γ) h hx (λp hp q hq=>⟨p,hp,hq⟩) (.refl _) hk;have aa:parts.toList.length=len:=by simpa using hn
  have av:xs.length=len:=by rw[h3,aa]
  obtain⟨F,k1,k2,k3,_⟩:=NU (size:=cI e) a parts.toList (n:=0) (arr:=madeCells z.cells (len*cI e)) (λi p hp=>by
   have aE:=(eT.1 hp).1
   obtain⟨vs,af,Y⟩:=h4 i p (xs[i]'(by omega)) hp (eN _)
   exact⟨Y.ix,by rw[Y.len,af]⟩) (by rw[Zq,aa];simp);have ai:(Instr.buildSlice t len (parts.map λ(i,x)=>(i,a.eval x))).run P w=.ok (.slice (some ⟨w.heap.size,0,none⟩) len len) (w.alloc (.cells F et)):=by
   by_cases M:len=0
   ·subst M;have aw:parts=#[]:=Array.size_eq_zero_iff.1 hn;subst aw;simp only[s7,Instr.fill,di] at k1;subst k1;simp[Instr.buildSlice,lx hu,sizeOf,typeInfo,hi,Instr.fill,newRow,madeCells,Array.range_zero']
   ·have aF:=JY e;refine run_buildSlice w t et len _ F i z hu hi au (by rw[J];omega) (by rw[J];exact Nat.mul_ne_zero M (by omega)) ?_;rw[J,Zu];exact k1
  have N:∀(r:Nat)x(j:Nat)tv,xs[r]?=some x->(enc D e x)[j]?=some tv->∃(vs:List TV)(Q:TV)(u:Value),vs[j]?=some Q/\dN Q=true/\F[r*cI e+j]?=some u/\u.oneCell'=true/\Rd (Gs.rc C {g with γ:=I} w) (some (.cE 0,[((r:Int),cj e j)])) Q u/\(D=true->∀c m v,Rd c m Q v->Rd c m tv v)/\(D=false->∀c m v,Rd c none (kh Q) v->Rd c m tv v):=λr x j tv y hj=>by
   have aG:=(eT.1 y).1
   have hp:parts.toList[r]?=some (parts.toList[r]'(by omega)):=eN _
   obtain⟨vs,af,Y⟩:=h4 r _ x hp y
   obtain⟨Q,ab,hA,hB⟩:=NT Y.dc Y.dp hj
   have ad:=(eT.1 ab).1
   have ax:(a.eval (parts.toList[r]'(by omega)).2).cells.toList[j]?=some ((a.eval (parts.toList[r]'(by omega)).2).cells[j]'(by rw[Y.len];exact ad)):=by
    rw[eN (by rw[DJ,Y.len];exact ad)];simp
   obtain⟨h6,h7⟩:=Y.rd j Q _ ab ax
   refine⟨vs,Q,_,ab,Y.pl Q (fh ab),?_,h7,by simpa using h6,hA,hB⟩
   have:=k3 r _ j hp (by rw[<-af];exact ad)
   rw[iB] at this
   rw[this,jN (by rw[Y.len];exact ad)]
  have aj:∀ae,cQ C E s' {g with γ:=ae} w->FK (λq=>(∃p∈parts.toList,ed s p.2 q)\/∃n,q=.cE n) g.γ ae->(∀(r:Nat)x(j:Nat)tv,xs[r]?=some x->(enc D e x)[j]?=some tv->∃u,F[r*cI e+j]?=some u/\u.oneCell'=true/\Rd (Gs.rc C {g with γ:=ae} w) (some (.cE 0,[((r:Int),cj e j)])) tv u)->
    kY P C E nt o g a w K r (λq=>∃p∈parts.toList,ed s p.2 q) X nb:=by
   intro ae ak ay hc
   obtain⟨h6,h7,h8⟩:=J6 (n:=0) (d:=D) (t:=e) (xs:=xs) (cap:=len) ak (wB w F et) (λr j=>F[r*cI e+j]?.getD undef) (by omega) (by rw[k2,Zq];exact iN _)
    (λr x j tv y hj=>by obtain⟨u,H,S,_⟩:=hc r x j tv y hj;rw[H];exact⟨rfl,S⟩)
    (λr x j tv y hj=>by obtain⟨u,H,_,U⟩:=hc r x j tv y hj;rw[H];exact U)
   rw[av] at h7
   refine Ch (n:=0) h6 rfl (λ_ _=>rfl) ?_ l hd h7 (by simp only[execOp,ho];simp[ai]) h1
   exact((FK.xz ay h.cL.new).trans h8).mono (λq p y=>.inl (y.elim id (λhf=>hf.elim)))
  cases D with
  |true=>
   exact aj I h2 h5 (λr x j tv y hj=>by
    obtain⟨vs,Q,u,_,_,H,S,U,hA,_⟩:=N r x j tv y hj
    exact⟨u,H,S,hA rfl _ _ _ U⟩)
  |false=>
   have am:=FK.j8 (γ:=I) (q1:=.cE 0) (p1:=[]) zg;refine aj (lJ I (.cE 0) []) (h2.qq (g:={g with γ:=I}) (am.mono (λq hq=>⟨0,hq⟩))) (h5.trans (am.mono (λq hq=>.inr ⟨0,hq⟩))) (λr x j tv y hj=>?_);obtain⟨vs,Q,u,_,aa,H,S,U,_,hB⟩:=N r x j tv y hj;refine⟨u,H,S,hB rfl _ _ _ (U.j8 aa (λb hb=>⟨CF hb,rfl⟩) (λq p hq b π hb=>?_))⟩;simp only[di,eS] at hq;obtain⟨rfl,rfl⟩:=hq;exact⟨J2 (p1:=[]) (π:=[((r:Int),cj e j)]++π) (by have az:I b=_:=hb;simpa using az),rfl⟩
 ·simp at hk
end
end
section
structure XA(w w':World)(b off:Nat)(vals:List Value):Prop where
 other:∀i,i≠b->w'.heap[i]?=w.heap[i]?
 this:∀cs e fr,w.heap[b]?=some (.cells cs e fr)->∃LJ,w'.heap[b]?=some (.cells LJ e fr)/\LJ.size=cs.size/\(∀j,j<vals.length->off+j<cs.size->LJ[off+j]?=vals[j]?)/\∀k,¬ (off<=k/\k<off+vals.length)->LJ[k]?=cs[k]?
 size:w'.heap.size=w.heap.size
 tape:w'.tape=w.tape
 os:w'.os=w.os
 output:w'.output=w.output
def kt(b:Nat):∀(u:List Value)(a:Nat)(w:World),XA w (w.setCells b a u) b a u
 |[],a,w=>⟨λ_ _=>rfl,λA e fr h=>⟨A,h,rfl,λj D=>by simp at D,λ_ _=>rfl⟩,rfl,rfl,rfl,rfl⟩
 |v::u,a,w=>by
  have x:=kt b u (a+1) (w.setCell ⟨b,a,none⟩ v);have J:(w.setCell ⟨b,a,none⟩ v).heap.size=w.heap.size:=by simp
  refine⟨λi H=>?_,λA e fr h=>?_,x.size.trans J,x.tape,x.os,x.output⟩
  ·rw[World.setCells,x.other i H,Below.heap_setCell _ _ _ _ H]
  ·have M:(w.setCell ⟨b,a,none⟩ v).heap[b]?=some (.cells (A.setIfInBounds a v) e fr):=by
     simp[World.setCell,ai8,h]
   obtain⟨F,N,P,Q,I⟩:=x.this _ _ _ M;refine⟨F,N,by rw[P];simp,λj D y=>?_,λk S=>?_⟩
   ·cases j with
    |zero=>
     rw[I _ (by omega)];simp at y;simp[y]
    |succ j=>
     rw[show a+(j+1)=a+1+j by omega,Q j (by simpa using D) (by simp;omega)];simp
   ·simp only[gy] at S;rw[I k (by omega),Zj (by omega)]
def wW{x:Nat->G}{w D:World}{b y:Nat}{u:List Value}{F:Rt}{H:dv}(j:XA w D b y u)(I:∀b,w.heap.size<=b->x b=.fr)(A:x b=.at F H):dK (λq p=>q=F/\p=H) x w x D where
 im:=λi a=>⟨a,j.other i (λe=>by rw[e,A] at a;simp at a)⟩
 at':=λi q p a hx=>⟨a,j.other i (λe=>by rw[e,A] at a;simp only[G.at.injEq] at a;exact hx ⟨a.1.symm,a.2.symm⟩)⟩
 fr:=λi _ a=>⟨a,j.other i (λe=>by rw[e,A] at a;simp at a)⟩
 size:=Zt j.size.symm
 new:=λi a=>I i (by rw[j.size] at a;exact a)
 tape:=j.tape
 os:=j.os
 output:=j.output
def run_store{P:Program}{w:World}{t:TypeId}{v:Value}{b o:Nat}{c:Array Value}{e:TypeId}{fr:Nat×Nat}(H:0<P.cellsOf t)(u:v.cells.size=P.cellsOf t)
  (D:w.heap[b]?=some (.cells c e fr))(I:vA c.size fr)(J:o+v.cells.size<=c.size)(M:∀x∈v.cells.toList,x.oneCell'=true):
  (storeVar t ⟨b,o,none⟩ v).run P w=.ok () (w.setCells b o v.cells.toList):=by
 have a:∀k,w.cell? ⟨b,k,none⟩=c[k]?:=λk=>by simp[World.cell?,D]
 have y:∀k,k<c.size->w.frozen? ⟨b,k,none⟩=false:=λk N=>by
  have:=I k N
  simp only[World.frozen?,D]
  simp only[Zx,lA]
  by_cases F:fr.1<=k
  ·exact .inr (λQ=>this ⟨F,Q⟩)
  ·exact .inl F
 have:=run_storeCells_cells (P:=P) b o v.cells.toList 0 w (λj A=>by rw[a];simp at A⊢;omega) (λj A=>y _ (by simp at A;omega)) M;simp[storeVar,wu H,u,this]
def XP(a:Rt)(e:dv)(q:Rt)(p:dv):Prop:=eQ a e q p\/∃n,q=.cE n
def TE(t:Ty)(x:El t):∀a∈enc true t x,qk a=true:=by
 cases t<;>simp[enc,qk,sc]
def OI:∀{a:List TV},(∀e∈a,qk e=true)->deep a=true
 |[],_=>rfl
 |v::a,h=>by simp only[deep,h v (by simp),cP];exact OI λe j=>h e (by simp[j])
section
variable{C:Cx}{E:Env}{s:TS}{g:Gs}{w:World}{R:Type}{r:R}
def OJ(h:cQ C E s g w):∀(p:Pl){f:TV->(TV->Option R)->Option R}{K:TS->Option R},rk C s p f K=some r->
  ∃tv kv,f tv kv=some r/\(tv=.un\/∃v,(g.rc C w).va p=some v/\Rd (g.rc C w) (some (gp p)) tv v/\VO (g.rc C w) p)/\
   ∀H a U,kv H=some r->jQ H=true->dK (XP (gp p).1 (gp p).2) g.γ w a U->(∀v,(g.rc C w).va p=some v->Rd (Gs.rc C {g with γ:=a} U) (some (gp p)) H v)->
    ∃s',K s'=some r/\cQ C E s' {g with γ:=a} U/\fo s' s
 |.cD k,f,K,hk=>by
  simp only[rk,dY] at hk;have aB:(g.rc C w).va (.cD k)=some (g.tm k):=by simp only[Gs.rc,va];rw[cM hk.1]
  refine⟨_,_,hk.2,.inr ⟨g.tm k,aB,h.fQ k,trivial⟩,λH a U M hT A ab=>⟨_,M,?_,fo.Lo k (fo.kill _ _) (λp F=>absurd F (rS hT p))⟩⟩;have ad:∀j p,MV p ((s.kill (Pl.n9 k)).cD j)->VO (g.rc C w) p->(Gs.rc C {g with γ:=a} U).va p=(g.rc C w).va p/\VO (Gs.rc C {g with γ:=a} U) p:=λj p F N=>
   nv (C:=C) (g:=g) (g':={g with γ:=a}) A p N (oq A λq hq _ hx=>by
    rcases hx with hx|⟨n,hx⟩
    ·exact Ig j p F ((qe hq).1 ▸hx.1) (qe hq).2
    ·exact jk q n hx) (λ_ _ _=>rfl) (λi _=>⟨rfl,λhx=>by rcases hx with hx|⟨n,hx⟩<;>simp[eQ,gp] at hx⟩)
  refine(h.kill (Pl.n9 k)).nF (g':={g with γ:=a}) A (λj=>?_) (λj=>.inr ⟨rfl,rfl,λp hx=>by rcases hx with hx|⟨n,hx⟩<;>simp[eQ,gp] at hx⟩)
  by_cases J:j=k
  ·subst J
   left
   rcases wq (s.kill (Pl.n9 j)) j H with e|e<;>rw[e]
   ·exact ab _ aB
   ·exact .un _ _
  ·refine .inr ⟨rN _ H J,rfl,λp hx=>?_,λ_ _=>rfl,λp F=>?_,λp F π hx=>?_⟩
   ·rcases hx with hx|⟨n,hx⟩
    ·exact J (by simpa[eQ,gp] using hx.1)
    ·simp at hx
   ·exact⟨(ad j p F (((h.kill (Pl.n9 k)).fQ j).tR F)).1,λN=>(ad j p F N).2⟩
   ·rcases hx with hx|⟨n,hx⟩
    ·exact Ig j p F.mv hx.1 (((h.kill (Pl.n9 k)).fQ j).KH F)
    ·exact jk p n hx
 |.cell k c,f,K,hk=>by
  simp only[rk] at hk;split at hk
  ·rename_i cs I;have aC:=h.boxes k;rw[I] at aC;have hg:gn C s (.cell k c)=some (nth cs c):=by simp[gn,I]
   refine⟨_,_,hk,tE h hg,λH a U M hT A ab=>⟨_,M,?_,(fo.bx _ _ _).trans (fo.kill _ _)⟩⟩;have aN:¬ XP (gp (.cell k c)).1 (gp (.cell k c)).2 (.box k) []:=by rintro(hx|⟨n,hx⟩)<;>simp[eQ,gp] at hx
   have ad:∀j p,MV p ((s.kill (Pl.oa k)).cD j)->VO (g.rc C w) p->(Gs.rc C {g with γ:=a} U).va p=(g.rc C w).va p/\VO (Gs.rc C {g with γ:=a} U) p:=λj p F N=>
    nv (C:=C) (g:=g) (g':={g with γ:=a}) A p N (oq A λq hq _ hx=>by
     rcases hx with hx|⟨n,hx⟩
     ·exact Ih j p F ((qe hq).1 ▸hx.1) (qe hq).2
     ·exact jk q n hx) (λ_ _ _=>rfl) (λi _=>⟨rfl,λhx=>by rcases hx with hx|⟨n,hx⟩<;>simp[eQ,gp] at hx⟩)
   refine(h.kill (Pl.oa k)).nF (g':={g with γ:=a}) A (λj=>.inr ⟨OA _ k j _,rfl,λp hx=>by rcases hx with hx|⟨n,hx⟩<;>simp[eQ,gp] at hx,λ_ _=>rfl,λp F=>⟨(ad j p F (((h.kill (Pl.oa k)).fQ j).tR F)).1,λN=>(ad j p F N).2⟩,λp F π hx=>?_⟩) (λj=>?_)
   ·rcases hx with hx|⟨n,hx⟩
    ·exact Ih j p F.mv hx.1 (((h.kill (Pl.oa k)).fQ j).KH F)
    ·exact jk p n hx
   ·by_cases J:j=k
    ·subst J
     left
     rcases uP (s.kill (Pl.oa j)) j (.cells (ld cs c H)) with e|e<;>rw[e]
     ·obtain⟨vs,e',fr,hh,hu,am,hl,aD,hr⟩:=aC;obtain⟨aO,ae⟩:=A.at' _ _ _ am aN;refine⟨vs,e',fr,ae.trans hh,hu,aO,by rw[sf];simpa using hl,λx hx=>?_,λi x v P hv=>?_⟩
      ·rw[sf] at hx;rcases Ax hx with hx|rfl
       ·exact aD x hx
       ·exact hT
      ·rw[sf] at P
       by_cases aw:c=i
       ·subst aw;have an:c<cs.length:=by have:=(eT.1 P).1;simpa using this
        rw[HA an] at P;simp only[di] at P;subst P;refine⟨(hr c _ v (eN an) hv).1,ab v ?_⟩;have aP:w.heap[g.bx j]?=some (.cells vs e' fr):=hh;simp[Gs.rc,va,eK,World.cell?,aP,hv]
       ·rw[DI aw] at P;obtain⟨h1,h2⟩:=hr i x v P hv;have ax:=aD x (fh P);refine⟨h1,h2.same (λb I=>A.im b I) (λq p hq b π I=>?_) (λi P=>absurd P (EW ax i)) (λp F=>absurd F (rS ax p)) (λp F=>absurd F.mv (rS ax p))⟩;simp only[di,eS] at hq;obtain⟨rfl,rfl⟩:=hq;refine A.at' b _ _ I λhx=>?_;rcases hx with⟨_,t,ht⟩|⟨n,hx⟩
        ·simp[gp] at ht;exact aw ht.1
        ·simp at hx
     ·trivial
    ·exact .inr ⟨uO _ _ J,rfl,λp hx=>by
      rcases hx with hx|⟨n,hx⟩
      ·exact J (by simpa[eQ,gp] using hx.1)
      ·simp at hx⟩
  ·simp at hk
 |.sub p t i c,f,K,hk=>by
  simp only[rk] at hk;obtain⟨aW,aX,hf,ho,aQ⟩:=OJ h p hk;split at hf
  ·rename_i t' xs;obtain⟨ht,aR⟩:=dY.1 hf;have ht:=fG ht;clear hf;subst ht;obtain⟨x,hx,hf⟩:=fa.1 aR;obtain⟨h0,hx⟩:=lQ.1 hx;have an:=(eT.1 hx).1;rcases ho with ho|⟨vo,af,aE,aF⟩
   ·simp at ho
   rcases aE.lT with⟨rfl,_⟩|⟨q,π,b,aG,aH,cs,e,fr,fv,hm,rfl,hl,am,hh,hu,hs,hc,hr⟩
   ·simp at hx
   simp only[di] at hm;have aI:c<cI t'->(enc true t' x)[c]?=some (nth (enc true t' x) c):=λQ=>by
    rw[u7,eN (by rw[iu];exact Q)];rfl
   have P:((i.toNat:Nat):Int)=i:=by omega
   have ao:c<cI t'->(g.rc C w).va (.sub p t' i c)=some (fv i.toNat c):=λQ=>by
    have aS:va C.vs g.tm g.bx w p=some (.slice (some ⟨b,aG,none⟩) xs.length aH):=af
    simp only[Gs.rc,va,aS]
    rw[cM ⟨h0,by omega,Q⟩]
    exact(hc i.toNat x c _ hx (aI Q)).1
   refine⟨_,_,hf,?_,λH a U M hT A ab=>?_⟩
   ·by_cases Q:c<cI t'
    ·right
     refine⟨fv i.toNat c,ao Q,?_,aF,λb' o' aY aV I=>?_⟩
     ·have:=hr i.toNat x c _ hx (aI Q);rw[P] at this;simp only[gp,hm];exact this
     ·rw[af] at I;simp only[di,kH,mS,jB] at I;obtain⟨⟨rfl,_⟩,_⟩:=I;exact .inr (by rw[hm];exact am)
    ·left;rw[u7,nI (by rw[iu];omega)];rfl
   ·split at M
    ·rename_i x' aT ap;have aJ:∀n,(gp p).1≠.cE n:=λn=>jk p n;have ah:∀b' ai,g.γ b'=.at q (π++ai)->(∀aj,ai≠(i,cj t' c)::aj)->a b'=.at q (π++ai)/\U.heap[b']?=w.heap[b']?:=λb' ai I S=>A.at' b' _ _ I (λhx=>by
      rcases hx with⟨_,t2,ay⟩|⟨n,hx⟩
      ·simp only[gp,hm] at ay
       simp only[ke] at ay
       have:=Mf ay
       exact S t2 this.symm
      ·exact aJ n (by rw[hm];exact hx));refine aQ (.own true t' (du xs i x')) a U M rfl (A.mono (λq' ai hx=>?_)) (λv hv=>?_)
     ·rcases hx with⟨h1,h2⟩|hx
      ·left
       simp only[gp] at h1 h2;exact⟨h1,(s5 _ _).trans h2⟩
      ·exact .inr hx
     ·rw[af] at hv;simp only[di] at hv;subst hv;obtain⟨aK,ae⟩:=ah b [tg t'] am (λaj he=>by simp only[lN] at he;exact GI he.1.symm);have aq:(du xs i x').length=xs.length:=by simp[du]
      rw[hm];have au:=Rd.kE (c:=Gs.rc C {g with γ:=a} U) q π true t' (du xs i x') b aG aH cs e fr fv (by rw[aq];exact hl) aK (ae.trans hh) hu hs (λY y j tv hy J=>?_) (λY y j tv hy J=>?_)
      ·rw[aq] at au;exact au
      ·by_cases Z:Y=i.toNat
       ·subst Z;have aU:j<cI t':=by have:=(eT.1 J).1;rwa[iu] at this
        obtain⟨h1,h2⟩:=hc i.toNat x j _ hx (eN (by rw[iu];exact aU));exact⟨(lP ae).trans h1,h2⟩
       ·have ak:xs[Y]?=some y:=by simpa[du,DI (oY Z)] using hy
        obtain⟨h1,h2⟩:=hc Y y j tv ak J;exact⟨(lP ae).trans h1,h2⟩
      ·have av:∀(Y:Nat)y j tv,xs[Y]?=some y->(enc true t' y)[j]?=some tv->(Y≠i.toNat\/j≠c)->Rd (Gs.rc C {g with γ:=a} U) (some (q,π++[((Y:Int),cj t' j)])) tv (fv Y j):=λY y j tv hy J S=>by
         have az:=gj J
         refine(hr Y y j tv hy J).same (λb I=>A.im b I) (λq2 p2 hq b2 aZ I=>?_) (λi P=>absurd P (kS az i)) (λp F=>absurd F (gz az p)) (λp F=>absurd F.mv (gz az p))
         simp only[di,eS] at hq
         obtain⟨rfl,rfl⟩:=hq
         rw[ke] at I⊢
         refine ah b2 _ I (λaj he=>?_)
         simp only[ym,lN,eS] at he
         rcases S with S|S
         ·exact S (by omega)
         ·exact S (KG he.1.2).2
       by_cases Z:Y=i.toNat
       ·subst Z;have ak:y=x':=by
         simp only[du] at hy
         rw[HA an] at hy
         exact(gV hy).symm
        subst ak;rw[sf] at ap;have aL:deep ((enc true t' x).set c H)=true:=OI (λu hu=>by
         rcases Ax hu with hu|rfl
         ·exact TE t' x u hu
         ·exact aT);obtain⟨a0,aa,hA,_⟩:=NT (D:=true) ap (λ_=>.inr aL) J;refine hA rfl _ _ _ ?_
        by_cases aA:c=j
        ·subst aA;have aM:c<(enc true t' x).length:=by have:=(eT.1 aa).1;simpa using this
         rw[HA aM] at aa;simp only[di] at aa;subst aa;have:=ab _ (ao (by rwa[iu] at aM));simp only[gp,hm] at this;rw[P];exact this
        ·rw[DI aA] at aa;exact av _ x j a0 hx aa (.inr (λe=>aA e.symm))
       ·have ak:xs[Y]?=some y:=by simpa[du,DI (oY Z)] using hy
        exact av Y y j tv ak J (.inl Z)
    ·simp at M
  ·simp at hf
end
end
section
def abm{sz r i j c n k:Nat}(e:j<sz)(u:c+n<=sz)(a:r≠i)(x:k<n):r*sz+j≠i*sz+c+k:=by
 rcases Nat.lt_or_gt_of_ne a with h|h
 ·have:(r+1)*sz<=i*sz:=mT _ h;rw[jO,qa] at this;omega
 ·have:(i+1)*sz<=r*sz:=mT _ h;rw[jO,qa] at this;omega
def NV{x e:List TV}{c j:Nat}{y:TV}(D:c+e.length<=x.length)(a:(pK x c e)[j]?=some y):(c<=j/\j<c+e.length/\e[j-c]?=some y)\/(¬ (c<=j/\j<c+e.length)/\x[j]?=some y):=by
 rw[CE] at a
 by_cases u:c<=j/\j<c+e.length
 ·left
  refine⟨u.1,u.2,?_⟩;rw[ke,qb (by simp;omega),o7 (by simp;omega)] at a;simpa[show min c x.length=c by omega] using a
 ·right
  refine⟨u,?_⟩
  by_cases A:j<c
  ·rw[ke,o7 (by simp;omega),o5] at a;simpa[A] using a
  ·rw[qb (by simp;omega)] at a;simp only[fg,kI,vW] at a;rw[show c+e.length+(j-(min c x.length+e.length))=j by omega] at a;exact a
def acA{cs a:List TV}{c:Nat}(e:c+a.length<=cs.length):(pK cs c a).length=cs.length:=by rw[CE];simp;omega
def TF{cs a:List TV}{c:Nat}{e:TV}(u:c+a.length<=cs.length)(h:e∈pK cs c a):e∈a\/e∈cs:=by
 obtain⟨j,x⟩:=qR h;rcases NV u x with⟨_,_,h⟩|⟨_,h⟩
 ·exact .inl (fh h)
 ·exact .inr (fh h)
def abn{a:TV}(h:dN a=true):dN (kh a)=true:=by cases a<;>first|exact h|rfl
section
variable{C:Cx}{g:Gs}{w:World}
def NW{q:Rt}{π:dv}{d D:Bool}{t:Ty}{xs:List (El t)}{x x':El t}{b a S:Nat}{cs:Array Value}{e:TypeId}{fr:Nat×Nat}{f:Nat->Nat->Value}{i:Int}{c:Nat}{vs:List TV}{vals:List Value}{A:Nat->G}
  (hn:∀b,w.heap.size<=b->A b=.fr)(hq:∀n,q≠.cE n)(aR:pD q π)(h0:0<=i)(hx:xs[i.toNat]?=some x)
  (hl:xs.length<=S)(hg:A b=.at q (π++[tg t]))(hh:w.heap[b]?=some (.cells cs e fr))(hu:ng t cs.size fr)(hs:a+S*cI t<=cs.size)
  (hc:∀(r:Nat)x(j:Nat)tv,xs[r]?=some x->(enc d t x)[j]?=some tv->eK w b (a+r*cI t+j)=some (f r j)/\(f r j).oneCell'=true)
  (hr:∀(r:Nat)x(j:Nat)tv,xs[r]?=some x->(enc d t x)[j]?=some tv->((r:Int)≠i\/¬ (c<=j/\j<c+vs.length))->Rd (Gs.rc C {g with γ:=A} w) (some (q,π++[((r:Int),cj t j)])) tv (f r j))
  (aS:vals.length=vs.length)(ao:c+vs.length<=cI t)(aI:∀tv∈vs,dN tv=true)(hv:∀(j:Nat)tv v,vs[j]?=some tv->vals[j]?=some v->Rd (Gs.rc C {g with γ:=A} w) (some (.cE 0,[(0,j)])) tv v/\v.oneCell'=true)
  (av:dec t (pK (enc d t x) c vs)=some x')(hD:D=true->eZ t=true\/(d=true/\deep vs=true)):
  ∃E,dK (XP q π) A w E (w.setCells b (a+i.toNat*cI t+c) vals)/\Rd (Gs.rc C {g with γ:=E} (w.setCells b (a+i.toNat*cI t+c) vals)) (some (q,π)) (.own D t (du xs i x')) (.slice (some ⟨b,a,none⟩) xs.length S):=by
 have aJ:=(eT.1 hx).1;have pk:=kt b vals (a+i.toNat*cI t+c) w;obtain⟨U,aw,ak,ax,ap⟩:=pk.this _ _ _ hh;have Y:=FX (γ:=A) (n:=0) (τ:=λj=>(q,π++[(i,cj t (c+j))]));have H:∀E,FK (λq'=>q'=.cE 0) A (iJ A 0 (λj=>(q,π++[(i,cj t (c+j))])))->dK (eQ q π) (iJ A 0 (λj=>(q,π++[(i,cj t (c+j))]))) w E w->E b=.at q (π++[tg t])->dK (XP q π) A w E (w.setCells b (a+i.toNat*cI t+c) vals):=λE M N I=>by
  refine(((M.gD hn).trans N).trans (wW pk N.new I)).mono (λq' p' hx=>?_)
  rcases hx with(hx|hx)|⟨rfl,rfl⟩
  ·exact .inr ⟨0,hx.1⟩
  ·exact .inl hx
  ·exact .inl ⟨rfl,s5 _ _⟩
 have ab:iJ A 0 (λj=>(q,π++[(i,cj t (c+j))])) b=.at q (π++[tg t]):=J7 hg (hq 0);have ay:∀b,w.heap.size<=b->iJ A 0 (λj=>(q,π++[(i,cj t (c+j))])) b=.fr:=λb hb=>Y.fr b (hn b hb);have ad:∀(r:Nat)y(j:Nat)tv,(du xs i x')[r]?=some y->(enc D t y)[j]?=some tv->∃(R:TV)(u:Value),dN R=true/\U[a+r*cI t+j]?=some u/\u.oneCell'=true/\Rd (Gs.rc C {g with γ:=iJ A 0 (λj=>(q,π++[(i,cj t (c+j))]))} w) (some (q,π++[((r:Int),cj t j)])) R u/\
   (D=true->∀c m v,Rd c m R v->Rd c m tv v)/\(D=false->∀c m v,Rd c none (kh R) v->Rd c m tv v):=by
  intro r y j tv P J
  have az:j<cI t:=by have:=(eT.1 J).1;rwa[iu] at this
  have aq:∀k,eK w b k=cs[k]?:=λk=>by simp[eK,World.cell?,hh]
  have ae:∀(r:Nat)y(j:Nat)tv,xs[r]?=some y->(enc d t y)[j]?=some tv->((r:Int)≠i\/¬ (c<=j/\j<c+vs.length))->U[a+r*cI t+j]?=some (f r j)/\(f r j).oneCell'=true/\Rd (Gs.rc C {g with γ:=iJ A 0 (λj=>(q,π++[(i,cj t (c+j))]))} w) (some (q,π++[((r:Int),cj t j)])) tv (f r j):=by
   intro r y j tv P J Z
   have az:j<cI t:=by have:=(eT.1 J).1;rwa[iu] at this
   obtain⟨M,N⟩:=hc r y j tv P J
   rw[aq] at M
   have aK:¬ (a+i.toNat*cI t+c<=a+r*cI t+j/\a+r*cI t+j<a+i.toNat*cI t+c+vals.length):=by
    rintro⟨aT,aU⟩
    by_cases af:r=i.toNat
    ·subst af;rcases Z with Z|Z
     ·exact Z (by omega)
     ·exact Z (by omega)
    ·have:=abm (k:=a+r*cI t+j-(a+i.toNat*cI t+c)) az ao af (by omega);omega
   refine⟨(ap _ aK).trans M,N,?_⟩
   ·have aA:=gj J;exact(hr r y j tv P J Z).ya (g:={g with γ:=A}) (γ':=iJ A 0 (λj=>(q,π++[(i,cj t (c+j))]))) (by simp[fO,aA]) Y (λq' p' he=>by
     simp only[di,eS] at he
     rw[<-he.1];exact hq 0)
  by_cases af:r=i.toNat
  ·subst af;have ai:y=x':=by
    simp only[du] at P
    rw[HA aJ] at P
    exact(gV P).symm
   subst ai;have aV:=iu d t x;have aL:D=true->eZ t=true\/deep (pK (enc d t x) c vs)=true:=λhd=>by
    rcases hD hd with hf|⟨aM,aN⟩
    ·exact .inl hf
    ·subst aM;exact .inr (OI λu hu=>by
      rcases TF (by rw[iu];exact ao) hu with hu|hu
      ·exact NS aN u hu
      ·exact TE t x u hu)
   obtain⟨R,aO,hA,hB⟩:=NT (D:=D) av aL J;rcases NV (by rw[iu];exact ao) aO with⟨M,N,I⟩|⟨M,N⟩
   ·have aB:vals[j-c]?=some (vals[j-c]'(by omega)):=eN _;obtain⟨h4,h5⟩:=hv _ R _ I aB;have Q:=aI R (fh I);refine⟨R,vals[j-c]'(by omega),Q,?_,h5,?_,hA,hB⟩
    ·have aC:=ax (j-c) (by omega);rw[show a+i.toNat*cI t+c+(j-c)=a+i.toNat*cI t+j by omega,aB] at aC;refine aC ?_;have:(i.toNat+1)*cI t<=S*cI t:=mT _ (by omega);rw[jO,qa] at this;omega
    ·have h6:Rd (Gs.rc C {g with γ:=iJ A 0 (λj=>(q,π++[(i,cj t (c+j))]))} w) (some (q,π++[(i,cj t (c+(j-c)))])) R _:=h4.LH (τ:=λj=>(q,π++[(i,cj t (c+j))])) Q rfl;rw[show c+(j-c)=j by omega] at h6;rw[show((i.toNat:Nat):Int)=i by omega];exact h6
   ·obtain⟨I,h4,h5⟩:=ae i.toNat x j R hx N (.inr M);exact⟨R,_,gj N,I,h4,h5,hA,hB⟩
  ·have ai:xs[r]?=some y:=by simpa[du,DI (oY af)] using P
   cases D with
   |true=>
    have aj:(enc d t y)[j]?=some tv:=by
     rcases hD rfl with hf|⟨hd,_⟩
     ·rwa[ns hf true d] at J
     ·rwa[hd]
    obtain⟨I,h4,h5⟩:=ae r y j tv ai aj (.inl (by omega));exact⟨tv,_,gj J,I,h4,h5,λ_ _ _ _ h=>h,λh=>by simp at h⟩
   |false=>
    obtain⟨aD,aj,rfl⟩:=Ek (d:=d) J;obtain⟨I,h4,h5⟩:=ae r y j aD ai aj (.inl (by omega));exact⟨aD,_,gj aj,I,h4,h5,(λh=>by simp at h),λ_ _ _ _ h=>h.lift _⟩
 have am:(du xs i x').length=xs.length:=by simp[du]
 have aE:∀E,dK (XP q π) A w E (w.setCells b (a+i.toNat*cI t+c) vals)->E b=.at q (π++[tg t])->(∀(r:Nat)y(j:Nat)tv,(du xs i x')[r]?=some y->(enc D t y)[j]?=some tv->∃u,U[a+r*cI t+j]?=some u/\u.oneCell'=true/\Rd (Gs.rc C {g with γ:=E} (w.setCells b (a+i.toNat*cI t+c) vals)) (some (q,π++[((r:Int),cj t j)])) tv u)->
   Rd (Gs.rc C {g with γ:=E} (w.setCells b (a+i.toNat*cI t+c) vals)) (some (q,π)) (.own D t (du xs i x')) (.slice (some ⟨b,a,none⟩) xs.length S):=by
  intro E aW aa ah
  have an:=Rd.kE (c:=Gs.rc C {g with γ:=E} (w.setCells b (a+i.toNat*cI t+c) vals)) q π D t (du xs i x') b a S U e fr (λr j=>U[a+r*cI t+j]?.getD undef) (by rw[am];exact hl) aa aw (by rw[ak];exact hu) (by rw[ak];exact hs)
   (λr y j tv P J=>by
     obtain⟨u,M,N,_⟩:=ah r y j tv P J
     have aP:(w.setCells b (a+i.toNat*cI t+c) vals).heap[b]?=some (.cells U e fr):=aw
     exact⟨by simp[eK,World.cell?,Gs.rc,aP,M],by simp[M,N]⟩)
   (λr y j tv P J=>by
     obtain⟨u,M,_,I⟩:=ah r y j tv P J
     rw[M];exact I)
  rw[am] at an
  exact an
 have aF:∀E{m tv u},dK (eQ q π) (iJ A 0 (λj=>(q,π++[(i,cj t (c+j))]))) w E w->E b=.at q (π++[tg t])->dN tv=true->(∀q' p',m=some (q',p')->∃i j,p'=π++[(i,cj t j)]/\q'=q)->Rd (Gs.rc C {g with γ:=E} w) m tv u->Rd (Gs.rc C {g with γ:=E} (w.setCells b (a+i.toNat*cI t+c) vals)) m tv u:=by
  intro E m tv u N I hp hm hr
  have aG:=wW pk N.new I
  refine hr.same (λb hb=>aG.im b hb) (λq' p' he b' aH hb=>aG.at' b' _ _ hb (λhx=>?_)) (λi hi=>absurd hi (kS hp i)) (λp au=>absurd au (gz hp p)) (λp au=>absurd au.mv (gz hp p))
  obtain⟨k1,k2,rfl,rfl⟩:=hm _ _ he
  have:=hx.2
  rw[ke] at this
  have:=Mf this
  simp only[ym,lN] at this
  exact GI this.1
 cases D with
 |true=>
  have F:dK (eQ q π) (iJ A 0 (λj=>(q,π++[(i,cj t (c+j))]))) w (iJ A 0 (λj=>(q,π++[(i,cj t (c+j))]))) w:=dK.refl _ ay;refine⟨_,H _ Y F ab,aE _ (H _ Y F ab) ab (λr y j tv P J=>?_)⟩;obtain⟨R,u,Q,M,N,I,hA,_⟩:=ad r y j tv P J;exact⟨u,M,N,hA rfl _ _ _ (aF _ F ab Q (λq' p' he=>by simp only[di,eS] at he;exact⟨_,_,he.2.symm,he.1.symm⟩) I)⟩
 |false=>
  have F:dK (eQ q π) (iJ A 0 (λj=>(q,π++[(i,cj t (c+j))]))) w (ki (iJ A 0 (λj=>(q,π++[(i,cj t (c+j))]))) q π) w:=NP ay;have aa:ki (iJ A 0 (λj=>(q,π++[(i,cj t (c+j))]))) q π b=.at q (π++[tg t]):=IM ab;refine⟨_,H _ Y F aa,aE _ (H _ Y F aa) aa (λr y j tv P J=>?_)⟩;obtain⟨R,u,Q,M,N,I,_,hB⟩:=ad r y j tv P J;refine⟨u,M,N,hB rfl _ _ _ ?_⟩;have hz:Rd (Gs.rc C {g with γ:=ki (iJ A 0 (λj=>(q,π++[(i,cj t (c+j))]))) q π} w) none (kh R) u:=I.j8 Q (λb hb=>⟨CG hb,rfl⟩) (λq' p' he b' aH hb=>by
   simp only[di,eS] at he
   obtain⟨rfl,rfl⟩:=he
   exact⟨CH (i:=(r:Int)) (j:=cj t j) (π:=aH) (K6 t j) (by have aQ:iJ A 0 (λj=>(q,π++[(i,cj t (c+j))])) b'=_:=hb;simpa using aQ),rfl⟩);refine aF _ F aa ?_ (λq' p' he=>by simp at he) hz;exact abn Q
end
end
section
def Qi(tv:TV)(q:Rt)(p:dv):Prop:=∃k,((∃j,tv=.ptr k j)\/∃n,tv=.pe k n)/\q=.box k/\p=[]
def KM:∀{p q:Pl},Pl.beq p q=true->p=q
 |.cD k,.cD j,h=>by simp only[Pl.beq] at h;rw[gU h]
 |.cell k c,.cell j u,h=>by
  simp only[Pl.beq] at h;cases e:Nat.beq k j with
  |false=>rw[e] at h;simp at h
  |true=>rw[e,cP] at h;rw[gU e,gU h]
 |.cD _,.cell _ _,h=>by simp[Pl.beq] at h
 |.cD _,.sub _ _ _ _,h=>by simp[Pl.beq] at h
 |.cell _ _,.cD _,h=>by simp[Pl.beq] at h
 |.cell _ _,.sub _ _ _ _,h=>by simp[Pl.beq] at h
 |.sub _ _ _ _,.cD _,h=>by simp[Pl.beq] at h
 |.sub _ _ _ _,.cell _ _,h=>by simp[Pl.beq] at h
 |.sub _ _ _ _,.sub _ _ _ _,h=>by simp[Pl.beq] at h
section
variable{P:Program}{C:Cx}{E:Env}{nt n:Nat}{o:Oper}{s A:TS}{g g1:Gs}{a:Act}{w B:World}{R:Type}{r:R}{K:TS->Option R}{Z:Rt->Prop}{γ1:Nat->G}{tv:TV}{v:Value}{X:Rt->dv->Prop}{nb:Nat->Prop}
def Fm(u:cQ C E A {g with γ:=γ1} B)(j:dK (λq p=>XZ Z q p\/X q p) g.γ w γ1 B)(l:eE nt g a)(x:o.dst=none)(y:(execOp a.eval o).run P w=.ok .skip B)(D:K A=some r):kY P C E nt o g a w K r Z X nb:=by
 refine⟨A,D,λnext Q e=>?_⟩;simp only[Oper.wp,y,Oper.upon];have F:a.put o.dst undef=a:=by rw[x];rfl
 rw[F];exact e _ _ ⟨{g with γ:=γ1},u,l.same rfl,j,λ_ _=>rfl,λ_ _=>rfl⟩
def cQ.OK(h:cQ C E s {g with γ:=γ1} w){k:Nat}{vs:Array Value}{e:TypeId}{fr:Nat×Nat}{off:Nat}{vals:List Value}{u:BC}(N:w.heap[g.bx k]?=some (.cells vs e fr))(I:γ1 (g.bx k)=.at (.box k) [])
  (J:uf (Gs.rc C {g with γ:=γ1} (w.setCells (g.bx k) off vals)) k u):cQ C E ((s.kill (Pl.ig k)).bx k u) {g with γ:=γ1} (w.setCells (g.bx k) off vals)/\dK (λq p=>q=.box k/\p=[]) γ1 w γ1 (w.setCells (g.bx k) off vals):=by
 have x:=wW (kt (g.bx k) vals off w) h.cL.new I;refine⟨(h.kill (Pl.ig k)).nF (g:={g with γ:=γ1}) (g':={g with γ:=γ1}) x (λj=>.inr ⟨rfl,rfl,λp hx=>by simp at hx,λ_ _=>rfl,λp D=>?_,λp D Q hx=>?_⟩) (λj=>?_),x⟩
 ·have y:(gp p).1≠.box k:=λe=>by
    rw[qW] at D
    have:=(tD D).2
    rw[uY.2 e] at this
    simp at this
  have:=λF=>nv (C:=C) (g:={g with γ:=γ1}) (g':={g with γ:=γ1}) x p F (oq x λq M _ hx=>y ((qe M).1 ▸hx.1)) (λ_ _ _=>rfl) (λi hi=>⟨rfl,λhx=>y (by rw[<-hx.1];exact zo.1 hi)⟩);exact⟨(this (((h.kill (Pl.ig k)).fQ j).tR D)).1,λF=>(this F).2⟩
 ·have y:(gp p).1≠.box k:=λe=>by
    have D:=D.mv
    rw[qW] at D
    have:=(tD D).2
    rw[uY.2 e] at this
    simp at this
  exact y hx.1
 ·by_cases H:j=k
  ·subst H
   left
   rcases uP (s.kill (Pl.ig j)) j u with e|e<;>rw[e]
   ·exact J
   ·trivial
  ·exact .inr ⟨uO _ _ H,rfl,λp hx=>H (by simpa using hx.1)⟩
def acB(hC:ga P C)(h:cQ C E s g w)(l:eE nt g a)(hd:o.dst=none){t:Nat}{ad x:Operand}(ho:o.op=.store t ad x)(bI:fD nt ad=true)(hx:fD nt x=true)(hk:Ev.step C o s K=some r):
  kY P C E nt o g a w K r (λq=>ed s x q\/ed s ad q) (Qi (dn C s ad)) nb:=by
 simp only[Ev.step,ho] at hk;obtain⟨bk,hk⟩:=dY.1 hk;obtain⟨b0,bX,_,_,_⟩:=qm (hC.ty t) bk;have F:=iU h l bI;have aw:=iU h l hx;have run:∀{b off:Nat}{c:Array Value}{e:TypeId}{fr:Nat×Nat},a.eval ad=.pointer (some ⟨b,off,none⟩)->(a.eval x).cells.size=(C.dj t).sz->w.heap[b]?=some (.cells c e fr)->vA c.size fr->off+(a.eval x).cells.size<=c.size->(∀u∈(a.eval x).cells.toList,u.oneCell'=true)->
   (execOp a.eval o).run P w=.ok .skip (w.setCells b off (a.eval x).cells.toList):=by
  intro b off c e fr hp hs hh hu aU h1
  have:=run_store (P:=P) (t:=t) (v:=a.eval x) (by omega) (by omega) hh hu aU h1
  simp[execOp,ho,Instr.storeAt,hp,Instr.sureAddr,this]
 have bm:∀p,MV p (dn C s ad)->ed s ad (gp p).1:=λp hp=>vc (λi=>(h.ln i).1) hp;unfold G9 at hk;split at hk
 ·rename_i t' xs ai;rw[ai] at aw;split at hk
  ·rename_i k c I;split at hk
   ·rename_i t2 ys Q;obtain⟨ht,bJ⟩:=dY.1 hk;have ht:=fG ht;clear hk;subst ht;obtain⟨a9,hk⟩:=dY.1 bJ;have a9:=gU a9;obtain⟨_,aj,hk⟩:=fa.1 hk;obtain⟨bn,bo⟩:=(dF _ _).mp (mr.1 aj);have bn:(xs.length:Int)=(C.dj t).sz:=fG bn;have bo:(ys.length:Int)=(C.dj t).sz:=fG bo;rw[I] at F;obtain⟨he,aC⟩:a.eval x=.agg (xs.map (jW t2)).toArray/\Ev.gJ t2=false:=by
     generalize iY x=m at aw;generalize a.eval x=u at aw;cases aw;exact⟨rfl,by assumption⟩
    have hp:a.eval ad=.pointer (some ⟨g.bx k,c,none⟩):=by generalize iY ad=m at F;generalize a.eval ad=u at F;cases F;rfl
    subst a9;have ao:=(h.boxes k);have bK:(iH s x).box k=s.box k:=by cases x<;>simp only[iH]<;>(try split)<;>rfl
    rw[bK] at Q;rw[Q] at ao;obtain⟨vs,e,fr,hh,hu,hg,bY,hl⟩:=ao;have bL:vs.size=ys.length:=by have:=congrArg List.length hl;simpa using this
    have ba:(a.eval x).cells.toList=xs.map (jW t2):=by rw[he];rfl
    have ab:(a.eval x).cells.size=xs.length:=by rw[he];simp[Value.cells]
    have aF:iH s x=s:=by
     cases x with
     |tmp k=>
      simp only[iH]
      simp only[dn] at ai
      split<;>rename_i bb<;>first|rfl|(rw[bb] at ai;simp[nE] at ai)
     |_=>rfl
    rw[aF] at hk;obtain⟨h3,h4⟩:=cQ.OK (u:=.vec t2 xs) (off:=0) (vals:=(a.eval x).cells.toList) (γ1:=g.γ) h hh hg (by
     obtain⟨aG,h5,h6,h7,h8⟩:=(kt (g.bx k) (a.eval x).cells.toList 0 w).this _ _ _ hh
     refine⟨aG,e,fr,h5,by rw[h6];exact hu,hg,aC,?_⟩
     apply Zy
     intro j
     by_cases hj:j<xs.length
     ·have:=h7 j (by simp;omega) (by omega)
      rw[iB] at this
      rw[l7,this,ba]
     ·rw[nI (by simp;omega),nI (by simp;omega)]);refine Fm h3 (h4.mono (λq p hx=>.inr ⟨k,.inl ⟨0,I⟩,hx⟩)) l hd (run hp (by rw[ab];omega) hh hu (by omega) (λu bc=>?_)) hk;rw[ba] at bc;simp only[ik] at bc;obtain⟨y,_,rfl⟩:=bc;obtain⟨_,_,_,_,_,h9⟩:=zL aC false y;exact h9
   ·simp at hk
  ·simp at hk
 ·rename_i q qt i qc t' xs ai;rw[ai] at aw;split at hk
  ·rename_i p t0 i' c I;obtain⟨J,bp⟩:=dY.1 hk;obtain⟨_,aj,bq⟩:=fa.1 bp;clear hk bp;have aj:i=i':=fG (mr.1 aj);subst aj;have br:KF (.pa (.sub q qt i qc) t' xs) (.ep p t0 i c)=true/\Nat.beq (C.dj t).sz 1=true:=by
    cases bs:KF (.pa (.sub q qt i qc) t' xs) (.ep p t0 i c) with
    |false=>rw[bs] at J;simp at J
    |true=>rw[bs,cP] at J;exact⟨rfl,J⟩
   clear J;obtain⟨J,be⟩:=br;have be:=gU be;simp only[KF] at J;cases aV:Pl.beq p q with
   |false=>rw[aV] at J;simp at J
   |true=>
   rw[aV,cP] at J;have bt:=KM aV;clear aV;subst bt;obtain⟨bM,aW⟩:qt=t0/\qc=c:=by
    cases bf:decide (t0=qt) with
    |false=>rw[bf] at J;simp at J
    |true=>
     rw[bf,cP] at J
     exact⟨(fG bf).symm,gU J⟩
   subst bM;subst aW;rw[I] at F;obtain⟨b,off,ae,U,bN,aH,h0,aX,hp⟩:∃b o ae U,VO (g.rc C w) p/\(g.rc C w).va p=some (.slice (some ⟨b,o,none⟩) ae U)/\0<=i/\i<(ae:Int)/\a.eval ad=.pointer (some ⟨b,o+i.toNat*cI qt+qc,none⟩):=by
    generalize iY ad=m at F;generalize a.eval ad=u at F
    cases F;exact⟨_,_,_,_,by assumption,by assumption,by assumption,by assumption,rfl⟩
   obtain⟨bu,u0,aI⟩:Rd (g.rc C w) (some (gp (.sub p qt i qc))) (.own true t' xs) (a.eval x)/\∃u0,(g.rc C w).va (.sub p qt i qc)=some u0:=by
    generalize iY x=m at aw;cases aw;exact⟨by assumption,_,by assumption⟩
   have aF:iH s x=s:=by
    cases x with
    |tmp k=>
     simp only[iH]
     simp only[dn] at ai
     split<;>rename_i bb<;>first|rfl|(rw[bb] at ai;simp[nE] at ai)
    |_=>rfl
   rw[aF] at bq;obtain⟨tv,kv,hf,af,bg⟩:=OJ h p bq;split at hf
   ·rename_i t2 ys;obtain⟨ht,ax⟩:=dY.1 hf;have ht:=fG ht;clear hf;subst ht;obtain⟨y,hy,hf⟩:=fa.1 ax;obtain⟨_,hy⟩:=lQ.1 hy;unfold one? at hf;split at hf
    ·rename_i y' S;rcases af with af|⟨v',aa,aJ,_⟩
     ·simp at af
     rw[aH] at aa;simp only[di] at aa;subst aa;rcases aJ.lT with⟨rfl,_⟩|⟨q,π,b',a5,a6,cs,e,fr,f,hm,ap,hl,aK,hh,hu,hs,hc,hr⟩
     ·simp at hy
     simp only[kH,di,mS,jB] at ap;obtain⟨⟨rfl,rfl⟩,rfl,rfl⟩:=ap;simp only[di] at hm;have hq:∀n,q≠.cE n:=λn e=>jk p n (by rw[hm];exact e);have aY:pD q π:=by have:=wU p;rwa[hm] at this
     have M:=Nk bu rfl;have ab:(a.eval x).cells.toList=[a.eval x]:=by rw[M.2]
     have bO:qc<cI t2:=by
      have ak:va C.vs g.tm g.bx w p=some (.slice (some ⟨b,off,none⟩) ys.length U):=aH
      simp only[Gs.rc,va,ak] at aI
      split at aI
      ·rename_i h9;exact h9.2.2
      ·simp at aI
     ·have aA:dK (eQ q (π++[(i,cj t2 qc)])) g.γ w (dZ g.γ q (π++[(i,cj t2 qc)]) (.cE 0) [(0,0)]) w:=ph h.cL.new;have bv:dZ g.γ q (π++[(i,cj t2 qc)]) (.cE 0) [(0,0)] b=.at q (π++[tg t2]):=wI aK (λ⟨_,t3,h3⟩=>by rw[ke] at h3;have h3:=Mf h3;simp only[ym,lN] at h3;exact GI h3.1);have bw:Rd (Gs.rc C {g with γ:=dZ g.γ q (π++[(i,cj t2 qc)]) (.cE 0) [(0,0)]} w) (some (.cE 0,[(0,0)])) (.own true t' xs) (a.eval x):=by
       have h3:=bu
       simp only[gp,hm] at h3
       exact h3.C8 rfl
      obtain⟨am,h3,h4⟩:=NW (C:=C) (g:=g) (D:=true) (vs:=[.own true t' xs]) (vals:=(a.eval x).cells.toList) (c:=qc) (i:=i) aA.new hq aY h0 hy hl bv hh hu hs hc
       (λr2 z j tv hz hj aq=>by
         have aL:=gj hj
         refine(hr r2 z j tv hz hj).same (λb Q=>aA.im b Q) (λq2 p2 he b2 b4 Q=>?_) (λi hi=>absurd hi (kS aL i)) (λp hp=>absurd hp (gz aL p)) (λp hp=>absurd hp.mv (gz aL p))
         simp only[di,eS] at he
         obtain⟨rfl,rfl⟩:=he
         refine aA.at' b2 _ _ Q λ⟨_,t3,bA⟩=>?_
         simp only[ke] at bA
         have bh:=Mf bA
         simp only[ym,lN,eS,uE] at bh aq
         have b5:=(KG bh.1.2).2
         rcases aq with aq|aq
         ·exact aq bh.1.1.symm
         ·exact aq (by omega)) (by rw[ab];rfl) (by show qc+1<=_;omega) (by simp[dN])
       (λj tv v hj hv=>by
         rw[ab] at hv
         cases j with
         |zero=>simp at hj hv;subst hj;subst hv;exact⟨bw,M.1⟩
         |succ j=>simp at hj) (by
         have:pK (enc true t2 y) qc [.own true t' xs]=ld (enc true t2 y) qc (.own true t' xs):=by
          rw[CE,sf]
          have bP:qc<(enc true t2 y).length:=by rw[iu];exact bO
          rw[List.set_eq_take_append_cons_drop,cM bP]
          simp
         rw[this];exact S) (λ_=>.inr ⟨rfl,by simp[deep,qk]⟩);have aM:dK (XP (gp p).1 (gp p).2) g.γ w am (w.setCells b (off+i.toNat*cI t2+qc) (a.eval x).cells.toList):=by
       rw[hm]
       refine(aA.trans h3).mono (λq' p' hx=>?_)
       rcases hx with⟨au,aD⟩|hx
       ·exact .inl ⟨au,(s5 _ _).trans aD⟩
       ·exact hx
      obtain⟨s',h5,h6,h7⟩:=bg _ am _ hf rfl aM (λv' ak=>by
       rw[aH] at ak
       simp only[di] at ak
       subst ak
       rw[hm];exact h4);refine Fm h6 (aM.mono (λq' p' hx=>.inl ?_)) l hd (run hp (by rw[M.2,be];rfl) hh hu.un (by
       have h9:(i.toNat+1)*cI t2<=U*cI t2:=mT _ (by omega)
       rw[jO,qa] at h9
       rw[M.2];show _+1<=_;omega) (by rw[ab];simpa using M.1)) h5;rcases hx with⟨au,aD⟩|hx
      ·refine⟨.inl (.inr ?_),λan=>?_⟩
       ·rw[au];exact bm p (by rw[I];exact .ep _ _ _)
       ·rw[hm] at au aD;exact pD.Hb aY (λ_=>an) ⟨au,aD⟩
      ·obtain⟨n,hx⟩:=hx;exact⟨.inr ⟨n,hx⟩,λan=>by rw[hx] at an;simp[kW] at an⟩
    ·simp at hf
   ·simp at hf
  ·simp at hk
 ·obtain⟨aB,hk⟩:=dY.1 hk;have aB:=gU aB;rw[xb] at aB;obtain⟨Y,s',γ1,h1,h2,h3,h4,h5,h6,h7,h8⟩:=KL hC h l hx 0 hk;have av:Y.length=(C.dj t).sz:=by rw[h4,aB]
  have ab:(a.eval x).cells.size=(C.dj t).sz:=by rw[<-av,<-h3];simp
  have M:∀u∈(a.eval x).cells.toList,u.oneCell'=true:=λu hu=>by
   obtain⟨j,hj⟩:=qR hu
   have aX:=(eT.1 hj).1
   exact(h6 j _ u (eN (by omega)) hj).2
  split at h1
  ·rename_i k c I;rw[I] at F;have hp:a.eval ad=.pointer (some ⟨g.bx k,c,none⟩):=by generalize iY ad=m at F;generalize a.eval ad=u at F;cases F;rfl
   split at h1
   ·rename_i cs Q;obtain⟨N,h1⟩:=dY.1 h1;have N:=uS.1 N;have ao:=h2.boxes k;rw[Q] at ao;obtain⟨bi,e,fr,hh,hu,hg,hl,hT,hr⟩:=ao;have aZ:=FX (γ:=γ1) (n:=0) (τ:=λj=>(.box k,[(0,c+j)]));have bB:cQ C E s' {g with γ:=iJ γ1 0 (λj=>(.box k,[(0,c+j)]))} w:=h2.qq (g:={g with γ:=γ1}) (aZ.mono (λq hq=>⟨0,hq⟩));have bj:iJ γ1 0 (λj=>(.box k,[(0,c+j)])) (g.bx k)=.at (.box k) []:=J7 hg (by simp);have bC:=wW (kt (g.bx k) (a.eval x).cells.toList c w) bB.cL.new bj;obtain⟨h9,ay⟩:=bB.OK (u:=.cells (pK cs c Y)) (off:=c) (vals:=(a.eval x).cells.toList) hh bj (by
     obtain⟨aG,k1,k2,k3,k4⟩:=(kt (g.bx k) (a.eval x).cells.toList c w).this _ _ _ hh
     refine⟨aG,e,fr,k1,by rw[k2];exact hu,bj,by rw[k2,acA (by rw[av];exact N)];exact hl,λtv aN=>?_,λj tv v hj hv=>?_⟩
     ·rcases TF (by rw[av];exact N) aN with aN|aN
      ·exact rO (h5 tv aN)
      ·exact hT tv aN
     ·have bD:∀{tv v},jQ tv=true->Rd (Gs.rc C {g with γ:=iJ γ1 0 (λj=>(.box k,[(0,c+j)]))} w) (some (.box k,[(0,j)])) tv v->Rd (Gs.rc C {g with γ:=iJ γ1 0 (λj=>(.box k,[(0,c+j)]))} (w.setCells (g.bx k) c (a.eval x).cells.toList)) (some (.box k,[(0,j)])) tv v:=λ{tv v}hp hr=>
        hr.same (λb Q=>bC.im b Q) (λq' p' he b' bQ Q=>bC.at' b' _ _ Q (λhx=>by
         simp only[di,eS] at he
         rw[<-he.2] at hx
         simp at hx)) (λi hi=>absurd hi (EW hp i)) (λp az=>absurd az (rS hp p)) (λp az=>absurd az.mv (rS hp p))
      rcases NV (by rw[av];exact N) hj with⟨m1,m2,m3⟩|⟨m1,m2⟩
      ·have aU:=k3 (j-c) (by omega) (by omega)
       rw[show c+(j-c)=j by omega,hv] at aU
       obtain⟨m4,m5⟩:=h6 _ tv v m3 aU.symm
       have bE:=h5 tv (fh m3)
       refine⟨m5,bD (rO bE) ?_⟩
       have m6:Rd (Gs.rc C {g with γ:=iJ γ1 0 (λj=>(.box k,[(0,c+j)]))} w) (some (.box k,[(0,c+(j-c))])) tv v:=m4.LH (τ:=λj=>(.box k,[(0,c+j)])) bE rfl
       rwa[show c+(j-c)=j by omega] at m6
      ·have ak:bi[j]?=some v:=by rw[<-k4 j (by rw[h3];exact m1)];exact hv
       obtain⟨m4,m5⟩:=hr j tv v m2 ak
       have a0:=hT tv (fh m2)
       refine⟨m4,bD a0 ?_⟩
       exact m5.same (λb Q=>⟨aZ.im b Q,rfl⟩) (λq' p' he b' bQ Q=>⟨aZ.at' b' _ _ Q (λhz=>by
        simp only[di,eS] at he
        rw[<-he.1] at hz;simp at hz),rfl⟩) (λi hi=>absurd hi (EW a0 i)) (λp az=>absurd az (rS a0 p)) (λp az=>absurd az.mv (rS a0 p)));refine Fm h9 ((((h7.gD h.cL.new).trans (aZ.gD h2.cL.new)).trans ay).mono (λq p hx=>?_)) l hd (run hp ab hh hu (by omega) M) h1;rcases hx with(⟨hx,Q⟩|⟨hx,Q⟩)|hx
    ·exact .inl ⟨.inl (.inl hx),Q⟩
    ·exact .inl ⟨.inr ⟨0,hx⟩,Q⟩
    ·exact .inr ⟨k,.inl ⟨c,I⟩,hx⟩
   ·simp at h1
  ·rename_i k i I;rw[I] at F;split at h1
   ·rename_i t2 ys Q;unfold one? at h1;split at h1
    ·rename_i y S;obtain⟨z,hz,h1⟩:=fa.1 h1;obtain⟨h0,hz⟩:=lQ.1 hz;have aX:=(eT.1 hz).1;have hp:a.eval ad=.pointer (some ⟨g.bx k,i.toNat,none⟩):=by generalize iY ad=m at F;generalize a.eval ad=u at F;cases F;rfl
     have ao:=h2.boxes k;rw[Q] at ao;obtain⟨bi,e,fr,hh,hu,hg,aC,hl⟩:=ao;have bL:bi.size=ys.length:=by have:=congrArg List.length hl;simpa using this
     obtain⟨bF,a7,_,_,_,_⟩:=zL aC false y;obtain⟨a1,a2⟩:=(tr false S).get;rw[a7] at a1 a2;have a1:Y.length=1:=a1
     match Y,a1,a2,h5,h6,av,h3 with
     |[bG],_,a2,h5,h6,av,h3=>
      have a8:(a.eval x).cells.toList.length=1:=h3;obtain⟨u0,a3⟩:∃u0,(a.eval x).cells.toList=[u0]:=by
       match aW:(a.eval x).cells.toList,a8 with
       |[u0],_=>exact⟨u0,rfl⟩
      obtain⟨aO,_⟩:=h6 0 bG u0 rfl (by rw[a3];rfl);have bR:u0=jW t2 y:=by
       have aP:=a2 0 bG bF rfl rfl
       have aE:enc false t2 y=[bF]:=a7
       cases t2<;>simp[Ev.gJ] at aC
       ·simp only[enc,lN,jB] at aE;subst aE;rcases aP with rfl|⟨_,_,_,h9⟩
        ·exact aO.pE
        ·simp[sc] at h9
       ·simp only[enc,lN,jB] at aE;subst aE;rcases aP with rfl|⟨_,_,_,h9⟩
        ·exact aO.kz
        ·simp[sc] at h9
       ·simp only[enc,lN,jB] at aE;subst aE;rcases aP with rfl|⟨_,_,_,h9⟩
        ·exact aO.nT
        ·simp[sc] at h9
      obtain⟨h9,ay⟩:=h2.OK (u:=.vec t2 (du ys i y)) (off:=i.toNat) (vals:=(a.eval x).cells.toList) hh hg (by
       obtain⟨aG,k1,k2,k3,k4⟩:=(kt (g.bx k) (a.eval x).cells.toList i.toNat w).this _ _ _ hh
       refine⟨aG,e,fr,k1,by rw[k2];exact hu,hg,aC,?_⟩
       apply Zy
       intro j
       rw[l7,iA]
       by_cases hj:j=i.toNat
       ·subst hj
        have:=k3 0 (by rw[a3];simp) (by omega)
        rw[rI,a3] at this
        rw[this]
        simp only[du]
        rw[HA aX,bR];rfl
       ·rw[k4 j (by rw[a3];simp;omega)]
        simp only[du]
        rw[DI (oY hj),<-l7,hl,iA]);refine Fm h9 (((h7.gD h.cL.new).trans ay).mono (λq p hx=>?_)) l hd (run hp ab hh hu (by rw[<-DJ,a8];omega) M) h1;rcases hx with⟨hx,Q⟩|hx
      ·exact .inl ⟨.inl (.inl hx),Q⟩
      ·exact .inr ⟨k,.inr ⟨i,I⟩,hx⟩
    ·simp at h1
   ·simp at h1
  ·rename_i p t0 i c I;rw[I] at F;obtain⟨b,off,ae,U,bN,aH,h0,aX,hp⟩:∃b o ae U,VO (g.rc C w) p/\(g.rc C w).va p=some (.slice (some ⟨b,o,none⟩) ae U)/\0<=i/\i<(ae:Int)/\a.eval ad=.pointer (some ⟨b,o+i.toNat*cI t0+c,none⟩):=by
    generalize iY ad=m at F;generalize a.eval ad=u at F
    cases F;exact⟨_,_,_,_,by assumption,by assumption,by assumption,by assumption,rfl⟩
   have aQ:(Gs.rc C {g with γ:=γ1} w).va p=some (.slice (some ⟨b,off,none⟩) ae U):=aH;obtain⟨tv,kv,hf,af,bg⟩:=OJ h2 p h1;have done:∀{q:Rt}{π:dv}{am:Nat->G}{cs:Array Value}{e:TypeId}{fr:Nat×Nat}{aR:TV},gp p=(q,π)->kv aR=some r->jQ aR=true->dK (XP q π) γ1 w am (w.setCells b (off+i.toNat*cI t0+c) (a.eval x).cells.toList)->
     Rd (Gs.rc C {g with γ:=am} (w.setCells b (off+i.toNat*cI t0+c) (a.eval x).cells.toList)) (some (q,π)) aR (.slice (some ⟨b,off,none⟩) ae U)->w.heap[b]?=some (.cells cs e fr)->ng t0 cs.size fr->off+U*cI t0<=cs.size->ae<=U->c+(C.dj t).sz<=cI t0->
     kY P C E nt o g a w K r (λq=>ed s x q\/ed s ad q) (Qi (dn C s ad)) nb:=by
    intro q π am cs e fr aR hm bS hT aM bT hh hu hs b7 ba
    have aY:pD q π:=by have:=wU p;rwa[hm] at this
    obtain⟨s2,m1,m2,m3⟩:=bg aR am _ bS hT (by rw[hm];exact aM) (λv' ak=>by
     have aS:(Gs.rc C {g with γ:=γ1} w).va p=some v':=ak
     rw[aQ] at aS
     simp only[di] at aS
     subst aS
     rw[hm];exact bT)
    refine Fm m2 (((h7.gD h.cL.new).trans aM).mono (λq' p' hx=>.inl ?_)) l hd (run hp ab hh hu.un (by
     have h9:(i.toNat+1)*cI t0<=U*cI t0:=mT _ (by omega)
     rw[jO,qa] at h9
     rw[ab];omega) M) m1
    rcases hx with⟨hx,Q⟩|(⟨au,aD⟩|⟨n,hx⟩)
    ·exact⟨.inl (.inl hx),Q⟩
    ·refine⟨.inl (.inr ?_),λan=>pD.Hb aY (λ_=>an) ⟨au,aD⟩⟩;have:=bm p (by rw[I];exact .ep _ _ _);rw[hm] at this;rw[au];exact this
    ·exact⟨.inr ⟨n,hx⟩,λan=>by rw[hx] at an;simp[kW] at an⟩
   split at hf
   ·rename_i d t2 ys;obtain⟨ht,ax⟩:=dY.1 hf;have ht:=fG ht;clear hf;subst ht;obtain⟨y,hy,aT⟩:=fa.1 ax;obtain⟨_,hy⟩:=lQ.1 hy;obtain⟨N,ah⟩:=dY.1 aT;have N:=uS.1 N;rw[iu] at N;clear aT ax;unfold one? at ah;split at ah
    ·rename_i y' S;rcases af with af|⟨v',aa,aJ,_⟩
     ·simp at af
     rw[aQ] at aa;simp only[di] at aa;subst aa;rcases aJ.lT with⟨rfl,_⟩|⟨q,π,b',a5,a6,cs,e,fr,f,hm,ap,hl,aK,hh,hu,hs,hc,hr⟩
     ·simp at hy
     simp only[kH,di,mS,jB] at ap;obtain⟨⟨rfl,rfl⟩,rfl,rfl⟩:=ap;simp only[di] at hm;obtain⟨am,m1,m2⟩:=NW (C:=C) (g:=g) (D:=bif eZ t2 then true else bif deep Y then d else false) (vs:=Y) (vals:=(a.eval x).cells.toList) (c:=c) (i:=i) h2.cL.new (λn e=>jk p n (by rw[hm];exact e)) (by have:=wU p;rwa[hm] at this) h0 hy hl aK hh hu hs hc
      (λr2 z j tv hz hj _=>hr r2 z j tv hz hj) h3 (by rw[av];exact N) h5 h6 S (λhD=>by
        cases bU:eZ t2 with
        |true=>exact .inl rfl
        |false=>
         rw[bU,cR] at hD
         cases a4:deep Y with
         |true=>rw[a4,cP] at hD;exact .inr ⟨hD,rfl⟩
         |false=>rw[a4] at hD;simp at hD);exact done hm ah rfl m1 m2 hh hu hs hl N
    ·simp at ah
   ·rename_i t2 ys r' c';obtain⟨ht,ax⟩:=dY.1 hf;have ht:=fG ht;clear hf;subst ht;obtain⟨_,aj,aT⟩:=fa.1 ax;have aj:r'=i:=fG (mr.1 aj);clear ax;subst aj;obtain⟨y,hy,ah⟩:=fa.1 aT;obtain⟨_,hy⟩:=lQ.1 hy;clear aT;unfold one? at ah;split at ah
    ·rename_i y' S;obtain⟨H,bV⟩:=dY.1 ah;clear ah;have bW:c=c'/\Y.length=1/\deep Y=true:=by
      cases h9:Nat.beq c c' with
      |false=>rw[h9] at H;simp at H
      |true=>
       rw[h9,cP] at H
       cases ay:Nat.beq (qw Y) 1 with
       |false=>rw[ay] at H;simp at H
       |true=>
        rw[ay,cP] at H
        have:=gU ay
        rw[xb] at this
        exact⟨gU h9,this,H⟩
     obtain⟨aW,bZ,a4⟩:=bW;clear H;subst aW;rcases af with af|⟨v',aa,aJ,_⟩
     ·simp at af
     rw[aQ] at aa;simp only[di] at aa;subst aa;obtain⟨q,π,b',a5,a6,cs,e,fr,f,hm,ap,hl,aK,hh,hu,hs,hc,hr⟩:=aJ.Oz;simp only[kH,di,mS,jB] at ap;obtain⟨⟨rfl,rfl⟩,rfl,rfl⟩:=ap;simp only[di] at hm;have N:c+Y.length<=cI t2:=by
      have bH:=(tr false S).get.1
      rw[iu,CE] at bH
      simp only[fg,kI,nn,iu] at bH
      omega
     obtain⟨am,m1,m2⟩:=NW (C:=C) (g:=g) (d:=true) (D:=true) (vs:=Y) (vals:=(a.eval x).cells.toList) (c:=c) (i:=r') h2.cL.new (λn e=>jk p n (by rw[hm];exact e)) (by have:=wU p;rwa[hm] at this) h0 hy hl aK hh hu hs hc
      (λr2 z j tv hz hj aq=>hr r2 z j tv hz hj (by rcases aq with h9|h9;exact .inl h9;exact .inr (by omega))) h3 N h5 h6 S (λ_=>.inr ⟨rfl,a4⟩);exact done hm bV rfl m1 m2 hh hu hs hl (by rw[<-av];exact N)
    ·simp at ah
   ·simp at hf
  ·simp at h1
end
end
section
def abo{tv:TV}(h:PN tv=true):gB tv=true:=by cases tv<;>simp_all [PN,gB]
def OL{tv:TV}{u:Value}(j:∀v,zC tv v=true->v=u):∀{n:Nat}{e:List Value},kr (List.replicate n tv) e=true->e=List.replicate n u
 |0,[],_=>rfl
 |0,_::_,h=>by simp[kr] at h
 |n+1,[],h=>by simp[DK,kr] at h
 |n+1,v::e,h=>by
  simp only[DK,kr,dF] at h;rw[DK,<-OL j h.2,<-j v h.1]
def Xe{t:Ty}(h:Ev.gJ t=false)(x:El t)(v:Value)(u:zC (nth (enc false t x) 0) v=true):v=jW t x:=by
 obtain⟨tv,e,_,_,_,_⟩:=zL h false x;have j:=(Xd (c:=⟨default,λ_=>.fr,λ_=>0,λ_=>none⟩) (m:=none) u).1;rw[e] at j;simp only[nth] at j;cases t<;>simp[Ev.gJ] at h<;>simp only[enc,lN,jB] at e<;>subst e
 ·exact j.pE
 ·exact j.kz
 ·exact j.nT
section
variable{P:Program}{C:Cx}{E:Env}{nt n:Nat}{o:Oper}{s b:TS}{g g1:Gs}{a:Act}{w f:World}{R:Type}{r:R}{K:TS->Option R}{Z:Rt->Prop}{γ1:Nat->G}{tv:TV}{v:Value}{X:Rt->dv->Prop}{nb:Nat->Prop}
def Sy(h:cQ C E s g w)(l:eE nt g a)(M:ij nt o.dst){x:Operand}(Q:o.op=.assign x)(hx:fD nt x=true)(S:∀i,gB (C.gl i)=true)(y:Ev.step C o s K=some r):
  gW P C E nt o g a w K r (λq=>ed s x q/\∃d,o.dst=some d/\C.al d=false):=by
 simp only[Ev.step,Q] at y;have D:=iU h l hx;have A:(execOp a.eval o).run P w=.ok (.value (a.eval x)) w:=by simp[execOp,Q]
 have u:∀{tv},dn C s x=tv->gB tv=true->K (eA C s o.dst tv)=some r->gW P C E nt o g a w K r (λq=>ed s x q/\∃d,o.dst=some d/\C.al d=false):=λ{tv}I N y=>by
  rw[I] at D
  exact kx h l M D N A y
 split at y
 ·exact u (by assumption) rfl y
 ·exact u (by assumption) rfl y
 ·exact u (by assumption) rfl y
 ·exact u (by assumption) rfl y
 ·exact u (by assumption) rfl y
 ·exact u (by assumption) rfl y
 ·exact u (by assumption) rfl y
 ·exact u (by assumption) rfl y
 ·split at y
  ·rename_i d j;cases F:C.al d with
   |true=>
    rw[F,cP] at y;obtain⟨H,J⟩:=dY.1 y;exact u rfl (abo H) (by rw[j] at J⊢;exact J)
   |false=>
    rw[F,cR] at y;have U:qM (g.rc C w) (.cE 0,[]) (dn C s x) (a.eval x):=by
     rcases IN (s:=s) S (x:=x) with⟨Y,I⟩|⟨Y,I⟩|N
     ·rw[I];exact⟨λp t e=>by simp at e,λp t lo hi e=>by simp at e,λe=>by simp[dN] at e⟩
     ·rw[I];exact⟨λp t e=>by simp at e,λp t lo hi e=>by simp at e,λe=>by simp[dN] at e⟩
     ·exact(D.anyM N _).Hc
    obtain⟨aa,s',ab,H,J,h3,h4,h5,h6⟩:=K8 h U y;exact q6 J (h5.mono (λq⟨p,hp,hq⟩=>⟨by rw[<-hq];exact vc (λi=>(h.ln i).1) hp,d,j,F⟩)) h.cL.new l M h3 A (by first|exact H|(rw[j];exact H)|(rw[j] at H;exact H))
  ·rename_i j;refine kx (m:=none) h l M (.un none (a.eval x)) rfl A ?_;rw[j];exact y
def acC(hC:ga P C)(h:cQ C E s g w)(l:eE nt g a)(hd:ij nt o.dst){t:Nat}(ho:o.op=.alloc t)(A:Ev.step C o s K=some r):kY P C E nt o g a w K r Z (λ_ _=>False) (λk=>o.dst=some k):=by
 simp only[Ev.step,ho] at A;split at A
 ·rename_i d Q;split at A
  ·have go:vB P t=true->∀(u:BC),K (((s.gr d).bx d u).put C d (.ptr d 0))=some r->(∀z:Value,z.cells.toList=mA P t->∀e,e=t->(w.alloc (.cells z.cells e)).heap[w.heap.size]?=some (.cells z.cells e (0,0))->uf (Gs.rc C ⟨iI (dZ g.γ (.cE 0) [] (.box d) []) w.heap.size (.at (.box d) []),λk=>if k=d then w.heap.size else g.bx k,g.tm⟩ (w.alloc (.cells z.cells e))) d u)->
      kY P C E nt o g a w K r Z (λ_ _=>False) (λk=>o.dst=some k):=λhz u A hu=>by
     obtain⟨z,aa,x,_⟩:=NR (P:=P) (w:=w) hz
     refine OG (n:=0) (γ1:=g.γ) h (.refl _) h.cL.new l Q hd (wB w z.cells t) (hu z x t rfl (by show(w.heap.push _)[w.heap.size]?=_;simp)) ?_ A
     simp[execOp,ho,Instr.alloc,aa,newVar,newRow]
   have y:=hC.ty t;have M:(if d=d then w.heap.size else g.bx d)=w.heap.size:=cM rfl;split at A
   ·simp at A
   ·rename_i ht;rw[ht] at y;simp only[jq,dF] at y;obtain⟨F,⟨h1,_⟩,h3⟩:=y;have F:=gU F;refine go h1 _ A (λz x e H N=>?_);obtain rfl:e=GJ:=H.trans F;split at h3
    ·rename_i I;rw[I] at x;have ab:z.cells=#[.pointer none,.slice none 0 0]:=by
      apply Array.ext'
      rw[x]
     rw[ab] at N⊢;refine⟨.pointer none,.slice none 0 0,by simp only[Gs.rc,M];exact N,by simp only[Gs.rc,M];exact qj,.inl rfl,?_⟩;exactλ_=>.inl ⟨rfl,rfl⟩
    ·simp at h3
   ·rename_i S e ht;obtain⟨et,hu,aj,h1,_,U,hz⟩:=GK y ht;have J:=(qm y (by rw[ht];rfl)).2.2.2.2;refine go J _ A (λz x e' H N=>?_);refine⟨z.cells,e',(0,0),by simp only[Gs.rc,M];exact N,λj _=>by simp,by simp only[Gs.rc,M];exact qj,U,?_⟩;rw[x,OL (λv hv=>Xe U _ v hv) hz];simp[tZ]
   ·rename_i ad ae af;have D:(C.dj t).var=true:=by
     cases Y:C.dj t<;>first|rfl|exact absurd Y ad|exact absurd Y ae
    have J:=(qm y D).2.2.2.2;have I:=aeg y D (λS e=>af S e);refine go J _ A (λz x e' H N=>?_);obtain⟨h1,h2⟩:=CW (c:=Gs.rc C ⟨iI (dZ g.γ (.cE 0) [] (.box d) []) w.heap.size (.at (.box d) []),λk=>if k=d then w.heap.size else g.bx k,g.tm⟩ (w.alloc (.cells z.cells e'))) (m:=λj=>some (.box d,[(0,j)])) I;refine⟨z.cells,e',(0,0),by simp only[Gs.rc,M];exact N,λj _=>by simp,by simp only[Gs.rc,M];exact qj,by rw[<-h1,<-x];simp,λtv ah=>?_,λj tv v hj hv=>?_⟩
    ·obtain⟨j,hj⟩:=qR ah;have ak:=(eT.1 hj).1;have:=(h2 j tv _ hj (eN (by omega))).2.2;simp[jQ,this]
    ·have ai:(mA P t)[j]?=some v:=by rw[<-x];simpa using hv
     obtain⟨h3,h4,_⟩:=h2 j tv v hj ai;exact⟨h4,h3⟩
  ·simp at A
 ·simp at A
end
end
section
structure lW(c:Rc)(d:Bool)(t:Ty)(ys:List (El t))(news:List Value):Prop where
 len:news.length=ys.length*cI t
 rd:∀(r:Nat)y(j:Nat)tv,ys[r]?=some y->(enc d t y)[j]?=some tv->∃u,news[r*cI t+j]?=some u/\u.oneCell'=true/\Rd c (some (.cE 1,[((r:Int),cj t j)])) tv u
def nh(e:Nat->G)(a:Nat):Nat->G:=λb=>
 match e b with
 |.at (.cE i) ((x,c)::p)=>if i=1 then .at (.cE 0) ((x+a,c)::p) else .at (.cE i) ((x,c)::p)
 |x=>x
def Vc{a:Nat->G}{len b c:Nat}{r:Int}{p:dv}(h:a b=.at (.cE 1) ((r,c)::p)):nh a len b=.at (.cE 0) ((r+len,c)::p):=by simp[nh,h]
def u2{j:Nat->G}{e:Nat}:FK (λq=>q=.cE 1) j (nh j e) where
 im:=λb h=>by simp[nh,h]
 at':=λb q p h y=>by
  have a:q≠.cE 1:=λa=>by have:=y a;simp[kW,a] at this
  unfold nh;rw[h];split
  ·rename_i i x c D u;simp only[G.at.injEq] at u;obtain⟨rfl,rfl⟩:=u;rw[cN (λA=>a (by rw[A]))]
  ·rfl
 fr:=λb h=>by simp[nh,h]
def aem{t:Ty}{olds a:List Value}{n r j:Nat}{u:Value}(e:olds.length=n*cI t)(x:a[r*cI t+j]?=some u):(olds++a)[(n+r)*cI t+j]?=some u:=by
 rw[qb (by rw[e,jO];omega),e,show(n+r)*cI t+j-n*cI t=r*cI t+j by rw[jO];omega];exact x
section
variable{P:Program}{C:Cx}{E:Env}{s:TS}{g:Gs}{w:World}{γ1:Nat->G}
def abp{D:Bool}{t:Ty}{a Y:List (El t)}{olds y:List Value}(Z:olds.length=a.length*cI t)(I:∀(r:Nat)x(j:Nat)A,a[r]?=some x->(enc D t x)[j]?=some A->∃u,olds[r*cI t+j]?=some u/\u.oneCell'=true/\Rd (Gs.rc C {g with γ:=γ1} w) (some (.cE 0,[((r:Int),cj t j)])) A u)
  (J:lW (Gs.rc C {g with γ:=γ1} w) D t Y y):∀(r:Nat)x(j:Nat)A,(a++Y)[r]?=some x->(enc D t x)[j]?=some A->∃u,(olds++y)[r*cI t+j]?=some u/\u.oneCell'=true/\Rd (Gs.rc C {g with γ:=nh γ1 a.length} w) (some (.cE 0,[((r:Int),cj t j)])) A u:=by
 intro r x j A hx H;have e:=gj H;have aa:j<cI t:=by have:=(eT.1 H).1;rwa[iu] at this
 by_cases hr:r<a.length
 ·rw[o7 hr] at hx;obtain⟨u,M,N,Q⟩:=I r x j A hx H;refine⟨u,?_,N,?_⟩
  ·rw[o7 (by rw[Z];have:(r+1)*cI t<=a.length*cI t:=mT _ hr;rw[jO,qa] at this;omega)];exact M
  ·exact Q.ya (g:={g with γ:=γ1}) (by simp[fO,e]) u2 (λq p F=>by simp only[di,eS] at F;rw[<-F.1];simp)
 ·rw[qb (by omega)] at hx;obtain⟨u,M,N,Q⟩:=J.rd (r-a.length) x j A hx H;refine⟨u,?_,N,?_⟩
  ·have:=aem (olds:=olds) Z M;rwa[show a.length+(r-a.length)=r by omega] at this
  ·refine Q.mono _ (λb R=>⟨u2.im b R,rfl⟩) (λq p F=>?_) (λi hi=>absurd hi (kS e i)) (λp S=>absurd S (gz e p)) (λp S=>absurd S.mv (gz e p));simp only[di,eS] at F;obtain⟨rfl,rfl⟩:=F;refine⟨_,_,rfl,λb π R=>⟨?_,rfl⟩⟩;have U:γ1 b=.at (.cE 1) (((((r-a.length:Nat)):Int),cj t j)::π):=by have h9:γ1 b=_:=R;simpa using h9
   have:=Vc (len:=a.length) U;rw[show(((r-a.length:Nat):Int)+(a.length:Nat))=(r:Int) by omega] at this;show nh γ1 a.length b=_;simpa using this
def Fo(h:cQ C E s {g with γ:=γ1} w){D:Bool}{t:Ty}{xs e:List (El t)}{olds a:List Value}{H ty Z tt:TypeId}{i:TypeInfo}{z:Value}{vy:Value}{y:Option Addr}{cap:Nat}(ht:P.underlying tt=some (.slice H))(hi:P.info? H=some i)(hz:i.zero=some z)
  (hs:i.size=cI t)(aa:z.cells.size=cI t)(ho:olds.length=xs.length*cI t)(J:(Builtin.firstCells i.size xs.length (.slice y xs.length cap)).run P w.drew=.ok olds.toArray w.drew)(src:Src P i.size Z vy e.length a w)
  (ab:∀(r:Nat)x(j:Nat)A,xs[r]?=some x->(enc D t x)[j]?=some A->∃u,olds[r*cI t+j]?=some u/\u.oneCell'=true/\Rd (Gs.rc C {g with γ:=γ1} w) (some (.cE 0,[((r:Int),cj t j)])) A u)
  (M:lW (Gs.rc C {g with γ:=γ1} w) D t e a)(hg:cap<xs.length+e.length)(hb:2*(xs.length+e.length)*i.bytes<=2^48)(af:xs.length+e.length<=2^62):
  ∃v w' I,(Builtin.append_ #[tt,Z] ty #[.slice y xs.length cap,vy]).run P w=.ok v w'/\cQ C E s {g with γ:=I} w'/\Rd (Gs.rc C {g with γ:=I} w') (some (.cE 0,[])) (.own D t (xs++e)) v/\dK (λq _=>∃n,q=.cE n) γ1 w I w':=by
 have N:Builtin.nextslicecap (xs.length+e.length) cap*i.bytes<=281474976710656:=growslice_fits hg (by rw[Nat.mul_assoc] at hb;omega);have Q:=run_append_grow_src (P:=P) w tt Z ty H i z ht hi hz y xs.length cap olds J vy e.length a src hg (by omega) N;have ad:=Zs w (xs.length+e.length) cap H;have R:cQ C E s {g with γ:=nh γ1 xs.length} w:=h.qq (g:={g with γ:=γ1}) (u2.mono (λq hq=>⟨1,hq⟩));have F:∀(r:Nat)x(j:Nat)A,(xs++e)[r]?=some x->(enc D t x)[j]?=some A->∃u,((olds++a).toArray++Builtin.zeroCells z.cells (grownCap w (xs.length+e.length) cap H-(xs.length+e.length)))[r*cI t+j]?=some u/\u.oneCell'=true/\Rd (Gs.rc C {g with γ:=nh γ1 xs.length} w) (some (.cE 0,[((r:Int),cj t j)])) A u:=λr x j A hx S=>by
  obtain⟨u,U,Y,h3⟩:=abp ho ab M r x j A hx S
  refine⟨u,?_,Y,h3⟩
  have ae:=(eT.1 U).1
  rw[QH (by simpa using ae)]
  simpa using U
 obtain⟨U,Y,h3⟩:=J6 (n:=0) (d:=D) (t:=t) (xs:=xs++e) (cap:=grownCap w (xs.length+e.length) cap H) R (abj w ((olds++a).toArray++Builtin.zeroCells z.cells (grownCap w (xs.length+e.length) cap H-(xs.length+e.length))) H)
  (λr j=>((olds++a).toArray++Builtin.zeroCells z.cells (grownCap w (xs.length+e.length) cap H-(xs.length+e.length)))[r*cI t+j]?.getD undef) (by simpa using ad) (by
    rw[QF,size_zeroCells,aa]
    simp only[Mj,fg,ho,M.len]
    rw[<-jO,<-jO]
    exact mT _ (by omega))
  (λr x j A hx S=>by obtain⟨u,k1,k2,_⟩:=F r x j A hx S;rw[k1];exact⟨rfl,k2⟩)
  (λr x j A hx S=>by obtain⟨u,k1,_,k3⟩:=F r x j A hx S;rw[k1];exact k3);rw[fg] at Y;refine⟨_,_,_,Q,U,Y,((u2.gD h.cL.new).trans h3).mono (λq p hx=>?_)⟩;rcases hx with⟨hx,_⟩|hx
 ·exact⟨1,hx⟩
 ·exact hx.elim
def acD(h:cQ C E s {g with γ:=γ1} w){D:Bool}{t:Ty}{a S:List (El t)}{A:List Value}{et ty tx tt:TypeId}{i:TypeInfo}{vy:Value}{b y H:Nat}{cs:Array Value}{e:TypeId}{fr:Nat×Nat}{f:Nat->Nat->Value}(ht:P.underlying tt=some (.slice et))(hi:P.info? et=some i)
  (hs:i.size=cI t)(src:Src P i.size tx vy S.length A w)
  (hl:a.length<=H)(am:γ1 b=.at (.cE 0) [tg t])(hh:w.heap[b]?=some (.cells cs e fr))(hu:ng t cs.size fr)(an:y+H*cI t<=cs.size)
  (hc:∀(r:Nat)x(j:Nat)I,a[r]?=some x->(enc D t x)[j]?=some I->eK w b (y+r*cI t+j)=some (f r j)/\(f r j).oneCell'=true)
  (hr:∀(r:Nat)x(j:Nat)I,a[r]?=some x->(enc D t x)[j]?=some I->Rd (Gs.rc C {g with γ:=γ1} w) (some (.cE 0,[((r:Int),cj t j)])) I (f r j))
  (ah:lW (Gs.rc C {g with γ:=γ1} w) D t S A)(J:a.length+S.length<=H):
  ∃v w' ab,(Builtin.append_ #[tt,tx] ty #[.slice (some ⟨b,y,none⟩) a.length H,vy]).run P w=.ok v w'/\cQ C E s {g with γ:=ab} w'/\Rd (Gs.rc C {g with γ:=ab} w') (some (.cE 0,[])) (.own D t (a++S)) v/\dK (λq _=>∃n,q=.cE n) γ1 w ab w':=by
 have ai:(a.length+S.length)*cI t<=H*cI t:=mT _ J;rw[jO] at ai;have M:∀k,w.cell? ⟨b,k,none⟩=cs[k]?:=λk=>by simp[World.cell?,hh]
 have ao:∀k,k<cs.size->w.frozen? ⟨b,k,none⟩=false:=λk hk=>by
  have:=hu k hk
  simp only[World.frozen?,hh]
  simp only[Zx,lA]
  by_cases h1:fr.1<=k
  ·exact .inr (λh2=>this ⟨h1,h2⟩)
  ·exact .inl h1
 have aw:=ah.len;have U:=run_append_room_src (P:=P) w tt tx ty et i ht hi b y a.length H vy S.length A src J (λj N=>by rw[M,hs];rw[jN (by omega)];rfl) (λj N=>ao _ (by rw[hs];omega));rw[hs] at U;have pk:=kt b A (y+a.length*cI t) w;obtain⟨R,k1,k2,k3,k4⟩:=pk.this _ _ _ hh;have Y:cQ C E s {g with γ:=nh γ1 a.length} w:=h.qq (g:={g with γ:=γ1}) (u2.mono (λq hq=>⟨1,hq⟩));have aj:nh γ1 a.length b=.at (.cE 0) [tg t]:=u2.at' b _ _ am (λh=>by simp at h);have ad:=wW pk Y.cL.new aj;have Z:dK (λq _=>∃n,q=Rt.cE n) (nh γ1 a.length) w (nh γ1 a.length) (w.setCells b (y+a.length*cI t) A):=ad.mono (λq p hx=>⟨0,hx.1⟩);have ae:=Y.grow Z (λq p hx=>hx);refine⟨_,_,nh γ1 a.length,U,ae,?_,((u2.gD h.cL.new).trans Z).mono (λq p hx=>by rcases hx with⟨hx,_⟩|hx;exact⟨1,hx⟩;exact hx)⟩;have Q:∀(r:Nat)x(j:Nat)I,(a++S)[r]?=some x->(enc D t x)[j]?=some I->∃u,R[y+r*cI t+j]?=some u/\u.oneCell'=true/\Rd (Gs.rc C {g with γ:=nh γ1 a.length} w) (some (.cE 0,[((r:Int),cj t j)])) I u:=λr x j I hx N=>by
  have F:=gj N
  have ax:j<cI t:=by have:=(eT.1 N).1;rwa[iu] at this
  by_cases ak:r<a.length
  ·rw[o7 ak] at hx;obtain⟨m1,m2⟩:=hc r x j I hx N;have ap:(r+1)*cI t<=a.length*cI t:=mT _ ak;rw[jO,qa] at ap;refine⟨f r j,?_,m2,?_⟩
   ·rw[k4 _ (by omega)];have:eK w b (y+r*cI t+j)=cs[y+r*cI t+j]?:=M _;rw[<-this];exact m1
   ·exact(hr r x j I hx N).ya (g:={g with γ:=γ1}) (by simp[fO,F]) u2 (λq p he=>by simp only[di,eS] at he;rw[<-he.1];simp)
  ·rw[qb (by omega)] at hx;have ay:=(eT.1 hx).1;obtain⟨u,h1,h2,h3⟩:=ah.rd (r-a.length) x j I hx N;have aq:=(eT.1 h1).1;refine⟨u,?_,h2,?_⟩
   ·have:=k3 ((r-a.length)*cI t+j) aq (by omega);rw[show y+a.length*cI t+((r-a.length)*cI t+j)=y+r*cI t+j by
     have:r*cI t=a.length*cI t+(r-a.length)*cI t:=by rw[<-jO];congr 1;omega
     omega] at this;rw[this];exact h1
   ·refine h3.mono _ (λb hb=>⟨u2.im b hb,rfl⟩) (λq p he=>?_) (λi hi=>absurd hi (kS F i)) (λp hp=>absurd hp (gz F p)) (λp hp=>absurd hp.mv (gz F p));simp only[di,eS] at he;obtain⟨rfl,rfl⟩:=he;refine⟨_,_,rfl,λb π hb=>⟨?_,rfl⟩⟩;have au:γ1 b=.at (.cE 1) (((((r-a.length:Nat)):Int),cj t j)::π):=by have h9:γ1 b=_:=hb;simpa using h9
    have:=Vc (len:=a.length) au;rw[show(((r-a.length:Nat):Int)+(a.length:Nat))=(r:Int) by omega] at this;show nh γ1 a.length b=_;simpa using this
 have aa:=Rd.kE (c:=Gs.rc C {g with γ:=nh γ1 a.length} (w.setCells b (y+a.length*cI t) A)) (.cE 0) [] D t (a++S) b y H R e fr (λr j=>R[y+r*cI t+j]?.getD undef) (by simpa using J) aj k1 (by rw[k2];exact hu) (by rw[k2];exact an)
  (λr x j I hx N=>by
    obtain⟨u,m1,m2,_⟩:=Q r x j I hx N
    have av:(w.setCells b (y+a.length*cI t) A).heap[b]?=some (.cells R e fr):=k1
    exact⟨by simp[eK,World.cell?,Gs.rc,av,m1],by simp[m1,m2]⟩)
  (λr x j I hx N=>by
    obtain⟨u,m1,_,m3⟩:=Q r x j I hx N
    rw[m1]
    have F:=gj N
    refine m3.same (λb hb=>ad.im b hb) (λq' p' he b' az hb=>ad.at' b' _ _ hb (λhx=>?_)) (λi hi=>absurd hi (kS F i)) (λp af=>absurd af (gz F p)) (λp af=>absurd af.mv (gz F p))
    simp only[di,eS] at he
    rw[<-he.2] at hx
    have:=hx.2
    simp only[iC,ym,lN] at this
    exact GI this.1);rw[fg] at aa;exact aa
end
end
section
def nK{R:Type}{r:R}{t j:Ty}{u:List (El t)}{K:List (El j)->Option R}(h:castLT t j u K=some r):∃e:t=j,K (j2 e u)=some r:=by
 unfold castLT at h;split at h
 ·rename_i e;exact⟨e,h⟩
 ·simp at h
def Pr(t:Ty)(x:El t):enc (eZ t) t x=enc false t x:=by
 cases e:eZ t with
 |true=>exact ns e true false x
 |false=>rfl
section
variable{P:Program}{C:Cx}{E:Env}{nt n:Nat}{o:Oper}{s A:TS}{g g1:Gs}{a:Act}{w B:World}{R:Type}{r:R}{γ1:Nat->G}{tv:TV}{v:Value}
def J8{c:Rc}{d:Bool}{t:Ty}{ys:List (El t)}{b off:Nat}{f:Nat->Nat->Value}(J:∀(r:Nat)y(j:Nat)tv,ys[r]?=some y->(enc d t y)[j]?=some tv->eK w b (off+r*cI t+j)=some (f r j)/\(f r j).oneCell'=true)
  (M:∀(r:Nat)y(j:Nat)tv,ys[r]?=some y->(enc d t y)[j]?=some tv->Rd c (some (.cE 1,[((r:Int),cj t j)])) tv (f r j)):
  ∃news:List Value,(∀k u,news[k]?=some u->eK w b (off+k)=some u)/\(∀u∈news,u.oneCell'=true)/\lW c d t ys news:=by
 have S:=JY t;have N:∀r j,r<ys.length->j<cI t->((List.range (ys.length*cI t)).map λk=>f (k/cI t) (k % cI t))[r*cI t+j]?=some (f r j):=λr j M I=>by
  have x:r*cI t+j<ys.length*cI t:=by
   have:(r+1)*cI t<=ys.length*cI t:=mT _ M
   rw[jO,qa] at this
   omega
  rw[iA,Az x]
  have F:(r*cI t+j)/cI t=r:=by rw[vY,aja _ _ S,QI I,iB]
  have H:(r*cI t+j) % cI t=j:=by rw[vY,Zo];exact AA I
  simp[F,H]
 have D:∀k u,((List.range (ys.length*cI t)).map λk=>f (k/cI t) (k % cI t))[k]?=some u->∃r j,r<ys.length/\j<cI t/\k=r*cI t+j/\u=f r j:=λk u e=>by
  rw[iA] at e
  have x:k<ys.length*cI t:=by
   rcases yn k (ys.length*cI t) with h|h
   ·exact h
   ·rw[nI (by simpa using h)] at e;simp at e
  rw[Az x] at e;simp only[jx,di] at e;exact⟨k/cI t,k % cI t,QJ (by rw[v7];exact x),Mk _ S,by rw[v7];exact(QK k (cI t)).symm,e.symm⟩
 refine⟨(List.range (ys.length*cI t)).map λk=>f (k/cI t) (k % cI t),λk u e=>?_,λu U=>?_,⟨by simp,λr y j tv Q I=>?_⟩⟩
 ·obtain⟨r,j,F,H,rfl,rfl⟩:=D k u e;have:=(J r ys[r] j _ (eN F) (eN (by rw[iu];exact H))).1;rw[<-o6];exact this
 ·obtain⟨k,e⟩:=qR U;obtain⟨r,j,F,H,_,rfl⟩:=D k u e;exact(J r ys[r] j _ (eN F) (eN (by rw[iu];exact H))).2
 ·have F:=(eT.1 Q).1;have H:j<cI t:=by have:=(eT.1 I).1;rwa[iu] at this
  exact⟨f r j,N r j F H,(J r y j tv Q I).2,M r y j tv Q I⟩
def IS{sz:Nat}{D:TypeId}(F:(∃M,P.underlying D=some (.slice M))\/P.underlying D=some .string){b x cap n:Nat}{e:List Value}(H:e.length=n*sz)(J:∀k u,e[k]?=some u->eK w b (x+k)=some u)(N:∀u∈e,u.oneCell'=true):
  Src P sz D (.slice (some ⟨b,x,none⟩) n cap) n e w:=by
 have y:∀j,(⟨b,x,none⟩:Addr).add j=⟨b,x+j,none⟩:=λj=>by unfold Addr.add;split<;>simp_all
 exact⟨F,λ_=>rfl,run_firstCells_some w sz n ⟨b,x,none⟩ n cap e H (λj v I=>by rw[y];exact J j v I),run_firstCells_some w.drew sz n ⟨b,x,none⟩ n cap e H (λj v I=>by rw[y];exact J j v I),H,N⟩
def CJ{j:Nat}{x:TypeId}(u:(∃D,P.underlying x=some (.slice D))\/P.underlying x=some .string){va:Option Addr}{e:Nat}:Src P j x (.slice va 0 e) 0 [] w:=by
 cases va with
 |none=>exact⟨u,λ_=>rfl,run_firstCells_none w j 0 0 e,run_firstCells_none w.drew j 0 0 e,by simp,λ_ h=>by cases h⟩
 |some y=>exact⟨u,λ_=>rfl,run_firstCells_some w j 0 y 0 e [] (by simp) (by simp),run_firstCells_some w.drew j 0 y 0 e [] (by simp) (by simp),by simp,λ_ h=>by cases h⟩
def lW.nil{c:Rc}{d:Bool}{t:Ty}:lW c d t ([]:List (El t)) []:=⟨by simp,λr y j tv e=>by simp at e⟩
def aen(h:cQ C E s g w)(l:eE nt g a)(hg:∀i,gB (C.gl i)=true){y:Operand}(hy:fD nt y=true){t:Ty}{tx:TypeId}(N:(∃e',P.underlying tx=some (.slice e'))\/P.underlying tx=some .string){K:Bool->List (El t)->TS->Option R}(D:mF C t (dn C s y) s K=some r):
  ∃d ys S γ' F,K d ys S=some r/\cQ C E S {g with γ:=γ'} w/\Src P (cI t) tx (a.eval y) ys.length F w/\lW (Gs.rc C {g with γ:=γ'} w) d t ys F/\FK (ed s y) g.γ γ'/\fo S s:=by
 have Q:=iU h l hy;have ab:∀{d}{ys:List (El t)}{u:Value}{S γ'},u=a.eval y->cQ C E S {g with γ:=γ'} w->(∃m,Rd (Gs.rc C {g with γ:=γ'} w) m (.eb t ys) u)->d=eZ t\/d=false->FK (ed s y) g.γ γ'->fo S s->K d ys S=some r->
   ∃d ys S γ' F,K d ys S=some r/\cQ C E S {g with γ:=γ'} w/\Src P (cI t) tx (a.eval y) ys.length F w/\lW (Gs.rc C {g with γ:=γ'} w) d t ys F/\FK (ed s y) g.γ γ'/\fo S s:=by
  intro d ys u S γ' hu af ⟨m,hr⟩ hd hf aq D
  have au:∀y:El t,enc d t y=enc false t y:=λy=>by
   rcases hd with rfl|rfl
   ·exact Pr t y
   ·rfl
  rcases hr.qZ with⟨rfl,va,cap,H⟩|⟨b,off,cap,f,H,M,ah,hc,Z⟩
  ·exact⟨d,[],S,γ',[],D,af,by rw[<-hu,H];exact CJ N,.nil,hf,aq⟩
  ·obtain⟨F,h1,h2,h3⟩:=J8 (c:=Gs.rc C {g with γ:=γ'} w) (w:=w) (d:=d) (b:=b) (off:=off) (ys:=ys) (f:=f) (λr y j tv hy Y=>hc r y j tv hy (by rwa[au] at Y)) (λr y j tv hy Y=>(Z r y j tv hy (by rwa[au] at Y)).lift _);exact⟨d,ys,S,γ',F,D,af,by rw[<-hu,H];exact IS N h3.len h1 h2,h3,hf,aq⟩
 have aB:eZ t=true->∀{d}{ys:List (El t)}{u:Value}{m},u=a.eval y->Rd (g.rc C w) m (.own d t ys) u->K true ys s=some r->∃d ys S γ' F,K d ys S=some r/\cQ C E S {g with γ:=γ'} w/\Src P (cI t) tx (a.eval y) ys.length F w/\lW (Gs.rc C {g with γ:=γ'} w) d t ys F/\FK (ed s y) g.γ γ'/\fo S s:=by
  intro I d ys u m hu hr D
  rcases hr.lT with⟨rfl,va,H⟩|⟨q,p,b,off,cap,cs,e,fr,f,hm,H,M,ah,hh,av,hs,hc,Z⟩
  ·exact⟨true,[],s,g.γ,[],D,h,by rw[<-hu,H];exact CJ N,.nil,.refl _,.refl _⟩
  ·obtain⟨F,h1,h2,h3⟩:=J8 (c:=g.rc C w) (w:=w) (d:=true) (b:=b) (off:=off) (ys:=ys) (f:=f) (λr y j tv hy Y=>hc r y j tv hy (by rwa[ns I true d] at Y)) (λr y j tv hy Y=>(Z r y j tv hy (by rwa[ns I true d] at Y)).any (gj Y) (sg (x:=y) (j:=j) (by rwa[ns I true false] at Y)) _);exact⟨true,ys,s,g.γ,F,D,h,by rw[<-hu,H];exact IS N h3.len h1 h2,h3,.refl _,.refl _⟩
 unfold mF at D;split at D
 ·rename_i t' ys J;obtain⟨e,D⟩:=nK D;subst e;rw[J] at Q;exact ab rfl h ⟨_,Q⟩ (.inl rfl) (.refl _) (.refl _) D
 ·rename_i t' ys J;obtain⟨e,D⟩:=nK D;subst e;rw[J] at Q;exact ab rfl h ⟨_,Q.zG⟩ (.inl rfl) (.refl _) (.refl _) D
 ·rename_i J;rw[J] at Q;have he:a.eval y=.slice none 0 0:=by generalize iY y=m at Q;generalize a.eval y=u at Q;cases Q;rfl
  exact⟨true,[],s,g.γ,[],D,h,by rw[he];exact CJ N,.nil,.refl _,.refl _⟩
 ·rename_i J;rw[J] at Q;obtain⟨va,he⟩:∃va,a.eval y=.slice va 0 0:=by generalize iY y=m at Q;generalize a.eval y=u at Q;cases Q;exact⟨_,rfl⟩
  exact⟨true,[],s,g.γ,[],D,h,by rw[he];exact CJ N,.nil,.refl _,.refl _⟩
 ·rename_i b J;obtain⟨e,D⟩:=nK D;subst e;rw[J] at Q;have he:=Q.nT;have aw:(j2 rfl (show List (El (.int .u8)) from dL b)).length=(ByteArray.mk ⟨b⟩).size:=by show(dL b).length=_;simp[dL];rfl
  refine⟨true,_,s,g.γ,byteCells ⟨⟨b⟩⟩,D,h,?_,⟨?_,?_⟩,.refl _,.refl _⟩
  ·rw[he,aw];exact⟨N,λ_=>rfl,firstCells_string ⟨⟨b⟩⟩ w,firstCells_string ⟨⟨b⟩⟩ w.drew,by rw[byteCells_length];simp[cI],λu hu=>by
    obtain⟨_,_,rfl⟩:=ik.1 hu
    rfl⟩
  ·rw[aw,byteCells_length];simp[cI]
  ·intro r z j tv hz Y;have ae:(b.map λc=>(c.toNat:Int))[r]?=some (show Int from z):=hz;rw[iA] at ae;obtain⟨c,hc,ae⟩:=yj.1 ae;cases j with
   |zero=>
    simp[enc] at Y;subst Y;refine⟨.int .u8 (show Int from z),?_,rfl,.i _ _ _⟩;rw[show r*cI (.int .u8)+0=r by simp[cI]];simp only[byteCells,iA];rw[hc];simp[<-ae]
   |succ j=>simp[enc] at Y
 ·rename_i p t0 J;rw[J] at Q;have ai:(g.rc C w).va p=some (a.eval y):=by generalize iY y=m at Q;cases Q;assumption
  cases I:eZ t with
  |true=>
   rw[I,cP] at D;obtain⟨tv,aj,D⟩:=py D;have M:=qi h ai aj;split at D
   ·obtain⟨e,D⟩:=nK D;subst e;rcases M with M|M
    ·simp at M
    exact aB I rfl M D
   ·obtain⟨e,D⟩:=nK D;subst e;rcases M with M|M
    ·simp at M
    exact ab rfl h ⟨_,M⟩ (.inl I.symm) (.refl _) (.refl _) D
   ·simp at D
  |false=>
   rw[I,cR] at D;have hF:qM (g.rc C w) (.cE 1,[]) (dn C s y) (a.eval y):=by rw[J];exact(Q.anyM rfl _).Hc
   obtain⟨aC,S,γ',h1,h2,h3,h4,h5,h6⟩:=K8 h hF D;have ad:FK (ed s y) g.γ γ':=h5.mono (λq⟨p',hp,hq⟩=>by rw[<-hq];exact vc (λi=>(h.ln i).1) hp);split at h1
   ·rename_i d t' ys;obtain⟨e,h1⟩:=nK h1;subst e;rcases h3.lT with⟨rfl,va,H⟩|⟨q,π,b,off,cap,cs,e,fr,f,hm,H,M,ah,hh,av,hs,hc,Z⟩
    ·exact⟨d,[],S,γ',[],h1,h2,by rw[H];exact CJ N,.nil,ad,h6⟩
    ·simp only[di,eS] at hm;obtain⟨rfl,rfl⟩:=hm;obtain⟨F,k1,k2,k3⟩:=J8 (c:=Gs.rc C {g with γ:=γ'} w) (w:=w) (d:=d) (b:=b) (off:=off) (ys:=ys) (f:=f) hc Z;exact⟨d,ys,S,γ',F,h1,h2,by rw[H];exact IS N k3.len k1 k2,k3,ad,h6⟩
   ·obtain⟨e,h1⟩:=nK h1;subst e;exact ab rfl h2 ⟨_,h3⟩ (.inr rfl) ad h6 h1
   ·simp at h1
 ·rename_i p t0 lo hi J;rw[J] at Q;obtain⟨aa,ak,cap,a',U,aF,ai,am,h2,h3,h4,h5,h6,h7⟩:∃aa ak cap a' U,VO (g.rc C w) p/\(g.rc C w).va p=some (.slice aa ak cap)/\a.eval y=.slice a' (hi.toNat-lo.toNat) U/\0<=lo/\lo<=hi/\hi<=(ak:Int)/\
    (U=0\/∃b o,aa=some ⟨b,o,none⟩/\a'=some ⟨b,o+lo.toNat*cI t0,none⟩)/\hi.toNat-lo.toNat<=U/\U+lo.toNat<=cap:=by
   generalize iY y=m at Q
   generalize a.eval y=u at Q
   cases Q;exact⟨_,_,_,_,_,by assumption,by assumption,rfl,by assumption,by assumption,by assumption,by assumption,by assumption,by assumption⟩
  cases I:eZ t with
  |true=>
   rw[I,cP] at D;obtain⟨tv,aj,D⟩:=py D;have M:=qi h ai aj;split at D
   ·rename_i d t' ys;obtain⟨ht,an⟩:=dY.1 D;have ht:=fG ht;clear D;subst ht;obtain⟨zs,ao,D⟩:=fa.1 an;obtain⟨⟨_,_,h9⟩,rfl⟩:=tj.1 ao;obtain⟨e,D⟩:=nK D;subst e;rcases M with M|M
    ·simp at M
    have ap:((ys.drop lo.toNat).take (hi.toNat-lo.toNat)).length=hi.toNat-lo.toNat:=by simp;omega
    by_cases ax:hi.toNat-lo.toNat=0
    ·have ay:(ys.drop lo.toNat).take (hi.toNat-lo.toNat)=[]:=by rw[ax];rfl
     refine⟨true,_,s,g.γ,[],D,h,?_,?_,.refl _,.refl _⟩
     ·show Src P _ tx _ ((ys.drop lo.toNat).take (hi.toNat-lo.toNat)).length [] w;rw[ap,am,ax];exact CJ N
     ·show lW _ true t' ((ys.drop lo.toNat).take (hi.toNat-lo.toNat)) [];rw[ay];exact .nil
    ·rcases h5 with h5|⟨b,off,rfl,rfl⟩
     ·omega
     rcases M.lT with⟨rfl,va,H⟩|⟨q,π,b',aD,aE,cs,e,fr,f,hm,H,aG,ah,hh,av,hs,hc,Z⟩
     ·simp at h9;omega
     simp only[kH,di,mS,jB] at H;obtain⟨⟨rfl,rfl⟩,rfl,rfl⟩:=H;have az:∀(r:Nat)(x:El t'),((ys.drop lo.toNat).take (hi.toNat-lo.toNat))[r]?=some x->ys[lo.toNat+r]?=some x:=λr x hx=>by
      rw[o5] at hx
      split at hx
      ·rwa[vW] at hx
      ·simp at hx
     obtain⟨F,k1,k2,k3⟩:=J8 (c:=g.rc C w) (w:=w) (d:=true) (b:=b) (off:=off+lo.toNat*cI t') (ys:=(ys.drop lo.toNat).take (hi.toNat-lo.toNat)) (f:=λr j=>f (lo.toNat+r) j)
      (λr y j tv hy Y=>by
        have:=hc _ y j tv (az r y hy) (by rwa[ns I true d] at Y)
        rw[jO] at this
        rw[show off+lo.toNat*cI t'+r*cI t'+j=off+(lo.toNat*cI t'+r*cI t')+j by omega]
        exact this)
      (λr y j tv hy Y=>(Z _ y j tv (az r y hy) (by rwa[ns I true d] at Y)).any (gj Y) (sg (x:=y) (j:=j) (by rwa[ns I true false] at Y)) _);refine⟨true,_,s,g.γ,F,D,h,?_,k3,.refl _,.refl _⟩;have aA:=IS (P:=P) (w:=w) (sz:=cI t') (cap:=U) N k3.len k1 k2;rw[ap] at aA;show Src P _ tx _ ((ys.drop lo.toNat).take (hi.toNat-lo.toNat)).length F w;rw[am,ap];exact aA
   ·rename_i t' ys;obtain⟨ht,an⟩:=dY.1 D;have ht:=fG ht;clear D;subst ht;obtain⟨zs,ao,D⟩:=fa.1 an;obtain⟨⟨_,_,h9⟩,rfl⟩:=tj.1 ao;obtain⟨e,D⟩:=nK D;subst e;rcases M with M|M
    ·simp at M
    exact ab am.symm h ⟨none,Rd.FW M h2 h3 h9 h5 h6⟩ (.inl I.symm) (.refl _) (.refl _) D
   ·simp at D
  |false=>
   rw[I,cR] at D;have hF:qM (g.rc C w) (.cE 1,[]) (dn C s y) (a.eval y):=by rw[J];exact(Q.anyM rfl _).Hc
   obtain⟨aC,S,γ',k1,k2,k3,k4,k5,k6⟩:=K8 h hF D;have ad:FK (ed s y) g.γ γ':=k5.mono (λq⟨p',hp,hq⟩=>by rw[<-hq];exact vc (λi=>(h.ln i).1) hp);split at k1
   ·obtain⟨e,k1⟩:=nK k1;subst e;exact ab rfl k2 ⟨_,k3⟩ (.inr rfl) ad k6 k1
   ·simp at k1
 ·simp at D
end
end
section
def aaH{t:Ty}(n:Nat)(f:Nat->Nat->Value):∃e:List Value,e.length=n*cI t/\(∀r j,r<n->j<cI t->e[r*cI t+j]?=some (f r j))/\∀k u,e[k]?=some u->∃r j,r<n/\j<cI t/\k=r*cI t+j/\u=f r j:=by
 have A:=JY t;refine⟨(List.range (n*cI t)).map λk=>f (k/cI t) (k % cI t),by simp,λr j F D=>?_,λk u y=>?_⟩
 ·have x:r*cI t+j<n*cI t:=by
    have:(r+1)*cI t<=n*cI t:=mT _ F
    rw[jO,qa] at this
    omega
  rw[iA,Az x];have H:(r*cI t+j)/cI t=r:=by rw[vY,aja _ _ A,QI D,iB]
  have I:(r*cI t+j) % cI t=j:=by rw[vY,Zo];exact AA D
  simp[H,I]
 ·rw[iA] at y;have x:k<n*cI t:=by
   rcases yn k (n*cI t) with h|h
   ·exact h
   ·rw[nI (by simpa using h)] at y;simp at y
  rw[Az x] at y;simp only[jx,di] at y;exact⟨k/cI t,k % cI t,QJ (by rw[v7];exact x),Mk _ A,by rw[v7];exact(QK k (cI t)).symm,y.symm⟩
section
variable{P:Program}{C:Cx}{E:Env}{nt n:Nat}{o:Oper}{s l:TS}{g g1:Gs}{a:Act}{w m:World}{R:Type}{r:R}{γ1:Nat->G}{tv:TV}{v:Value}
def OM{t:Ty}{A:List (El t)}{D:Bool}{b y cap:Nat}{f:Nat->Nat->Value}{M:Nat->Nat->Option Gp}{c:Rc}(N:∀(r:Nat)x(j:Nat)tv,A[r]?=some x->(enc D t x)[j]?=some tv->eK w b (y+r*cI t+j)=some (f r j)/\(f r j).oneCell'=true)
  (S:∀(r:Nat)x(j:Nat)tv,A[r]?=some x->(enc D t x)[j]?=some tv->Rd c (M r (cj t j)) tv (f r j)):∃e:List Value,e.length=A.length*cI t/\(Builtin.firstCells (cI t) A.length (.slice (some ⟨b,y,none⟩) A.length cap)).run P w.drew=.ok e.toArray w.drew/\
    ∀(r:Nat)x(j:Nat)tv,A[r]?=some x->(enc D t x)[j]?=some tv->∃u,e[r*cI t+j]?=some u/\u.oneCell'=true/\Rd c (M r (cj t j)) tv u:=by
 obtain⟨e,Q,U,Y⟩:=aaH (t:=t) A.length f;have I:∀j,(⟨b,y,none⟩:Addr).add j=⟨b,y+j,none⟩:=λj=>by unfold Addr.add;split<;>simp_all
 refine⟨e,Q,run_firstCells_some w.drew (cI t) A.length ⟨b,y,none⟩ A.length cap e Q (λk u Z=>?_),λr x j tv hx J=>?_⟩
 ·obtain⟨r,j,F,H,rfl,rfl⟩:=Y k u Z;rw[I];have:=(N r A[r] j _ (eN F) (eN (by rw[iu];exact H))).1;rw[<-o6];exact this
 ·have F:=(eT.1 hx).1;have H:j<cI t:=by have:=(eT.1 J).1;rwa[iu] at this
  exact⟨f r j,U r j F H,(N r x j tv hx J).2,S r x j tv hx J⟩
def lW.fk{Z:Rt->Prop}{d:Bool}{t:Ty}{x:List (El t)}{news:List Value}{e:Nat->G}(h:lW (g.rc C w) d t x news)(F:FK Z g.γ e)(hz:¬ Z (.cE 1)):lW (Gs.rc C {g with γ:=e} w) d t x news:=
 ⟨h.len,λr y j tv H A=>by
   obtain⟨u,I,J,M⟩:=h.rd r y j tv H A
   exact⟨u,I,J,M.ya (by simp[fO,gj A]) F (λq p D=>by simp only[di,eS] at D;rw[<-D.1];exact hz)⟩⟩
def Vd(h:cQ C E s {g with γ:=γ1} w){d D:Bool}{t:Ty}{Q:List (El t)}{e:List Value}(F:lW (Gs.rc C {g with γ:=γ1} w) d t Q e)(U:D=true->eZ t=true\/d=true)(hF:eZ t=true->D=true):
  ∃γ2,cQ C E s {g with γ:=γ2} w/\lW (Gs.rc C {g with γ:=γ2} w) D t Q e/\FK (λq=>q=.cE 1) γ1 γ2:=by
 cases D with
 |true=>
  refine⟨γ1,h,⟨F.len,λr y j tv H I=>F.rd r y j tv H ?_⟩,.refl _⟩;rcases U rfl with Y|Z
  ·rwa[ns Y true d] at I
  ·rwa[Z]
 |false=>
  have x:=FK.j8 (γ:=γ1) (q1:=.cE 1) (p1:=[]) zg;refine⟨_,h.qq (g:={g with γ:=γ1}) (x.mono (λq hq=>⟨1,hq⟩)),⟨F.len,λr y j tv H I=>?_⟩,x⟩;obtain⟨J,A,rfl⟩:=Ek (d:=d) I;obtain⟨u,h1,h2,h3⟩:=F.rd r y j J H A;refine⟨u,h1,h2,(Rd.j8 (c':=Gs.rc C {g with γ:=lJ γ1 (.cE 1) []} w) h3 (gj A) (λb M=>⟨CF M,rfl⟩) (λq p S b π M=>?_)).lift _⟩;simp only[di,eS] at S;obtain⟨rfl,rfl⟩:=S;exact⟨J2 (p1:=[]) (π:=[((r:Int),cj t j)]++π) (by have N:γ1 b=_:=M;simpa using N),rfl⟩
def aeo(h:cQ C E s {g with γ:=γ1} w){d D:Bool}{t:Ty}{A:List (El t)}{F:Value}(hx:Rd (Gs.rc C {g with γ:=γ1} w) (some (.cE 0,[])) (.own d t A) F)(H:D=true->eZ t=true\/d=true)(I:eZ t=true->D=true):
  ∃γ2,cQ C E s {g with γ:=γ2} w/\Rd (Gs.rc C {g with γ:=γ2} w) (some (.cE 0,[])) (.own D t A) F/\FK (λq=>q=.cE 0) γ1 γ2:=by
 cases D with
 |true=>
  refine⟨γ1,h,?_,.refl _⟩;rcases H rfl with x|J
  ·exact hx.Cg x
  ·rwa[J] at hx
 |false=>
  have e:=FK.ki (γ:=γ1) (q1:=.cE 0) (p1:=[]) zg;have y:eZ t=false:=by cases x:eZ t with|false=>rfl|true=>exact absurd (I x) (by simp)
  refine⟨_,h.qq (g:={g with γ:=γ1}) (e.mono (λq M=>⟨0,M⟩)),?_,e⟩;have:=Rd.u5 (c':=Gs.rc C {g with γ:=ki γ1 (.cE 0) []} w) hx (λb u=>⟨CG u,rfl⟩) (λb t u=>⟨IM u,rfl⟩) (λb i j Q N u=>⟨CH (p1:=[]) N u,rfl⟩);rwa[y] at this
structure Lp(P:Program)(tt tx:TypeId)(t:Ty)(et:TypeId)(i:TypeInfo)(z:Value):Prop where
 ut:P.underlying tt=some (.slice et)
 hi:P.info? et=some i
 hz:i.zero=some z
 sz:i.size=cI t
 zs:z.cells.size=cI t
 kd:(∃e',P.underlying tx=some (.slice e'))\/P.underlying tx=some .string
def FY(h:cQ C E s {g with γ:=γ1} w){D:Bool}{t:Ty}{xs A:List (El t)}{u:List Value}{et ty N U:TypeId}{i:TypeInfo}{z:Value}{vx S:Value}(T:Lp P U N t et i z)(hx:Rd (Gs.rc C {g with γ:=γ1} w) (some (.cE 0,[])) (.own D t xs) vx)
  (src:Src P (cI t) N S A.length u w)(F:lW (Gs.rc C {g with γ:=γ1} w) D t A u)(hb:2*(xs.length+A.length)*i.bytes<=2^48)(Q:xs.length+A.length<=2^62):
  ∃v w' H,(Builtin.append_ #[U,N] ty #[vx,S]).run P w=.ok v w'/\cQ C E s {g with γ:=H} w'/\Rd (Gs.rc C {g with γ:=H} w') (some (.cE 0,[])) (.own D t (xs++A)) v/\dK (λq _=>∃n,q=.cE n) γ1 w H w':=by
 have y:Src P i.size N S A.length u w:=by rw[T.sz];exact src
 rcases hx.lT with⟨rfl,va,rfl⟩|⟨q,π,b,aa,cap,cs,e,fr,f,hm,rfl,hl,Y,hh,hu,hs,hc,hr⟩
 ·by_cases hn:A.length=0
  ·have Z:A=[]:=Mg hn;subst Z;have I:u=[]:=Mg (by rw[F.len];simp);subst I;exact⟨_,w,γ1,run_append_nothing w U N ty et i T.ut T.hi va 0 0 (iN _) S y,h,.jU _ _ _ _,.refl _ h.cL.new⟩
  ·refine Fo (olds:=[]) (xs:=[]) h T.ut T.hi T.hz T.sz T.zs (by simp) ?_ y (λr x j tv hx=>by simp at hx) F (by simp;omega) hb Q;cases va with
   |none=>exact run_firstCells_none w.drew i.size 0 0 0
   |some ad=>exact run_firstCells_some w.drew i.size 0 ad 0 0 [] (by simp) (by simp)
 ·simp only[di,eS] at hm;obtain⟨rfl,rfl⟩:=hm
  by_cases J:xs.length+A.length<=cap
  ·exact acD h T.ut T.hi T.sz y hl Y hh hu hs hc hr F J
  ·obtain⟨olds,h1,h2,h3⟩:=OM (P:=P) (D:=D) (cap:=cap) (M:=λr j=>some (.cE 0,[((r:Int),j)])) hc hr;exact Fo h T.ut T.hi T.hz T.sz T.zs h1 (by rw[T.sz];exact h2) y h3 F (by omega) hb Q
end
end
section
def Wo:∀{p p':Pl},gp p=gp p'->p=p'
 |.cD k,.cD e,h=>by simp[gp] at h;rw[h]
 |.cell k c,.cell e u,h=>by simp[gp] at h;rw[h.1,h.2]
 |.cD _,.cell _ _,h=>by simp[gp] at h
 |.cell _ _,.cD _,h=>by simp[gp] at h
 |.cD _,.sub _ _ _ _,h=>by simp[gp] at h
 |.sub _ _ _ _,.cD _,h=>by simp[gp] at h
 |.cell k c,.sub p t r j,h=>by
  cases p<;>simp[gp] at h;have:=congrArg List.length h.2;simp at this
 |.sub p t r j,.cell k c,h=>by
  cases p<;>simp[gp] at h;have:=congrArg List.length h.2;simp at this
 |.sub p t r c,.sub p' F H u,h=>by
  simp only[gp,eS] at h;obtain⟨x,y⟩:=h;have A:=List.append_inj' y rfl;obtain⟨D,a⟩:=A;simp only[lN,eS,jB] at a;obtain⟨rfl,E⟩:=a;obtain⟨rfl,rfl⟩:=KG E;rw[Wo (p:=p) (p':=p') (DL x D)]
def afL{t t':Ty}(h:tg t=tg t'):t=t':=Tm (by simpa[tg] using h)
def PW{p a:Pl}{t t':Ty}(j:(gp p).1=(gp a).1)(u:(gp p).2++[tg t]=(gp a).2++[tg t']):p=a/\t=t':=by
 obtain⟨x,e⟩:=List.append_inj' u rfl;simp only[lN,jB] at e;exact⟨Wo (DL j x),afL e⟩
section
variable{C:Cx}{g:Gs}{w:World}
def Ps{p:Pl}{t:Ty}{b y A P k0:Nat}{vals:List Value}{cs:Array Value}{e:TypeId}{fr:Nat×Nat}(J:g.γ b=.at (gp p).1 ((gp p).2++[tg t]))(D:(g.rc C w).va p=some (.slice (some ⟨b,y,none⟩) A P))(Q:w.heap[b]?=some (.cells cs e fr))(hk:y+A*cI t<=k0):
  ∀(M:Pl),VO (g.rc C w) M->(g.rc C (w.setCells b k0 vals)).va M=(g.rc C w).va M/\VO (g.rc C (w.setCells b k0 vals)) M
 |.cD k,_=>⟨rfl,trivial⟩
 |.cell k c,a=>by
  simp only[VO,Gs.rc] at a;have R:g.bx k≠b:=λe=>by rw[e,J] at a;simp at a
  exact⟨lP ((kt b vals k0 w).other _ R),a⟩
 |.sub p1 t1 r c,a=>by
  obtain⟨F,j⟩:=a;obtain⟨S,h2⟩:=Ps J D Q hk p1 F;refine⟨?_,h2,λH U u x Y=>j H U u x (S ▸Y)⟩;simp only[Gs.rc] at S D j⊢;simp only[va,S];split
  ·rename_i H U u x N;split
   ·rename_i aa
    by_cases I:H=b
    ·subst I;rcases j H U u x N with E|E
     ·rw[J] at E;simp at E
     ·rw[J] at E;simp only[G.at.injEq] at E;obtain⟨rfl,rfl⟩:=PW E.1 E.2;rw[D] at N;simp only[di,kH,mS,jB,vV] at N;obtain⟨rfl,rfl,rfl⟩:=N;obtain⟨ab,k1,k2,k3,k4⟩:=(kt H vals k0 w).this _ _ _ Q;have Z:(r.toNat+1)*cI t<=A*cI t:=mT _ (by omega);rw[jO,qa] at Z;simp only[eK,World.cell?,k1,Q];simp[k4 (y+r.toNat*cI t+c) (by omega)]
    ·exact lP ((kt b vals k0 w).other _ I)
   ·rfl
  ·rfl
def acE{p:Pl}{t:Ty}{b A D I k0:Nat}{vals:List Value}{Q:Array Value}{e:TypeId}{fr:Nat×Nat}(R:g.γ b=.at (gp p).1 ((gp p).2++[tg t]))(J:(g.rc C w).va p=some (.slice (some ⟨b,A,none⟩) D I))(N:w.heap[b]?=some (.cells Q e fr))(U:A+D*cI t<=k0)
  {p':Pl}{t0:Ty}{E o' cap' len':Nat}{a:Array Value}{P:TypeId}{F:Nat×Nat}(j:g.γ E=.at (gp p').1 ((gp p').2++[tg t0]))(x:(g.rc C w).va p'=some (.slice (some ⟨E,o',none⟩) len' cap'))(u:w.heap[E]?=some (.cells a P F)):
  ∃y,(w.setCells b k0 vals).heap[E]?=some (.cells y P F)/\y.size=a.size/\∀k,k<o'+len'*cI t0->y[k]?=a[k]?:=by
 obtain⟨M,k1,k2,k3,k4⟩:=(kt b vals k0 w).this _ _ _ N
 by_cases H:E=b
 ·subst H;rw[R] at j;simp only[G.at.injEq] at j;obtain⟨rfl,rfl⟩:=PW j.1 j.2;rw[J] at x;simp only[di,kH,mS,jB,vV] at x;obtain⟨rfl,rfl,rfl⟩:=x;rw[N] at u;simp only[di,Obj.cells.injEq] at u;obtain⟨rfl,rfl,rfl⟩:=u;exact⟨M,k1,k2,λk S=>k4 k (by omega)⟩
 ·exact⟨a,((kt b vals k0 w).other _ H).trans u,rfl,λ_ _=>rfl⟩
def Rd.Lq{p:Pl}{t:Ty}{b af len cap k0:Nat}{vals:List Value}{cs:Array Value}{e:TypeId}{fr:Nat×Nat}(hn:∀b,w.heap.size<=b->g.γ b=.fr)(hb:g.γ b=.at (gp p).1 ((gp p).2++[tg t]))(ak:(g.rc C w).va p=some (.slice (some ⟨b,af,none⟩) len cap))(hh:w.heap[b]?=some (.cells cs e fr))(hk:af+len*cI t<=k0)
  {m:Option Gp}{a:TV}{v:Value}(h:Rd (g.rc C w) m a v):∀(H:Pl),m=some (gp H)->jQ a=true->(g.rc C w).va H=some v->VO (g.rc C w) H->Rd (g.rc C (w.setCells b k0 vals)) m a v:=by
 have am:=wW (kt b vals k0 w) hn hb;obtain⟨an,k1,k2,k3,k4⟩:=(kt b vals k0 w).this _ _ _ hh;have fz:∀{m:Option Gp}{a:TV}{v:Value},Rd (g.rc C w) m a v->dN a=true->iF a=false->Rd (g.rc C (w.setCells b k0 vals)) m a v:=λ{m a v}h hp ho=>
  ((h.any hp ho none).same (c':=g.rc C (w.setCells b k0 vals)) (λb hb=>am.im b hb) (λq p he=>by simp at he) (λi hi=>absurd hi (kS hp i)) (λp hq=>absurd hq (gz hp p)) (λp hq=>absurd hq.mv (gz hp p))).lift m
 have blk:∀{H:Pl}{t0:Ty}{E o' F R:Nat}{I:Array Value}{S:TypeId}{y:Nat×Nat},g.γ E=.at (gp H).1 ((gp H).2++[tg t0])->(g.rc C w).va H=some (.slice (some ⟨E,o',none⟩) R F)->w.heap[E]?=some (.cells I S y)->
   ∃J,(w.setCells b k0 vals).heap[E]?=some (.cells J S y)/\J.size=I.size/\∀k,k<o'+R*cI t0->J[k]?=I[k]?:=by
  intro H t0 E o' F R I S y u A D
  by_cases ah:E=b
  ·subst ah;rw[hb] at u;simp only[G.at.injEq] at u;obtain⟨rfl,rfl⟩:=PW u.1 u.2;rw[ak] at A;simp only[di,kH,mS,jB,vV] at A;obtain⟨rfl,rfl,rfl⟩:=A;rw[hh] at D;simp only[di,Obj.cells.injEq] at D;obtain⟨rfl,rfl,rfl⟩:=D;exact⟨an,k1,k2,λk ap=>k4 k (by omega)⟩
  ·exact⟨I,((kt b vals k0 w).other _ ah).trans D,rfl,λ_ _=>rfl⟩
 induction h with
 |kE q π d t0 N E o' F I S y f hl u D hu hs hc hr ih=>
  intro H hm hT A U;have P:=gV hm;have hq:q=(gp H).1:=by rw[<-P]
  have aa:π=(gp H).2:=by rw[<-P]
  clear hm P;subst hq;subst aa;obtain⟨J,m1,m2,m3⟩:=blk u A D;have Y:∀(r:Nat)x(j:Nat)a,N[r]?=some x->(enc d t0 x)[j]?=some a->r<N.length/\j<cI t0:=λr x j a hx M=>⟨(eT.1 hx).1,by have:=(eT.1 M).1;rwa[iu] at this⟩;refine .kE _ _ _ _ _ _ _ _ J S y f hl u m1 (by rw[m2];exact hu) (by rw[m2];exact hs) (λr x j a hx M=>?_) (λr x j a hx M=>?_)
  ·obtain⟨h1,h2⟩:=Y r x j a hx M;obtain⟨h3,h4⟩:=hc r x j a hx M;have h5:(r+1)*cI t0<=N.length*cI t0:=mT _ h1;rw[jO,qa] at h5;refine⟨?_,h4⟩;have ab:w.heap[E]?=some (.cells I S y):=D;have Z:eK w E (o'+r*cI t0+j)=some (f r j):=h3;have ad:(w.setCells b k0 vals).heap[E]?=some (.cells J S y):=m1;show eK (w.setCells b k0 vals) E _=_;simp only[eK,World.cell?,ab,ad] at Z⊢;simpa[m3 _ (show o'+r*cI t0+j<o'+N.length*cI t0 by omega)] using Z
  ·obtain⟨h1,h2⟩:=Y r x j a hx M;refine ih r x j a hx M (.sub H t0 (r:Int) j) rfl (rO (gj M)) ?_ ⟨U,λb2 o2 ai aj Q=>?_⟩
   ·have ae:va C.vs g.tm g.bx w H=some (.slice (some ⟨E,o',none⟩) N.length F):=A;simp only[Gs.rc,va,ae];rw[cM ⟨by omega,by omega,h2⟩];have h9:eK w E (o'+r*cI t0+j)=some (f r j):=(hc r x j a hx M).1;simpa using h9
   ·rw[A] at Q;simp only[di,kH,mS,jB] at Q;obtain⟨⟨rfl,_⟩,_⟩:=Q;exact .inr u
 |ko q π t0 N r0 c0 E o' F I S y f hl u D hu hs hc hr ih=>
  intro H hm hT A U;have P:=gV hm;have hq:q=(gp H).1:=by rw[<-P]
  have aa:π=(gp H).2:=by rw[<-P]
  clear hm P;subst hq;subst aa;obtain⟨J,m1,m2,m3⟩:=blk u A D;have Y:∀(r:Nat)x(j:Nat)a,N[r]?=some x->(enc true t0 x)[j]?=some a->r<N.length/\j<cI t0:=λr x j a hx M=>⟨(eT.1 hx).1,by have:=(eT.1 M).1;rwa[iu] at this⟩;refine .ko _ _ _ _ _ _ _ _ _ J S y f hl u m1 (by rw[m2];exact hu) (by rw[m2];exact hs) (λr x j a hx M=>?_) (λr x j a hx M ao=>?_)
  ·obtain⟨h1,h2⟩:=Y r x j a hx M;obtain⟨h3,h4⟩:=hc r x j a hx M;have h5:(r+1)*cI t0<=N.length*cI t0:=mT _ h1;rw[jO,qa] at h5;refine⟨?_,h4⟩;have ab:w.heap[E]?=some (.cells I S y):=D;have Z:eK w E (o'+r*cI t0+j)=some (f r j):=h3;have ad:(w.setCells b k0 vals).heap[E]?=some (.cells J S y):=m1;show eK (w.setCells b k0 vals) E _=_;simp only[eK,World.cell?,ab,ad] at Z⊢;simpa[m3 _ (show o'+r*cI t0+j<o'+N.length*cI t0 by omega)] using Z
  ·obtain⟨h1,h2⟩:=Y r x j a hx M;refine ih r x j a hx M ao (.sub H t0 (r:Int) j) rfl (rO (gj M)) ?_ ⟨U,λb2 o2 ai aj Q=>?_⟩
   ·have ae:va C.vs g.tm g.bx w H=some (.slice (some ⟨E,o',none⟩) N.length F):=A;simp only[Gs.rc,va,ae];rw[cM ⟨by omega,by omega,h2⟩];have h9:eK w E (o'+r*cI t0+j)=some (f r j):=(hc r x j a hx M).1;simpa using h9
   ·rw[A] at Q;simp only[di,kH,mS,jB] at Q;obtain⟨⟨rfl,_⟩,_⟩:=Q;exact .inr u
 |un=>intros;exact .un _ _
 |jU=>intros;exact .jU _ _ _ _
 |b=>intros;exact .b _ _
 |i=>intros;exact .i _ _ _
 |s=>intros;exact .s _ _
 |nil=>intros;exact .nil _
 |iq=>intros;exact .iq _ _
 |kO=>intros;exact .kO _ _ _ _
 |nZ m t N b o cap f h1 h2 h3 h4=>intros;exact fz (.nZ m t N b o cap f h1 h2 h3 h4) rfl rfl
 |qz=>intros;exact .qz _ _ _
 |qA m t N b o f h1 h2 h3=>intros;exact fz (.qA m t N b o f h1 h2 h3) rfl rfl
 |_=>intro H hm hT;simp[jQ,fO,dN] at hT
def cQ.Lq{E:Env}{s:TS}(h:cQ C E s g w){p:Pl}{t:Ty}{b U len cap k0:Nat}{vals:List Value}{cs:Array Value}{e:TypeId}{fr:Nat×Nat}(Y:p.jG=true)(A:g.γ b=.at (gp p).1 ((gp p).2++[tg t]))(a:(g.rc C w).va p=some (.slice (some ⟨b,U,none⟩) len cap))(hh:w.heap[b]?=some (.cells cs e fr))(hk:U+len*cI t<=k0)
  (Z:∀j q,MP q (s.cD j)->(gp q).1≠(gp p).1):cQ C E s g (w.setCells b k0 vals):=by
 have F:=wW (kt b vals k0 w) h.cL.new A;have u:=Ps (C:=C) (vals:=vals) A a hh hk;have H:∀k,g.γ (g.bx k)=.at (.box k) []->(w.setCells b k0 vals).heap[g.bx k]?=w.heap[g.bx k]?:=λk aa=>(kt b vals k0 w).other _ (λe=>by rw[e,A] at aa;simp at aa);refine h.nF (g':=g) F (λk=>?_) (λk=>?_)
 ·by_cases hr:(gp p).1=.cD k
  ·left
   have ab:=La a (wT.2 hr);obtain⟨a0,l0,c0,ad⟩:=NQ a (wT.2 hr) Y;have h0:=h.fQ k;have I:jQ (s.cD k)=true\/gB (s.cD k)=true:=by
    rw[ad] at h0
    cases hs:s.cD k<;>first|exact .inr rfl|exact .inl rfl|(rw[hs] at h0;cases h0)
   rcases I with hc|ha
   ·exact h0.Lq h.cL.new A a hh hk (.cD k) rfl hc (by simp only[Gs.rc,va];rw[cM ab]) trivial
   ·refine((h0.anyM ha none).same (c':=g.rc C (w.setCells b k0 vals)) (λb A=>F.im b A) (λq p he=>by simp at he) (λ_ _=>rfl) (λq J=>⟨(u q (h0.tR J)).1,λM=>(u q M).2⟩) (λq J b' π ae=>F.at' b' _ _ ae (λhx=>Z k q J hx.1))).anyM ha _
  ·exact .inr ⟨rfl,rfl,λπ hx=>hr hx.1.symm,λ_ _=>rfl,λq J=>⟨(u q ((h.fQ k).tR J)).1,λM=>(u q M).2⟩,λq J π hx=>Z k q J hx.1⟩
 ·by_cases hr:(gp p).1=.box k
  ·left
   have h0:=h.boxes k;cases N:s.box k with
   |none=>trivial
   |cells ah=>
    rw[N] at h0;obtain⟨vs,e0,y,P,S,D,Q,h5,h6⟩:=h0;refine⟨vs,e0,y,(H k D).trans P,S,D,Q,h5,λj tv v hj hv=>⟨(h6 j tv v hj hv).1,(h6 j tv v hj hv).2.Lq h.cL.new A a hh hk (.cell k j) rfl (h5 tv (fh hj)) ?_ D⟩⟩;have R:w.heap[g.bx k]?=some (.cells vs e0 y):=P;simp[Gs.rc,va,eK,World.cell?,R,hv]
   |vec t0 xs=>
    rw[N] at h0;obtain⟨vs,e0,y,P,S,D,Q,h5⟩:=h0;exact⟨vs,e0,y,(H k D).trans P,S,D,Q,h5⟩
   |iL x=>
    rw[N] at h0;obtain⟨p0,v0,P,S,D,Q⟩:=h0;refine⟨p0,v0,(H k S).trans P,S,D,λhl=>?_⟩;rcases Q hl with Q|⟨g',cap',ai,rfl,e2,e3,e4,e5,e6,e7,e8⟩
    ·exact .inl Q
    ·have R:w.heap[g.bx k]?=some (.cells #[p0,.slice (some ⟨g',0,none⟩) x.length cap'] GJ (0,0)):=P;obtain⟨af,f1,f2,f3⟩:=acE (vals:=vals) A a hh hk (p':=.cell k 1) (t0:=.int .u8) (o':=0) (len':=x.length) (cap':=cap') e2 (by simp[Gs.rc,va,eK,World.cell?,R]) e3;refine .inr ⟨g',cap',af,rfl,e2,f1,e4,e5,e6,f2.trans e7,?_⟩;rw[<-e8];apply Zy;intro j;rw[o5,o5];split
     ·rename_i hj;have:=f3 j (by simp[cI];omega);simpa using this
     ·rfl
  ·exact .inr ⟨rfl,rfl,λπ hx=>hr hx.1.symm⟩
end
end
section
def IT{u:Type}{e:Nat}{a b c:List u}(h:cZ e a b=some c):c=a++b/\2*(a.length+b.length)*e<=2^48/\a.length+b.length<=2^62:=by
 unfold cZ at h;split at h
 ·rename_i j;simp only[di] at h;exact⟨h.symm,j.1,j.2⟩
 ·simp at h
def RW:∀{p q:Pl},p.jD q=true↔(gp q).1=(gp p).1
 |.cD k,q=>by simpa[Pl.jD,gp] using xa (p:=q) (k:=k)
 |.cell k c,q=>by simpa[Pl.jD,gp] using uY (p:=q) (k:=k)
 |.sub p _ _ _,q=>by simpa[Pl.jD,gp] using RW (p:=p) (q:=q)
section
variable{P:Program}{C:Cx}{E:Env}{nt n:Nat}{o:Oper}{s A:TS}{g g1:Gs}{a:Act}{w B:World}{R:Type}{r:R}{γ1:Nat->G}{tv:TV}{v:Value}{K:TS->Option R}{X:Rt->dv->Prop}{nb:Nat->Prop}
def aep(hC:ga P C){t u:Nat}{e:Ty}{Q gq:Nat}(x:C.dj t=.sl e Q gq)(y:(∃S,P.underlying u=some (.slice S))\/P.underlying u=some .string):∃D i z,Lp P t u e D i z/\i.bytes=gq:=by
 obtain⟨D,U,F,_,H⟩:=vn (hC.ty t) x;obtain⟨I,Y,Z,j,_⟩:=rQ F;obtain⟨i,z,J,M,N⟩:=IQ Z;refine⟨D,i,z,⟨U,J,M,by rw[<-I];simp[Program.cellsOf,J],?_,y⟩,by rw[<-H];simp[Program.bytesOf,J]⟩;rw[N] at j;have:=(CW (c:=⟨default,λ_=>.fr,λ_=>0,λ_=>none⟩) (m:=λ_=>none) j).1;rw[iu] at this;simpa using this
def J9(l:eE nt g a)(N:ij nt o.dst){x y:Operand}{t I:Nat}(Q:o.op=.call ⟨.builtin .append,#[x,y],#[t,I]⟩){J:TS}{γ2:Nat->G}{D:Bool}{e:Ty}{M:List (El e)}{Z:Rt->Prop}(H:FK Z g.γ γ2)(S:∀b,w.heap.size<=b->g.γ b=.fr)
  (h:∃v u j,(Builtin.append_ #[t,I] o.type #[a.eval x,a.eval y]).run P w=.ok v u/\cQ C E J {g with γ:=j} u/\Rd (Gs.rc C {g with γ:=j} u) (some (.cE 0,[])) (.own D e M) v/\dK (λq _=>∃n,q=.cE n) γ2 w j u)(U:K (eA C J o.dst (.own D e M))=some r):kY P C E nt o g a w K r Z X nb:=by
 obtain⟨v,u,j,Y,h2,h3,h4⟩:=h;refine Ch (n:=0) h2 rfl (λ_ _=>rfl) (((H.gD S).trans h4).mono (λq p hx=>.inl ?_)) l N h3 (by simp[execOp,Q,resolve,invoke,builtin,Y]) U;rcases hx with⟨hx,F⟩|⟨n,hx⟩
 ·exact⟨.inl hx,F⟩
 ·exact⟨.inr ⟨n,hx⟩,λF=>by rw[hx] at F;simp[kW] at F⟩
def abq(hC:ga P C)(h:cQ C E s g w)(l:eE nt g a)(hd:ij nt o.dst){x y:Operand}{t tx:Nat}(ho:o.op=.call ⟨.builtin .append,#[x,y],#[t,tx]⟩)(hx:fD nt x=true)(hy:fD nt y=true)(aP:(∃e',P.underlying tx=some (.slice e'))\/P.underlying tx=some .string)
  (F:Ev.step C o s K=some r):kY P C E nt o g a w K r (λq=>ed s x q\/ed s y q\/∃n,q=.cE n) X nb:=by
 simp only[Ev.step,ho] at F;split at F
 ·rename_i e sz bo a4;obtain⟨et,i,z,T,ao⟩:=aep hC a4 aP;have N:=iU h l hx;unfold xW at F;obtain⟨d,ys,A,γ1,news,F,h1,src,ab,aQ,bp⟩:=aen h l hC.gl hy aP F;have S:FK (λq=>ed s x q\/ed s y q\/∃n,q=.cE n) g.γ γ1:=aQ.mono (λq hq=>.inr (.inl hq));split at F
  ·rename_i p t0 Z;rw[Z] at N;have a5:(g.rc C w).va p=some (a.eval x):=by generalize iY x=m at N;cases N;assumption
   have aa:(Gs.rc C {g with γ:=γ1} w).va p=some (a.eval x):=a5;obtain⟨tv,aE,F⟩:=py F;have hl:=qi h1 aa aE;split at F
   ·rename_i d' t' xs;obtain⟨aF,F⟩:=nK F;subst aF;obtain⟨zs,ae,F⟩:=fa.1 F;obtain⟨rfl,hb,U⟩:=IT ae;rcases hl with hl|hl
    ·simp at hl
    cases aj:p.jG with
    |true=>
     rw[aj,cP] at F;obtain⟨ax,F⟩:=dY.1 F;have h2:=h1.gv p.jD;have aq:VO (Gs.rc C {g with γ:=γ1} w) p:=by
      rcases tE h1 aE with h9|⟨_,_,_,h9⟩
      ·simp at h9
      ·exact h9
     have af:ed s x (gp p).1:=vc (λi=>(h.ln i).1) (by rw[Z];exact .vw _);have a6:∀j q,MP q ((A.gv p.jD).cD j)->(gp q).1≠(gp p).1:=λj q hq he=>by
      rw[y9] at hq
      have:=Nh hq
      rw[RW.2 he] at this
      simp at this
     have ak:∀(x:El t')(j:Nat)(tv:TV),(enc true t' x)[j]?=some tv->iF tv=false/\dN tv=true:=λx j tv J=>⟨sg (x:=x) (j:=j) (by rwa[ns ax true false] at J),gj J⟩;have aG:∀{v w' Q},(Builtin.append_ #[t,tx] o.type #[a.eval x,a.eval y]).run P w=.ok v w'->cQ C E (A.gv p.jD) {g with γ:=Q} w'->VO (Gs.rc C {g with γ:=Q} w') p->(Gs.rc C {g with γ:=Q} w').va p=some (a.eval x)->Rd (Gs.rc C {g with γ:=Q} w') (some (gp p)) (.own true t' (j2 rfl xs++ys)) v->dK (λq π=>(q=(gp p).1/\¬ kW q π)\/∃n,q=.cE n) γ1 w Q w'->
       kY P C E nt o g a w K r (λq=>ed s x q\/ed s y q\/∃n,q=.cE n) X nb:=by
      intro v w' Q m1 m2 m3 m4 m5 m6
      refine Ch (g1:={g with γ:=Q}) (n:=0) m2 rfl (λ_ _=>rfl) (((S.gD h.cL.new).trans m6).mono (λq π hx=>.inl ?_)) l hd (.pa _ _ _ _ _ _ aj m3 m4 m5) (by simp[execOp,ho,resolve,invoke,builtin,m1]) F
      rcases hx with⟨hx,ap⟩|(⟨hx,ap⟩|⟨n,hx⟩)
      ·exact⟨.inl hx,ap⟩
      ·exact⟨.inl (.inl (by rw[hx];exact af)),ap⟩
      ·exact⟨.inr ⟨n,hx⟩,λap=>by rw[hx] at ap;simp[kW] at ap⟩
     have Y:Src P i.size tx (a.eval y) ys.length news w:=by rw[T.sz];exact src
     have au:lW (Gs.rc C {g with γ:=γ1} w) true t' ys news:=⟨ab.len,λr y j tv hy J=>ab.rd r y j tv hy (by rwa[ns ax true d] at J)⟩;have aH:j2 rfl xs=xs:=rfl;rw[aH] at hb U;have grow:∀{av:Option Addr}{cap:Nat}{olds:List Value},a.eval x=.slice av xs.length cap->olds.length=xs.length*cI t'->(Builtin.firstCells i.size xs.length (.slice av xs.length cap)).run P w.drew=.ok olds.toArray w.drew->
       (∀(r:Nat)x(j:Nat)tv,xs[r]?=some x->(enc true t' x)[j]?=some tv->∃u,olds[r*cI t'+j]?=some u/\u.oneCell'=true/\Rd (Gs.rc C {g with γ:=γ1} w) (some (.cE 0,[((r:Int),cj t' j)])) tv u)->cap<xs.length+ys.length->kY P C E nt o g a w K r (λq=>ed s x q\/ed s y q\/∃n,q=.cE n) X nb:=by
      intro av cap olds H ho a7 a8 hg
      obtain⟨v,w',Q,m1,m2,m3,m4⟩:=Fo (ty:=o.type) h2 T.ut T.hi T.hz T.sz T.zs ho a7 Y a8 au hg (by rw[ao];exact hb) U
      have aR:=FK.dZ (γ:=Q) (q1:=.cE 0) (q2:=(gp p).1) (p1:=[]) (p2:=(gp p).2) zg
      have m5:cQ C E (A.gv p.jD) {g with γ:=dZ Q (.cE 0) [] (gp p).1 (gp p).2} w':=m2.qq (g:={g with γ:=Q}) (aR.mono (λq hq=>⟨0,hq⟩))
      have m6:=m3.C8 (g:={g with γ:=Q}) (q2:=(gp p).1) (p2:=(gp p).2) rfl
      have az:dK (λq _=>∃n,q=Rt.cE n) γ1 w (dZ Q (.cE 0) [] (gp p).1 (gp p).2) w':=(m4.trans (aR.gD m2.cL.new)).mono (λq π hx=>by
       rcases hx with hx|⟨hx,_⟩
       ·exact hx
       ·exact⟨0,hx⟩)
      have aS:=Gj (C:=C) (g:={g with γ:=γ1}) az (λq π hx=>hx) p aq
      exact aG (by rw[H];exact m1) m5 aS.2 (aS.1.trans aa) m6 (az.mono (λq π hx=>.inr hx))
     rcases hl.lT with⟨rfl,aI,H⟩|⟨q,π,b,I,cap,cs,e',fr,f,hm,H,bq,a9,hh,aT,ba,hc,hr⟩
     ·by_cases bb:ys.length=0
      ·have bc:ys=[]:=Mg bb;subst bc;have aJ:news=[]:=Mg (by rw[ab.len];simp);subst aJ;refine aG (v:=.slice aI 0 0) (by rw[H];exact run_append_nothing w t tx o.type et i T.ut T.hi aI 0 0 (iN _) (a.eval y) Y) h2 aq aa (.jU _ _ _ _) (.refl _ h1.cL.new)
      ·refine grow (olds:=[]) H (by simp) ?_ (λr x j tv hx=>by simp at hx) (by simp;omega);cases aI with
       |none=>exact run_firstCells_none w.drew i.size 0 0 0
       |some ad=>exact run_firstCells_some w.drew i.size 0 ad 0 0 [] (by simp) (by simp)
     ·have aU:∀(r:Nat)x(j:Nat)tv,xs[r]?=some x->(enc true t' x)[j]?=some tv->eK w b (I+r*cI t'+j)=some (f r j)/\(f r j).oneCell'=true:=λr x j tv hx J=>hc r x j tv hx (by rwa[ns ax true d'] at J);have aV:∀(r:Nat)x(j:Nat)tv,xs[r]?=some x->(enc true t' x)[j]?=some tv->Rd (Gs.rc C {g with γ:=γ1} w) none tv (f r j):=λr x j tv hx J=>(hr r x j tv hx (by rwa[ns ax true d'] at J)).any (ak x j tv J).2 (ak x j tv J).1 _
      by_cases ah:xs.length+ys.length<=cap
      ·have be:gp p=(q,π):=gV hm;have am:γ1 b=.at (gp p).1 ((gp p).2++[tg t']):=by rw[be];exact a9
       have aA:(Gs.rc C {g with γ:=γ1} w).va p=some (.slice (some ⟨b,I,none⟩) xs.length cap):=by rw[aa,H]
       have aW:(xs.length+ys.length)*cI t'<=cap*cI t':=mT _ ah;rw[jO] at aW;have an:∀k,w.cell? ⟨b,k,none⟩=cs[k]?:=λk=>by
        have aK:w.heap[b]?=some (.cells cs e' fr):=hh
        simp[World.cell?,aK]
       have bf:∀k,k<cs.size->w.frozen? ⟨b,k,none⟩=false:=λk F=>by
        have:=aT k F
        have aK:w.heap[b]?=some (.cells cs e' fr):=hh
        simp only[World.frozen?,aK]
        simp only[Zx,lA]
        by_cases h1:fr.1<=k
        ·exact .inr (λh2=>this ⟨h1,h2⟩)
        ·exact .inl h1
       have br:=au.len;have aB:=run_append_room_src (P:=P) w t tx o.type et i T.ut T.hi b I xs.length cap (a.eval y) ys.length news Y ah (λj J=>by rw[an,T.sz];rw[jN (by omega)];rfl) (λj J=>bf _ (by rw[T.sz];omega));rw[T.sz] at aB;have pk:=kt b news (I+xs.length*cI t') w;obtain⟨ay,k1,k2,k3,k4⟩:=pk.this _ _ _ hh;have aL:=cQ.Lq (g:={g with γ:=γ1}) (vals:=news) h2 aj am aA hh (iN _) a6;have aX:=Ps (C:=C) (g:={g with γ:=γ1}) (vals:=news) am aA hh (iN _) p aq;have aY:=wW pk h1.cL.new am;have aw:∀(r:Nat)x(j:Nat)tv,(xs++ys)[r]?=some x->(enc true t' x)[j]?=some tv->∃u,ay[I+r*cI t'+j]?=some u/\u.oneCell'=true/\Rd (Gs.rc C {g with γ:=γ1} w) none tv u:=λr x j tv hx J=>by
        have bs:j<cI t':=by have:=(eT.1 J).1;rwa[iu] at this
        by_cases aZ:r<xs.length
        ·rw[o7 aZ] at hx;obtain⟨m1,m2⟩:=aU r x j tv hx J;have bg:(r+1)*cI t'<=xs.length*cI t':=mT _ aZ;rw[jO,qa] at bg;refine⟨f r j,?_,m2,aV r x j tv hx J⟩;rw[k4 _ (by omega)];have:eK w b (I+r*cI t'+j)=cs[I+r*cI t'+j]?:=an _;rw[<-this];exact m1
        ·rw[qb (by omega)] at hx;have bt:=(eT.1 hx).1;obtain⟨u,n1,n2,n3⟩:=au.rd (r-xs.length) x j tv hx J;have bh:=(eT.1 n1).1;refine⟨u,?_,n2,n3.any (ak x j tv J).2 (ak x j tv J).1 _⟩;have:=k3 ((r-xs.length)*cI t'+j) bh (by omega);rw[show I+xs.length*cI t'+((r-xs.length)*cI t'+j)=I+r*cI t'+j by
          have:r*cI t'=xs.length*cI t'+(r-xs.length)*cI t':=by rw[<-jO];congr 1;omega
          omega] at this;rw[this];exact n1
       have aC:=Rd.kE (c:=Gs.rc C {g with γ:=γ1} (w.setCells b (I+xs.length*cI t') news)) (gp p).1 (gp p).2 true t' (xs++ys) b I cap ay e' fr (λr j=>ay[I+r*cI t'+j]?.getD undef) (by simpa using ah) am k1 (by rw[k2];exact aT) (by rw[k2];exact ba)
        (λr x j tv hx J=>by
          obtain⟨u,m1,m2,_⟩:=aw r x j tv hx J
          have bi:(w.setCells b (I+xs.length*cI t') news).heap[b]?=some (.cells ay e' fr):=k1
          exact⟨by simp[eK,World.cell?,Gs.rc,bi,m1],by simp[m1,m2]⟩)
        (λr x j tv hx J=>by
          obtain⟨u,m1,_,m3⟩:=aw r x j tv hx J
          rw[m1]
          have aM:=gj J
          exact(m3.same (c':=Gs.rc C {g with γ:=γ1} (w.setCells b (I+xs.length*cI t') news)) (λb hb=>aY.im b hb) (λq p he=>by simp at he) (λi hi=>absurd hi (kS aM i)) (λp aN=>absurd aN (gz aM p)) (λp aN=>absurd aN.mv (gz aM p))).lift _);rw[fg] at aC;have bn:(some ((gp p).1,(gp p).2):Option Gp)=some (gp p):=rfl;refine aG (by rw[H];exact aB) aL aX.2 (aX.1.trans aa) aC (aY.mono (λq' bu hx=>.inl ⟨hx.1,λbj=>?_⟩));have:=bj.2;rw[hx.2] at this;simp at this
      ·obtain⟨olds,m1,m2,m3⟩:=OM (P:=P) (w:=w) (D:=true) (cap:=cap) (M:=λr j=>some (.cE 0,[((r:Int),j)])) aU (λr x j tv hx J=>(aV r x j tv hx J).lift _);exact grow H m1 (by rw[T.sz];exact m2) m3 (by omega)
    |false=>
     rw[aj,cR] at F;obtain⟨s2,γ2,ai,h2,h3,h4,h5⟩:=J3 (n:=0) (π0:=[]) h1 p aE rfl hl F;have a0:lW (Gs.rc C {g with γ:=γ2} w) d t' ys news:=ab.fk (g:={g with γ:=γ1}) h4 (λhq=>jk p 1 hq.symm);have a1:(bif eZ t' then true else bif d then d' else false)=true->eZ t'=true\/d=true/\d'=true:=λhD=>by
      cases hf:eZ t' with
      |true=>exact .inl rfl
      |false=>
       rw[hf,cR] at hD
       cases d with
       |true=>exact .inr ⟨rfl,hD⟩
       |false=>simp at hD
     obtain⟨a2,h6,h7,h8⟩:=aeo (D:=bif eZ t' then true else bif d then d' else false) h2 h3 (λhD=>(a1 hD).imp id (λh=>h.2)) (λhf=>by rw[hf];rfl);have a3:lW (Gs.rc C {g with γ:=a2} w) d t' ys news:=a0.fk (g:={g with γ:=γ2}) h8 (by simp);obtain⟨Al,k1,k2,k3⟩:=Vd (D:=bif eZ t' then true else bif d then d' else false) h6 a3 (λhD=>(a1 hD).imp id (λh=>h.1)) (λhf=>by rw[hf];rfl);have bk:Rd (Gs.rc C {g with γ:=Al} w) (some (.cE 0,[])) (.own (bif eZ t' then true else bif d then d' else false) t' xs) (a.eval x):=h7.ya (g:={g with γ:=a2}) (by simp[fO,dN]) k3 (λq p he=>by simp only[di,eS] at he;rw[<-he.1];simp);have af:ed s x (gp p).1:=vc (λi=>(h.ln i).1) (by rw[Z];exact .vw _);refine J9 l hd ho (γ2:=Al) (((S.trans (h4.mono (λq hq=>.inl (by rw[hq];exact af)))).trans (h8.mono (λq hq=>.inr (.inr ⟨0,hq⟩)))).trans (k3.mono (λq hq=>.inr (.inr ⟨1,hq⟩)))) h.cL.new (FY (ty:=o.type) k1 T bk src k2 (by rw[ao];exact hb) U) ai
   ·simp at F
  ·rename_i Z;rw[Z] at N;have H:a.eval x=.slice none 0 0:=by generalize iY x=m at N;generalize a.eval x=u at N;cases N;rfl
   obtain⟨zs,ae,ai⟩:=fa.1 F;obtain⟨hz,hb,U⟩:=IT ae;rw[hz] at ai;refine J9 l hd ho (γ2:=γ1) S h.cL.new (FY (ty:=o.type) (xs:=[]) h1 T ?_ src ab (by rw[ao];exact hb) U) ai;rw[H];exact .jU _ _ _ _
  ·rename_i Z;rw[Z] at N;obtain⟨va,H⟩:∃va,a.eval x=.slice va 0 0:=by generalize iY x=m at N;generalize a.eval x=u at N;cases N;exact⟨_,rfl⟩
   obtain⟨zs,ae,ai⟩:=fa.1 F;obtain⟨hz,hb,U⟩:=IT ae;rw[hz] at ai;refine J9 l hd ho (γ2:=γ1) S h.cL.new (FY (ty:=o.type) (xs:=[]) h1 T ?_ src ab (by rw[ao];exact hb) U) ai;rw[H];exact .jU _ _ _ _
  ·rename_i t' xs Z;rw[Z] at N;obtain⟨aF,F⟩:=nK F;subst aF;obtain⟨_,aO,F⟩:=fa.1 F;have aO:(0:Int)<cA ys:=fG (mr.1 aO);simp only[cA] at aO;obtain⟨zs,ae,F⟩:=fa.1 F;obtain⟨rfl,hb,U⟩:=IT ae;have aH:j2 rfl xs=xs:=rfl;obtain⟨Al,k1,k2,k3⟩:=Vd (D:=eZ t') h1 ab (λhD=>.inl hD) (λhf=>hf);have aD:FK (λq=>ed s x q\/ed s y q\/∃n,q=.cE n) g.γ Al:=S.trans (k3.mono (λq hq=>.inr (.inr ⟨1,hq⟩)));have Y:Src P i.size tx (a.eval y) ys.length news w:=by rw[T.sz];exact src
   have bm:Rd (Gs.rc C {g with γ:=Al} w) none (.fS t' xs) (a.eval x):=(N.anyM rfl none).ya (by simp[fO,dN]) aD (λq p he=>by simp at he);rw[aH] at hb U;refine J9 l hd ho (γ2:=Al) aD h.cL.new ?_ F;rcases bm.J0 with⟨rfl,va,H⟩|⟨b,I,f,H,bv,hc,hr⟩
   ·rw[H];refine Fo (olds:=[]) (xs:=[]) k1 T.ut T.hi T.hz T.sz T.zs (by simp) ?_ Y (λr x j tv hx=>by simp at hx) k2 (by simp;omega) (by rw[ao];exact hb) U;cases va with
    |none=>exact run_firstCells_none w.drew i.size 0 0 0
    |some ad=>exact run_firstCells_some w.drew i.size 0 ad 0 0 [] (by simp) (by simp)
   ·rw[H];obtain⟨olds,m1,m2,m3⟩:=OM (P:=P) (w:=w) (D:=eZ t') (cap:=xs.length) (M:=λr j=>some (.cE 0,[((r:Int),j)])) (c:=Gs.rc C {g with γ:=Al} w) (λr x j tv hx J=>hc r x j tv hx (by rwa[Pr] at J)) (λr x j tv hx J=>(hr r x j tv hx (by rwa[Pr] at J)).lift _);exact Fo k1 T.ut T.hi T.hz T.sz T.zs m1 (by rw[T.sz];exact m2) Y m3 k2 (by omega) (by rw[ao];exact hb) U
  ·simp at F
 ·simp at F
end
end
section
section
variable{P:Program}{C:Cx}{E:Env}{nt n:Nat}{o:Oper}{s b:TS}{g g1:Gs}{a:Act}{w d:World}{R:Type}{r:R}{γ1:Nat->G}{tv:TV}{v:Value}{K:TS->Option R}{X:Rt->dv->Prop}{nb:Nat->Prop}
def afM{t:Ty}(A:Ev.gJ t=false){x:TV}{y:El t}(D:dec t [x]=some y){c:Rc}{m:Option Gp}{u:Value}(M:Rd c m x u):u=jW t y:=by
 obtain⟨F,j,_,_,_,_⟩:=zL A false y;obtain⟨N,H⟩:=(tr false D).get;rw[j] at H;have e:=H 0 x F rfl rfl;have I:enc false t y=[F]:=j;cases t<;>simp[Ev.gJ] at A<;>simp only[enc,lN,jB] at I<;>subst I
 ·rcases e with rfl|⟨_,_,_,J⟩
  ·exact M.pE
  ·simp[sc] at J
 ·rcases e with rfl|⟨_,_,_,J⟩
  ·exact M.kz
  ·simp[sc] at J
 ·rcases e with rfl|⟨_,_,_,J⟩
  ·exact M.nT
  ·simp[sc] at J
def aaj(hC:ga P C)(h:cQ C E s g w)(l:eE nt g a)(hd:ij nt o.dst){t:Nat}{parts:Array (Nat×Operand)}(ho:o.op=.build t parts)(hx:∀p∈parts.toList,fD nt p.2=true){len:Nat}{e:Ty}(U:C.dj t=.ar len e)(hk:Ev.step C o s K=some r):
  gW P C E nt o g a w K r (λq=>(∃p∈parts.toList,ed s p.2 q)\/∃n,q=.cE n):=by
 simp only[Ev.step,ho,U] at hk;obtain⟨et,hu,Y,h1,_,y,aa⟩:=GK (hC.ty t) U;obtain⟨ab,ad,_⟩:=rQ Y;have ae:=(qm (hC.ty t) (by rw[U];rfl)).2.2.2.2;obtain⟨z,ap,af,i,hi,ah⟩:=NR (P:=P) (w:=w) ae;obtain⟨ie,ai,H⟩:=MZ (P:=P) (t:=et) ad;obtain⟨D,S,s',aq,k1,k2,k3,k4,k5,_⟩:=OH hC l (s0:=s) (Z:=λq=>∃p∈parts.toList,ed s p.2 q) parts.toList (γ:=g.γ) h hx (λp A q hq=>⟨p,A,hq⟩) (.refl _) hk;obtain⟨hn,aj⟩:=dY.1 k1;have hn:=gU hn;have ak:parts.toList.length=len:=by simpa using hn
 have am:z.cells.size=len:=by
  have:=congrArg List.length (OL (λv hv=>Xe y _ v hv) aa)
  rw[<-af] at this
  simpa using this
 have I:ie.size=1:=by rw[H,ab,h1]
 obtain⟨qC,m1,m2,m3,_⟩:=NU (size:=1) a parts.toList (n:=0) (arr:=z.cells) (λi p A=>by
  have au:=(eT.1 A).1
  obtain⟨vs,F,u⟩:=k4 i p (S[i]'(by omega)) A (eN _)
  exact⟨u.ix,by rw[u.len,F]⟩) (by rw[am,ak];simp);have hb:P.built t (parts.map λ(i,x)=>(i,a.eval x)).toList=some qC:=by
  unfold Program.built
  simp only[hi,hu,ah,ai,I]
  rw[Zu]
  exact m1
 have J:=run_build (P:=P) w t (parts.map λ(i,x)=>(i,a.eval x)) qC hb;have M:qC=(S.map (jW e)).toArray:=by
  apply Array.ext_getElem?
  intro j
  by_cases hj:j<len
  ·have A:parts.toList[j]?=some (parts.toList[j]'(by omega)):=eN _;have N:S[j]?=some (S[j]'(by omega)):=eN _;obtain⟨vs,F,u⟩:=k4 j _ _ A N;have h9:=m3 j _ 0 A (by omega);simp only[iB,Mi,rI] at h9
   match vs,F,u with
   |[an],_,u=>
    have av:(a.eval (parts.toList[j]'(by omega)).2).cells.size=1:=u.len;have Q:(a.eval (parts.toList[j]'(by omega)).2).cells[0]?=some ((a.eval (parts.toList[j]'(by omega)).2).cells[0]'(by omega)):=jN _;have ao:=(u.rd 0 an _ rfl (by rw[l7];exact Q)).1;rw[h9,Q,afM y u.dc ao];simp[N]
  ·rw[yl (by omega),yl (by simp;omega)]
 exact q6 (n:=0) (v:=.agg qC) k2 k5 h.cL.new l hd (by rw[M];exact .vec _ _ _ y) (by simp only[execOp,ho];simp[J]) aj
end
end
def Qj(a:Nat):Option Nat->Bool|some d=>Nat.blt d a|none=>true
def abr{a:Nat}{d:Option Nat}(h:Qj a d=true):ij a d:=by
 cases d with
 |none=>trivial
 |some d=>exact(by simpa[Qj,s6] using h:d<a)
def ON(C:Cx)(t:Nat):Bool:=
 match C.dj t with
 |.sl _ _ _=>true
 |.str=>true
 |_=>false
def Xf:Option Nat->Bool|none=>true|_=>false
def oA(P:Program)(C:Cx)(a:Nat)(o:Oper):Bool:=
 Qj a o.dst&&o.op.operands.toList.all (fD a)&&
 match o.op with
 |.store _ _ _=>Xf o.dst
 |.binOp _ t _ y _=>GY P C t y
 |.makeInterface t _=>(match C.dj t with|.iL=>false|_=>true)
 |.makeFunc (.func _) first _=>first.toList.isEmpty
 |.call c=>
  match c.callee with
  |.builtin .append=>(match c.args.toList,c.argTypes.toList with|[_,_],[_,e]=>ON C e|_,_=>false)
  |.builtin .len=>(match c.args.toList with|[_]=>true|_=>false)
  |.builtin .min=>(match c.args.toList with|[_,_]=>true|_=>false)
  |.builtin .max=>(match c.args.toList with|[_,_]=>true|_=>false)
  |_=>true
 |_=>true
section
section
variable{P:Program}{C:Cx}{E:Env}{nt n:Nat}{o:Oper}{s A:TS}{g g1:Gs}{a:Act}{w B:World}{R:Type}{r:R}{γ1:Nat->G}{tv:TV}{v:Value}{K:TS->Option R}{Z Z':Rt->Prop}{X u:Rt->dv->Prop}{nb LK:Nat->Prop}
def aac(hC:ga P C){t:Nat}(h:ON C t=true):(∃j,P.underlying t=some (.slice j))\/P.underlying t=some .string:=by
 unfold ON at h;split at h
 ·rename_i e;obtain⟨x,y,_⟩:=vn (hC.ty t) e;exact .inl ⟨x,y⟩
 ·rename_i e;exact .inr (u9 (hC.ty t) e)
 ·simp at h
def uN(h:oA P C nt o=true):ij nt o.dst/\∀x∈o.op.operands.toList,fD nt x=true:=by
 simp only[oA,dF,jC] at h;exact⟨abr h.1.1,h.1.2⟩
def Out.mono{X Y:Rt->dv->Prop}{d:Option Nat}{e:TS}{j:Act}{x:World}{g':Gs}(h:Out C E nt X d nb g w e j x g')(hx:∀q p,X q p->Y q p)(y:∀k,nb k->LK k):Out C E nt Y d LK g w e j x g':=⟨h.rel,h.Dx,h.gD.mono hx,h.tm,λk D=>h.bx k λF=>D (y k F)⟩
def vC.mono{x Ψ:Act->World->Prop}(h:vC P o a w x)(y:∀e j,x e j->Ψ e j):vC P o a w Ψ:=λnext Q D=>h next Q λe j F=>D e j (y e j F)
def kY.mono(h:kY P C E nt o g a w K r Z X nb)(hz:∀q,Z q->Z' q\/∃n,q=.cE n)(hx:∀q p,X q p->u q p)(x:∀k,nb k->LK k):kY P C E nt o g a w K r Z' u LK:=by
 obtain⟨y,D,F⟩:=h;refine⟨y,D,F.mono λM N⟨H,I⟩=>⟨H,I.mono (λq p j=>?_) x⟩⟩;rcases j with⟨e,J⟩|j
 ·refine .inl ⟨?_,J⟩;rcases e with e|e
  ·exact hz q e
  ·exact .inr e
 ·exact .inr (hx q p j)
def xP(s:TS)(o:Oper)(q:Rt):Prop:=∃x∈o.op.operands.toList,ed s x q
def Am(C:Cx)(s:TS)(o:Oper)(q:Rt)(p:dv):Prop:=∃t e x,o.op=.store t e x/\Qi (dn C s e) q p
def ra(o:Oper):Bool:=
 match o.op with
 |.call c=>(match c.callee with|.builtin _=>true|_=>false)
 |_=>true
def oZ(s:TS)(o:Oper)(q:Rt):Prop:=
 match o.op with
 |.move x=>ry x q
 |_=>xP s o q
def step_ok(hC:ga P C)(h:cQ C E s g w)(l:eE nt g a)(ae:oA P C nt o=true)(af:ra o=true)(J:Ev.step C o s K=some r):
  kY P C E nt o g a w K r (oZ s o) (Am C s o) (λk=>k∈mI o):=by
 obtain⟨N,hx⟩:=uN ae;have aa:=ae;simp only[oA,dF] at aa;have I:=aa.2;cases D:o.op with
 |move x=>exact((J5 hC h l N D (hx x (by simp[D,Op.operands])) J).mono (λq F=>by simp only[oZ,D];exact F)).b
 |assign x=>
  have H:∀x∈o.op.operands.toList,∀q,ed s x q->oZ s o q:=λx hx q F=>by simp only[oZ,D];exact⟨x,hx,F⟩
  exact((Sy h l N D (hx x (by simp[D,Op.operands])) hC.gl J).mono (λq F=>H x (by simp[D,Op.operands]) q F.1)).b
 |pick c x y=>
  have H:∀x∈o.op.operands.toList,∀q,ed s x q->oZ s o q:=λx hx q F=>by simp only[oZ,D];exact⟨x,hx,F⟩
  exact((OE hC h l N D (hx c (by simp[D,Op.operands])) (hx x (by simp[D,Op.operands])) (hx y (by simp[D,Op.operands])) J).mono (λq F=>F.elim (λF=>H x (by simp[D,Op.operands]) q (ed.z F)) (λF=>H y (by simp[D,Op.operands]) q (ed.z F)))).b
 |alloc t=>
  have H:∀x∈o.op.operands.toList,∀q,ed s x q->oZ s o q:=λx hx q F=>by simp only[oZ,D];exact⟨x,hx,F⟩
  exact(acC hC h l N D J).mono (λq F=>.inl F) (λ_ _ F=>F.elim) (λk F=>by simp only[mI,D];rw[F];simp[dH])
 |box t x=>
  have H:∀x∈o.op.operands.toList,∀q,ed s x q->oZ s o q:=λx hx q F=>by simp only[oZ,D];exact⟨x,hx,F⟩
  exact(afK hC h l N D (hx x (by simp[D,Op.operands])) J).mono (λq F=>.inl (H x (by simp[D,Op.operands]) q F)) (λ_ _ F=>F.elim) (λk F=>by simp only[mI,D];rw[F];simp[dH])
 |build t ps=>
  have H:∀x∈o.op.operands.toList,∀q,ed s x q->oZ s o q:=λx hx q F=>by simp only[oZ,D];exact⟨x,hx,F⟩
  have S:∀p∈ps.toList,fD nt p.2=true:=λp hp=>hx p.2 (by simp only[D,Op.operands];exact ik.2 ⟨p,hp,rfl⟩);have hz:∀q,(∃p∈ps.toList,ed s p.2 q)->oZ s o q:=λq⟨p,hp,F⟩=>H p.2 (by simp only[D,Op.operands];exact ik.2 ⟨p,hp,rfl⟩) q F;cases ht:C.dj t with
  |st t' m fs=>exact((aai hC h l N D S ht J).mono hz).b
  |ar len e=>exact(aaj hC h l N D S ht J).b.mono (λq F=>F.imp (hz q) id) (λ_ _ F=>F) (λ_ F=>F)
  |_=>simp[Ev.step,D,ht] at J
 |buildSlice t n ps=>
  have H:∀x∈o.op.operands.toList,∀q,ed s x q->oZ s o q:=λx hx q F=>by simp only[oZ,D];exact⟨x,hx,F⟩
  have S:∀p∈ps.toList,fD nt p.2=true:=λp hp=>hx p.2 (by simp only[D,Op.operands];exact ik.2 ⟨p,hp,rfl⟩);exact(Z3 hC h l N D S J).mono (λq⟨p,hp,F⟩=>.inl (H p.2 (by simp only[D,Op.operands];exact ik.2 ⟨p,hp,rfl⟩) q F)) (λ_ _ F=>F) (λ_ F=>F)
 |load t x=>
  have H:∀x∈o.op.operands.toList,∀q,ed s x q->oZ s o q:=λx hx q F=>by simp only[oZ,D];exact⟨x,hx,F⟩
  exact(U8 hC h l N D (hx x (by simp[D,Op.operands])) J).b
 |store t ad x=>
  have H:∀x∈o.op.operands.toList,∀q,ed s x q->oZ s o q:=λx hx q F=>by simp only[oZ,D];exact⟨x,hx,F⟩
  rw[D] at I;have ah:o.dst=none:=by
   cases ai:o.dst with
   |none=>rfl
   |some d=>rw[ai] at I;simp[Xf] at I
  exact(acB hC h l ah D (hx ad (by simp[D,Op.operands])) (hx x (by simp[D,Op.operands])) J).mono (λq F=>.inl (F.elim (H x (by simp[D,Op.operands]) q) (H ad (by simp[D,Op.operands]) q))) (λq p F=>⟨t,ad,x,D,F⟩) (λ_ F=>F)
 |nilCheck x=>
  have H:∀x∈o.op.operands.toList,∀q,ed s x q->oZ s o q:=λx hx q F=>by simp only[oZ,D];exact⟨x,hx,F⟩
  exact(Rp h l N D (hx x (by simp[D,Op.operands])) J).b
 |binOp op t x y t'=>
  have H:∀x∈o.op.operands.toList,∀q,ed s x q->oZ s o q:=λx hx q F=>by simp only[oZ,D];exact⟨x,hx,F⟩
  rw[D] at I;exact(Tz hC h l N D (hx x (by simp[D,Op.operands])) (hx y (by simp[D,Op.operands])) I J).b
 |unOp op t x=>
  have H:∀x∈o.op.operands.toList,∀q,ed s x q->oZ s o q:=λx hx q F=>by simp only[oZ,D];exact⟨x,hx,F⟩
  exact(U6 h l N D (hx x (by simp[D,Op.operands])) J).b
 |convert t t' x=>
  have H:∀x∈o.op.operands.toList,∀q,ed s x q->oZ s o q:=λx hx q F=>by simp only[oZ,D];exact⟨x,hx,F⟩
  exact aaG hC h l N D (hx x (by simp[D,Op.operands])) J
 |makeInterface t x=>
  have H:∀x∈o.op.operands.toList,∀q,ed s x q->oZ s o q:=λx hx q F=>by simp only[oZ,D];exact⟨x,hx,F⟩
  rw[D] at I;exact(Q7 hC h l N D J (λhb=>by simp[hb] at I)).b
 |makeFunc f first aj=>
  have H:∀x∈o.op.operands.toList,∀q,ed s x q->oZ s o q:=λx hx q F=>by simp only[oZ,D];exact⟨x,hx,F⟩
  cases f with
  |func fi=>
   rw[D] at I;have hf:first=#[]:=by simpa using I
   exact(Rq h l N D hf (λz hz=>hx z (by simp only[D,Op.operands,HD];exact eJ.2 (.inr hz))) J).b
  |_=>simp[Ev.step,D] at J
 |makeSlice t x y=>
  have H:∀x∈o.op.operands.toList,∀q,ed s x q->oZ s o q:=λx hx q F=>by simp only[oZ,D];exact⟨x,hx,F⟩
  exact aab hC h l N D (hx x (by simp[D,Op.operands])) (hx y (by simp[D,Op.operands])) J
 |slice t x lo hi mx=>
  have H:∀x∈o.op.operands.toList,∀q,ed s x q->oZ s o q:=λx hx q F=>by simp only[oZ,D];exact⟨x,hx,F⟩
  have hb:∀z:Option Operand,(∀y,z=some y->y∈o.op.operands.toList)->Dn nt z=true:=λz hz=>by
   cases z with
   |none=>rfl
   |some y=>exact hx y (hz y rfl)
  exact(TC hC h l N D (hx x (by simp[D,Op.operands])) (hb lo λy hy=>by simp[D,Op.operands,hy]) (hb hi λy hy=>by simp[D,Op.operands,hy]) (hb mx λy hy=>by simp[D,Op.operands,hy]) J).b
 |fieldAddr t x j=>
  have H:∀x∈o.op.operands.toList,∀q,ed s x q->oZ s o q:=λx hx q F=>by simp only[oZ,D];exact⟨x,hx,F⟩
  exact(Re hC h l N D (hx x (by simp[D,Op.operands])) J).b
 |field t x j=>
  have H:∀x∈o.op.operands.toList,∀q,ed s x q->oZ s o q:=λx hx q F=>by simp only[oZ,D];exact⟨x,hx,F⟩
  exact((acw hC h l N D (hx x (by simp[D,Op.operands])) J).mono (λq F=>H x (by simp[D,Op.operands]) q (ed.z F))).b
 |indexAddr t x i=>
  have H:∀x∈o.op.operands.toList,∀q,ed s x q->oZ s o q:=λx hx q F=>by simp only[oZ,D];exact⟨x,hx,F⟩
  exact(Rf hC h l N D (hx x (by simp[D,Op.operands])) (hx i (by simp[D,Op.operands])) J).b
 |index t x i=>
  have H:∀x∈o.op.operands.toList,∀q,ed s x q->oZ s o q:=λx hx q F=>by simp only[oZ,D];exact⟨x,hx,F⟩
  exact(TA hC h l N D (hx x (by simp[D,Op.operands])) (hx i (by simp[D,Op.operands])) J).b
 |extract x i=>
  have H:∀x∈o.op.operands.toList,∀q,ed s x q->oZ s o q:=λx hx q F=>by simp only[oZ,D];exact⟨x,hx,F⟩
  cases x with
  |tmp k=>exact((RU h l N D (hx _ (by simp[D,Op.operands])) J).mono (λq F=>H _ (by simp[D,Op.operands]) q (ed.z F.1))).b
  |_=>simp[Ev.step,D] at J
 |call c=>
  have H:∀x∈o.op.operands.toList,∀q,ed s x q->oZ s o q:=λx hx q F=>by simp only[oZ,D];exact⟨x,hx,F⟩
  obtain⟨U,args,Y⟩:=c;cases U with
  |value f=>simp[ra,D] at af
  |invoke f m=>simp[ra,D] at af
  |builtin b=>
   rw[D] at I;have M:∀x∈args.toList,fD nt x=true:=λx ab=>hx x (by simp[D,Op.operands,Call.operands];simpa using ab);have Q:∀x∈args.toList,x∈o.op.operands.toList:=λx ab=>by simp[D,Op.operands,Call.operands];simpa using ab
   obtain⟨args⟩:=args;obtain⟨Y⟩:=Y;cases b with
   |len=>
    match args,Y,D,I,M,Q with
    |[x],t::ts,D,I,M,Q=>exact(Wm hC h l N D (M x (by simp)) J).b
    |[],_,D,I,_,_=>simp at I
    |_::_::_,_,D,I,_,_=>simp at I
    |[_],[],D,I,_,_=>simp[Ev.step,D] at J
   |append=>
    match args,Y,D,I,M,Q with
    |[x,y],[t,tx],D,I,M,Q=>
     exact(abq hC h l N D (M x (by simp)) (M y (by simp)) (aac hC (by simpa using I)) J).mono (λq F=>by
      rcases F with F|F|F
      ·exact .inl (H x (Q x (by simp)) q F)
      ·exact .inl (H y (Q y (by simp)) q F)
      ·exact .inr F) (λ_ _ F=>F) (λ_ F=>F)
    |[],_,D,I,_,_=>simp at I
    |[_],_,D,I,_,_=>simp at I
    |_::_::_::_,_,D,I,_,_=>simp at I
    |[_,_],[],D,I,_,_=>simp at I
    |[_,_],[_],D,I,_,_=>simp at I
    |[_,_],_::_::_::_,D,I,_,_=>simp at I
   |min=>
    match args,D,I,M,Q with
    |[x,y],D,I,M,Q=>exact(Wk h l N D (M x (by simp)) (M y (by simp)) J).b
    |[],D,I,_,_=>simp at I
    |[_],D,I,_,_=>simp at I
    |_::_::_::_,D,I,_,_=>simp at I
   |max=>
    match args,D,I,M,Q with
    |[x,y],D,I,M,Q=>exact(Wl h l N D (M x (by simp)) (M y (by simp)) J).b
    |[],D,I,_,_=>simp at I
    |[_],D,I,_,_=>simp at I
    |_::_::_::_,D,I,_,_=>simp at I
   |_=>simp[Ev.step,D] at J
 |_=>simp[Ev.step,D] at J
end
end
section
section
variable{C:Cx}{s:TS}
def gk{a e j:Type}(o:Option a)(f:a->Option e)(K:e->Option j):(ck o f).bind K=ck o λx=>(f x).bind K:=by cases o<;>rfl
def fw{a R:Type}(b:Bool)(x y:Option a)(K:a->Option R):(bif b then x else y).bind K=bif b then x.bind K else y.bind K:=by cases b<;>rfl
def agH{a R:Type}(b:Bool)(x y:Option a)(K:a->Option R):(um b x y).bind K=um b (x.bind K) (y.bind K):=by cases b<;>rfl
def fE{a R:Type}(K:a->Option R):(none:Option a).bind K=none:=rfl
def Gk{e R:Type}(a:e)(K:e->Option R):(some a).bind K=K a:=rfl
def nQ{a R:Type}(p:Pl)(e:TV->Option a)(K:a->Option R):(j4 C s p e).bind K=j4 C s p λx=>(e x).bind K:=by
 rw[uZ,uZ];cases gn C s p<;>rfl
def Pt{a R:Type}(p:Pl)(e:TS->Option a)(K:a->Option R):(nf s p e).bind K=nf s p λx=>(e x).bind K:=by
 cases p with
 |cD k=>rfl
 |cell k c=>simp only[nf];cases s.box k<;>rfl
 |sub p t i c=>
  cases p with
  |cD k=>
   simp only[nf];cases s.cD k with
   |own d u y=>cases d<;>first|rfl|simp only[fw,fE]
   |_=>rfl
  |cell k j=>
   simp only[nf];cases s.box k with
   |cells A=>
    simp only[];cases nth A j with
    |own d u y=>cases d<;>first|rfl|simp only[fw,fE]
    |_=>rfl
   |_=>rfl
  |sub _ _ _ _=>rfl
def Wp{e R:Type}:∀(p:Pl)(a:TS->Option e)(K:e->Option R),(ub s p a).bind K=ub s p λx=>(a x).bind K
 |.cD k,_,_=>rfl
 |.cell k c,_,_=>by simp only[ub];cases s.box k<;>rfl
 |.sub p _ _ _,a,K=>by simp only[ub];exact Wp p a K
def Wq{e R:Type}(p:Pl)(a:TS->Option e)(K:e->Option R):(sE s p a).bind K=sE s p λx=>(a x).bind K:=by
 cases p with
 |cD k=>rfl
 |cell k c=>simp only[sE];cases s.box k<;>rfl
 |sub p _ _ _=>simp only[sE];exact Wp p a K
def Lr{e R:Type}(m:Bool->Pl->Bool)(v:TV)(j:TV->TS->Option e)(K:e->Option R):(cv C m v s j).bind K=cv C m v s λa b=>(j a b).bind K:=by
 cases v with
 |vw p t=>
  simp only[cv,nQ]
  congr 1;funext x
  cases x with
  |own d t u=>simp only[];cases m true p<;>simp only[Wq,Pt]
  |_=>rfl
 |sl p t0 y A=>
  simp only[cv,nQ]
  congr 1;funext x
  cases x with
  |own d t u=>
   simp only[fw,fE]
   congr 1
   cases m false p<;>simp only[Wq,Pt,gk]
  |eb t u=>simp only[fw,fE,gk]
  |_=>rfl
 |_=>rfl
def Da{u R:Type}(m:Bool->Pl->Bool):∀(e:List TV)(s:TS)(j:List TV->TS->Option u)(K:u->Option R),(pU C m e s j).bind K=pU C m e s λa b=>(j a b).bind K
 |[],s,j,K=>rfl
 |v::e,s,j,K=>by
  simp only[pU,Lr]
  congr 1;funext x y
  exact Da m e y _ K
def Pu{e R:Type}:∀(p:Pl)(f:TV->(TV->Option e)->Option e)(j:TV->(TV->Option R)->Option R)(a:TS->Option e)(K:e->Option R),(∀v(k:TV->Option e),(f v k).bind K=j v λx=>(k x).bind K)->(rk C s p f a).bind K=rk C s p j λx=>(a x).bind K
 |.cD k,f,j,a,K,u=>by simp only[rk,fw,fE,u]
 |.cell k c,f,j,a,K,u=>by
  simp only[rk];cases s.box k with
  |cells D=>simp only[u]
  |_=>rfl
 |.sub p t i c,f,j,a,K,u=>by
  simp only[rk];refine Pu p _ _ a K λv k=>?_;cases v with
  |own d y E=>
   cases d with
   |false=>rfl
   |true=>
    simp only[fw,fE,gk,u]
    congr 1
    congr 1
    funext x
    congr 1
    funext A;cases qk A<;>first|rfl|(cases dec y (ld (enc true y x) c A)<;>rfl)
  |_=>rfl
def nN{e R:Type}{t a:Ty}{xs:List (El t)}(j:List (El a)->Option e)(K:e->Option R):(castLT t a xs j).bind K=castLT t a xs λx=>(j x).bind K:=by
 unfold castLT;split<;>rfl
def xy{e R:Type}{t:Ty}{a:List TV}(j:El t->Option e)(K:e->Option R):(one? t a j).bind K=one? t a λx=>(j x).bind K:=by
 unfold one?;cases dec t a<;>rfl
def agI{a R:Type}(n:Nat)(e:Bool)(p:TV)(j:TV->Option a)(K:a->Option R):(uo C s n e p j).bind K=uo C s n e p λx=>(j x).bind K:=by
 cases p with
 |ptr k c=>simp only[uo];cases s.box k<;>first|rfl|simp only[fw,fE,gk]
 |pe k i=>simp only[uo];cases s.box k<;>first|rfl|simp only[fw,fE,gk]
 |ep p t i c=>simp only[uo,nQ];congr 1;funext x;cases x<;>first|rfl|simp only[fw,fE,gk]
 |ip u c=>simp only[uo,fw,fE]
 |iv t y=>simp only[uo,fw,fE,gk]
 |_=>rfl
def Wr{a R:Type}(p:TV)(n:Nat)(e:TV->Option a)(K:a->Option R):(rm p n e).bind K=rm p n λx=>(e x).bind K:=by
 cases p<;>first|rfl|simp only[rm,fw,fE]
def agJ{u R:Type}(e:Ty)(a:Nat)(x j:TV)(y:TV->Option u)(K:u->Option R):(uq C s e a x j y).bind K=uq C s e a x j λx=>(y x).bind K:=by
 cases j with
 |i k n=>
  cases x with
  |vw p t=>simp only[uq,nQ];congr 1;funext x;cases x<;>first|rfl|simp only[fw,fE,gk]
  |sl p t D E=>simp only[uq,nQ];congr 1;funext x;cases x<;>first|rfl|simp only[fw,fE,gk]
  |ptr k c=>simp only[uq];cases s.box k<;>first|rfl|simp only[fw,fE,gk]
  |eb t A=>simp only[uq,gk]
  |fS t A=>simp only[uq,gk]
  |iv t A=>simp only[uq,gk]
  |_=>rfl
 |_=>rfl
def agK{j R:Type}(e:BinOp)(k:IntKind)(a c:Int)(u:TV->Option j)(K:j->Option R):(Ak e k a c u).bind K=Ak e k a c λx=>(u x).bind K:=by
 cases e<;>first|rfl|simp only[Ak,gk]
def agL{j R:Type}(e:BinOp)(x y:TV)(u:TV->Option j)(K:j->Option R):(Du e x y u).bind K=Du e x y λx=>(u x).bind K:=by
 unfold Du;split
 ·simp only[fw,agK,fE]
 ·cases e<;>first|rfl|simp only[gk]
 ·cases e<;>rfl
 ·cases e<;>rfl
 ·rename_i a c;cases e<;>(try rfl)<;>(cases jK a c<;>rfl)
 ·rfl
def agM{e R:Type}(a:UnOp)(x:TV)(j:TV->Option e)(K:e->Option R):(LF a x j).bind K=LF a x λx=>(j x).bind K:=by
 cases a<;>cases x<;>rfl
def afN{a R:Type}(x:TV)(e:Int->Option a)(K:a->Option R):(GS C s x e).bind K=GS C s x λx=>(e x).bind K:=by
 cases x with
 |vw p t=>simp only[GS,nQ];congr 1;funext x;cases x<;>rfl
 |_=>rfl
def Ws{a R:Type}{t:Ty}(e:List (El t))(l h m:Int)(j:TV->Option a)(K:a->Option R):(Ab e l h m j).bind K=Ab e l h m λx=>(j x).bind K:=by
 simp only[Ab,gk]
def agN{j R:Type}(x:TV)(u y A:Option Operand)(D:TV->Option j)(K:j->Option R):(sM C s x u y A D).bind K=sM C s x u y A λx=>(D x).bind K:=by
 cases x with
 |s a=>simp only[sM];split<;>first|rfl|simp only[gk]
 |eb t e=>
  simp only[sM];split
  ·simp only[gk]
  ·split<;>first|rfl|exact Ws _ _ _ _ _ _
  ·rfl
 |fS t e=>
  simp only[sM];split
  ·simp only[gk]
  ·split<;>first|rfl|exact Ws _ _ _ _ _ _
  ·rfl
 |vw p t=>
  simp only[sM,nQ];congr 1;funext x;cases x with
  |own d E e=>
   simp only[fw,fE]
   congr 1
   split
   ·simp only[gk]
   ·split<;>first|rfl|simp only[gk]
   ·rfl
  |eb E e=>
   simp only[fw,fE]
   congr 1
   split
   ·simp only[gk]
   ·rfl
  |_=>rfl
 |sl p t a b=>simp only[sM];split<;>first|rfl|simp only[gk]
 |nil=>
  simp only[sM];split
  ·simp only[gk]
  ·split<;>first|rfl|simp only[gk]
  ·rfl
 |iq=>
  simp only[sM];split
  ·simp only[gk]
  ·split<;>first|rfl|simp only[gk]
  ·rfl
 |_=>rfl
def agO{e R:Type}(n:Nat)(p v:TV)(a:TS->Option e)(K:e->Option R):(G9 C s n p v a).bind K=G9 C s n p v λx=>(a x).bind K:=by
 unfold G9;split
 ·split
  ·rename_i k c;cases s.box k<;>first|rfl|simp only[fw,fE,gk]
  ·rfl
 ·split
  ·rename_i A D E;simp only[fw,fE,gk]
   congr 1
   congr 1
   funext y;refine Pu _ _ _ a K λv k=>?_;cases v with
   |own d u F=>
    cases d with
    |false=>rfl
    |true=>simp only[fw,fE,gk,xy]
   |_=>rfl
  ·rfl
 ·simp only[fw,fE,Da]
  congr 1
  congr 1
  funext H j;cases p with
  |ptr k c=>simp only[];cases j.box k<;>first|rfl|simp only[fw,fE]
  |pe k i=>simp only[];cases j.box k<;>first|rfl|simp only[xy,gk]
  |ep p t i c=>
   simp only[];refine Pu p _ _ a K λv k=>?_;cases v<;>first|rfl|simp only[fw,fE,gk,xy]
  |_=>rfl
end
end
section
section
variable{C:Cx}{s:TS}
def Wt{u R:Type}(t:Ty)(y:TV)(j:Bool->List (El t)->TS->Option u)(K:u->Option R):(mF C t y s j).bind K=mF C t y s λd e s=>(j d e s).bind K:=by
 cases y with
 |eb A e=>simp only[mF,nN]
 |fS A e=>simp only[mF,nN]
 |s a=>exact nN (t:=.int .u8) (xs:=dL a) (λe=>j true e s) K
 |vw p E=>
  simp only[mF,fw,nQ,Lr]
  congr 1
  ·congr 1;funext x;cases x<;>first|rfl|simp only[nN]
  ·congr 1;funext x D;cases x<;>first|rfl|simp only[nN]
 |sl p t0 F H=>
  simp only[mF,fw,nQ,Lr]
  congr 1
  ·congr 1;funext x;cases x<;>first|rfl|simp only[fw,fE,gk,nN]
  ·congr 1;funext x D;cases x<;>first|rfl|simp only[nN]
 |_=>rfl
def agP{e R:Type}(t:Ty)(a:Nat)(x y:TV)(j:TV->TS->Option e)(K:e->Option R):(xW C t a x y s j).bind K=xW C t a x y s λv s=>(j v s).bind K:=by
 simp only[xW,Wt]
 congr 1;funext d A s
 cases x with
 |vw p D=>
  simp only[nQ]
  congr 1;funext u
  cases u<;>first|rfl|simp only[nN,gk,fw,fE,Pt]
 |nil=>simp only[gk]
 |iq=>simp only[gk]
 |fS E F=>simp only[nN,gk]
 |_=>rfl
def Wu{j R:Type}(fs:List (Nat×Nat)):∀(a:List (Nat×Operand))(z:List TV)(s:TS)(e:List TV->TS->Option j)(K:j->Option R),(fill C fs a z s e).bind K=fill C fs a z s λu s=>(e u s).bind K
 |[],_,_,_,_=>rfl
 |(i,x)::a,z,s,e,K=>by
  simp only[fill];cases nX fs i with
  |none=>rfl
  |some q=>simp only[fw,fE,Da,Wu fs a]
def OO{u R:Type}(t:Ty)(e:Nat):∀(a:List (Nat×Operand))(n:Nat)(s:TS)(j:Bool->List (El t)->TS->Option u)(K:u->Option R),(xu C t e a n s j).bind K=xu C t e a n s λd y s=>(j d y s).bind K
 |[],_,_,_,_=>rfl
 |(i,x)::a,n,s,j,K=>by simp only[xu,fw,fE,Da,xy,OO t e a]
def afO{j R:Type}:∀(e:List Ty)(a:List TV)(u:qI e->Option j)(K:j->Option R),(kN s e a u).bind K=kN s e a λx=>(u x).bind K:=by
 intro e a u K;induction e generalizing a j with
 |nil=>cases a<;>(simp only[kN];try rfl)
 |cons t e y=>
  cases a with
  |nil=>simp only[kN];rfl
  |cons v a=>
   cases v with
   |ip A c=>
    cases c with
    |zero=>simp only[kN,xy,y]
    |succ n=>simp only[kN];rfl
   |ptr k c=>
    cases c with
    |zero=>simp only[kN];cases s.box k<;>first|rfl|simp only[xy,y]
    |succ n=>simp only[kN];rfl
   |_=>simp only[kN];rfl
def aeq{a R:Type}(v:TV)(e:TV->Option a)(K:a->Option R):(vj C s v e).bind K=vj C s v λx=>(e x).bind K:=by
 cases v with
 |vw p t=>simp only[vj,nQ];congr 1;funext x;cases x<;>rfl
 |sl p t j u=>simp only[vj,nQ];congr 1;funext x;cases x<;>first|rfl|simp only[fw,fE,gk]
 |_=>rfl
def Ve{j R:Type}:∀(a:List TV)(e:List TV->Option j)(K:j->Option R),(zQ C s a e).bind K=zQ C s a λx=>(e x).bind K
 |[],_,_=>rfl
 |v::a,e,K=>by simp only[zQ,aeq,Ve a]
def afP{j R:Type}(e u:Bool)(x:List TV)(y:List TV->TS->Option j)(K:j->Option R):(xM C e u x s y).bind K=xM C e u x s λa b=>(y a b).bind K:=by
 simp only[xM,fw,Da,Ve]
def agQ{y R:Type}(e:Bool)(p:dX)(v:TV)(A:p.T->(p.O->TS->TS)->TS->Option y)(K:y->Option R):(arg C e p v s A).bind K=arg C e p v s λa b c=>(A a b c).bind K:=by
 cases p with
 |val q=>
  cases v with
  |vec t j=>simp only[arg];cases q.dec (.vec t j)<;>rfl
  |_=>simp only[arg,afP];congr 1;funext a b;cases q.dec (ud _ a)<;>rfl
 |pb t m E=>
  simp only[arg];split
  ·rename_i k;cases s.box k<;>first|rfl|simp only[fw,fE,xy]
  ·rfl
 |pr t=>
  simp only[arg];split
  ·rename_i k t0 i;cases s.cD k with
   |own d u j=>cases d<;>first|rfl|simp only[fw,fE,nN,gk]
   |_=>rfl
  ·rename_i k c t0 i;cases s.box k with
   |cells x=>
    simp only[];cases nth x c with
    |own d u j=>cases d<;>first|rfl|simp only[fw,fE,nN,gk]
    |_=>rfl
   |_=>rfl
  ·rfl
 |mu t=>
  simp only[arg];split
  ·rename_i k D;cases s.cD k with
   |own d u j=>cases d<;>first|rfl|simp only[nN]
   |_=>rfl
  ·rename_i k c D;cases s.box k with
   |cells x=>
    simp only[];cases nth x c with
    |own d u j=>cases d<;>first|rfl|simp only[nN]
    |_=>rfl
   |_=>rfl
  ·rfl
 |bd=>
  simp only[arg];split
  ·rename_i k;cases s.box k<;>rfl
  ·rfl
 |rp t=>
  simp only[arg];split
  ·simp only[xy]
  ·rfl
 |fn g F=>
  simp only[arg];split
  ·simp only[fw,fE,afO]
  ·rfl
def Wv{A R:Type}(e:Bool):∀(j:List dX)(u:List TV)(s:TS)(y:oS j->(n8 j->TS->TS)->TS->Option A)(K:A->Option R),(args C e j u s y).bind K=args C e j u s λa b c=>(y a b c).bind K
 |[],[],s,_,_=>rfl
 |[],_::_,s,_,_=>by simp only[args];rfl
 |_::_,[],s,_,_=>by simp only[args];rfl
 |p::j,v::u,s,y,K=>by
  simp only[args,fw,fE,agQ]
  congr 1;congr 1;funext x E D
  exact Wv e j u D _ K
def aer{u R:Type}(g:Nat)(j:List TV)(e:Option Nat)(y:TS->Option u)(K:u->Option R):(C5 C g j s e y).bind K=C5 C g j s e λx=>(y x).bind K:=by
 simp only[C5];cases C.fn g (w9 j) with
 |none=>rfl
 |some c=>
  simp only[fw,fE,Wv,gk]
  congr 1;congr 1;funext a A D;congr 1;funext x
  cases xN C e c.rs (c.back x).1 (A (c.back x).2 D)<;>rfl
def afQ{u R:Type}(o:Oper)(A:TS->Option u)(K:u->Option R):(Ev.step C o s A).bind K=Ev.step C o s λx=>(A x).bind K:=by
 unfold Ev.step;cases o.op with
 |move x=>rfl
 |assign x=>
  simp only[];cases dn C s x<;>(cases o.dst<;>first|rfl|simp only[fw,fE,Lr])
 |pick c a b=>
  simp only[];cases dn C s c<;>first|rfl|simp only[agH]
 |alloc t=>
  simp only[];cases o.dst with
  |none=>rfl
  |some d=>
   simp only[];cases s.box d<;>(try rfl);simp only[];cases C.dj t<;>rfl
 |box t x=>
  simp only[];cases o.dst with
  |none=>rfl
  |some d=>
   simp only[];cases s.box d<;>(try rfl);simp only[];cases dn C s x<;>first|rfl|simp only[Da]
 |build t D=>
  simp only[];cases C.dj t with
  |st _ _ fs=>simp only[Wu]
  |ar n e=>simp only[OO,fw,fE]
  |_=>rfl
 |buildSlice t n D=>
  simp only[];cases C.dj t<;>first|rfl|simp only[fw,fE,OO]
 |load t a=>simp only[fw,fE,agI]
 |store t a x=>simp only[fw,fE,agO]
 |nilCheck x=>simp only[Wr]
 |binOp E t x y J=>simp only[fw,fE,agL]
 |unOp E t x=>simp only[agM]
 |fieldAddr t x j=>
  simp only[];cases C.dj t<;>(try rfl);simp only[];rename_i fs;cases nX fs j<;>first|rfl|simp only[Wr]
 |indexAddr t x i=>simp only[fw,fE,agJ]
 |index t x i=>
  simp only[fw,fE]
  congr 1
  split
  ·simp only[gk]
  ·simp only[gk,fw,fE]
  ·rfl
 |field t x j=>
  simp only[];split
  ·rename_i fs _ _;cases nX fs j<;>first|rfl|simp only[fw,fE]
  ·rfl
 |extract x i=>
  cases x with
  |tmp k=>
   simp only[];cases s.cD k<;>(try rfl);rename_i F;simp only[fw,fE]
   congr 1
   cases xO (nth F i)<;>rfl
  |_=>rfl
 |convert src H x=>
  simp only[fw,fE]
  congr 1
  split
  ·rfl
  ·rfl
  ·simp only[gk]
  ·simp only[fw,fE,nQ]
   congr 1;congr 1;funext v
   cases fq (.int .u8) v<;>rfl
  ·simp only[fw,fE,nQ]
   congr 1;congr 1;funext v
   cases fq (.int .u8) v<;>first|rfl|simp only[fw,fE,gk]
  ·rename_i v _ _ _ _;simp only[fw,fE]
   congr 1
   cases fq (.int .u8) _<;>rfl
  ·rfl
 |slice t x M N P=>simp only[fw,fE,agN]
 |makeSlice t l c=>
  simp only[];split
  ·simp only[gk]
  ·rfl
 |makeFunc f first I=>
  cases f with
  |func g=>simp only[fw,fE]
  |_=>rfl
 |makeInterface t x=>
  simp only[];cases C.dj t<;>rfl
 |call c=>
  simp only[];cases c.callee with
  |value x=>
   simp only[];cases dn C s x<;>first|rfl|simp only[fw,fE,aer]
  |invoke r m=>rfl
  |builtin b=>
   simp only[];split
   ·simp only[fw,fE,afN]
   ·split
    ·simp only[agP]
    ·rfl
   ·split<;>rfl
   ·split<;>rfl
   ·rfl
 |_=>rfl
def acF{R:Type}{r:R}{o:Oper}{K:TS->Option R}(h:Ev.step C o s K=some r):∃a,Ev.step C o s some=some a/\K a=some r:=by
 have e:=afQ (C:=C) (s:=s) o some K;simp only[Gk] at e;rw[<-e] at h;cases j:Ev.step C o s some with
 |none=>rw[j] at h;simp at h
 |some a=>rw[j] at h;exact⟨a,rfl,h⟩
end
end
def kp:Fl->dv->Prop|.l,_=>False|.s,a=>∃x:Int×Nat,a=[x]/\x.2<64|.d,_=>True
def pN:List Fl->Nat->Fl|[],_=>.l|f::_,0=>f|_::fs,j+1=>pN fs j
def Fp:∀(m:List Fl)(a:List TV)(j:Nat),(jz m a)[j]?=(a[j]?).map (vJ (pN m j))
 |[],a,j=>by
  simp only[jz,pN];cases a[j]? with
  |none=>rfl
  |some x=>cases x<;>rfl
 |f::fs,[],j=>by simp[jz]
 |f::fs,c::a,0=>by simp[jz,pN]
 |f::fs,c::a,j+1=>by simp only[jz,pN,Zm];exact Fp fs a j
def Fq:∀(m:List Fl)(a:List TV),(jz m a).length=a.length
 |[],a=>rfl
 |f::fs,[]=>rfl
 |f::fs,c::a=>by simp[jz,Fq fs a]
def Vf:∀{m:List Fl}{cs:List TV}{j:Nat}{e:TV},okF m cs=true->cs[j]?=some e->pL (pN m j) e=true
 |[],cs,j,e,_,_=>by simp[pN,pL]
 |f::fs,[],j,e,_,h=>by simp at h
 |f::fs,c::cs,0,e,a,h=>by
  simp only[okF] at a;simp at h;subst h;simp only[pN];cases u:pL f c with
  |true=>rfl
  |false=>rw[u] at a;simp at a
 |f::fs,c::cs,j+1,e,a,h=>by
  simp only[okF] at a;cases u:pL f c with
  |true=>rw[u,cP] at a;exact Vf (m:=fs) (cs:=cs) a (by simpa using h)
  |false=>rw[u] at a;simp at a
def EZ{f:Fl}{a:TV}(h:dN a=true):dN (vJ f a)=true:=by
 cases f<;>cases a<;>simp_all [vJ,dN]
structure Tn(c c':Rc)(K:dv->Prop)(q:Rt)(p:dv)(q':Rt)(p':dv):Prop where
 jI:∀b π,c.γ b=.at q (p++π)->K π->c'.γ b=.at q' (p'++π)
 j8:∀b π,c.γ b=.at q (p++π)->¬ K π->c'.γ b=.im
 heap:∀b π,c.γ b=.at q (p++π)->c'.w.heap[b]?=c.w.heap[b]?
def j9(c a:Rc):Prop:=∀b,c.γ b=.im->a.γ b=.im/\a.w.heap[b]?=c.w.heap[b]?
def Tn.sub{c e:Rc}{K j:dv->Prop}{q u:Rt}{p p':dv}(h:Tn c e K q p u p')(x:Int×Nat)(y:∀a,K (x::a)↔j a):Tn c e j q (p++[x]) u (p'++[x]) where
 jI b a hb hK:=by
  have:=h.jI b (x::a) (by simpa using hb) ((y a).2 hK);simpa using this
 j8 b a hb hK:=h.j8 b (x::a) (by simpa using hb) (λA=>hK ((y a).1 A))
 heap b a hb:=h.heap b (x::a) (by simpa using hb)
def Rd.all{c c':Rc}{q a:Rt}{p e:dv}{j:TV}{v:Value}(h:Rd c (some (q,p)) j v)(u:dN j=true)(E:j9 c c')(y:Tn c c' (λ_=>True) q p a e):Rd c' (some (a,e)) j v:=
 h.mono _ E (λH I A=>by
  simp only[di,eS] at A
  obtain⟨rfl,rfl⟩:=A
  exact⟨a,e,rfl,λb C D=>⟨y.jI b C D trivial,y.heap b C D⟩⟩) (λk F=>absurd F (kS u k)) (λr x=>absurd x (gz u r)) (λr x=>absurd x.mv (gz u r))
def Rd.Qk{c a:Rc}{q:Rt}{p:dv}{q':Rt}{p':dv}{e:TV}{v:Value}(h:Rd c (some (q,p)) e v)(A:dN e=true)(C:j9 c a)(j:Tn c a (λ_=>False) q p q' p')(m:Option Gp):Rd a m (kh e) v:=
 (h.j8 A C (λD E u b x y=>by
   simp only[di,eS] at u
   obtain⟨rfl,rfl⟩:=u
   exact⟨j.j8 b x y (λh=>h),j.heap b x y⟩)).lift m
open Classical in
noncomputable def sH(c e:Rc)(K:dv->Prop)(q:Rt)(p:dv):Nat->G:=λb=>
 if∃a,c.γ b=.at q (p++a)/\K a then c.γ b else if e.γ b=.im then .im else .fr
def Nl{c c':Rc}{q q':Rt}{p p':dv}{f:Fl}{a b:TV}{v:Value}(M:j9 c c')(H:Tn c c' (kp f) q p q' p')(C:Cd false a b)(Y:iF b=false)(N:pL f a=true)(hp:dN a=true)(h:Rd c (some (q,p)) a v):
  Rd c' (some (q',p')) (vJ f b) v:=by
 have I:∀(t:Ty)(ad:Option Addr),Rd c' (some (q',p')) (vJ f (.eb t [])) (.slice ad 0 0):=λt ad=>by
  cases f
  ·exact .kO _ _ _ _
  ·exact .jU _ _ _ _
  ·exact .jU _ _ _ _
 cases a with
 |b x=>
  rcases C with rfl|⟨t,xs,y,_⟩
  ·rw[h.pE];cases f<;>exact .b _ _
  ·simp[fq] at y
 |i k n=>
  rcases C with rfl|⟨t,xs,y,_⟩
  ·rw[h.kz];cases f<;>exact .i _ _ _
  ·simp[fq] at y
 |s x=>
  rcases C with rfl|⟨t,xs,y,_⟩
  ·rw[h.nT];cases f<;>exact .s _ _
  ·simp[fq] at y
 |nil=>
  cases h;rcases C with rfl|⟨t,xs,y,rfl⟩
  ·cases f<;>exact .nil _
  ·simp only[fq,di] at y;subst y;exact I _ _
 |iq=>
  cases h;rcases C with rfl|⟨t,xs,y,rfl⟩
  ·cases f<;>exact .iq _ _
  ·simp only[fq,di] at y;subst y;exact I _ _
 |eb t xs=>
  cases f with
  |s=>simp[pL] at N
  |d=>simp[pL] at N
  |l=>
   have e:b=.eb t xs:=by
    rcases C with rfl|⟨P,R,y,rfl⟩
    ·rfl
    ·rcases rT y with A|A|⟨d,A⟩|⟨A,_⟩|⟨A,_⟩<;>first|(cases A;rfl)|cases A
   subst e;have A:=h.Qk (m:=some (q',p')) rfl M ⟨λb D e E=>E.elim,λb D e E=>H.j8 b D e (λJ=>J),H.heap⟩ (q':=q') (p':=p');exact A
 |fS t xs=>
  cases f with
  |s=>simp[pL] at N
  |d=>simp[pL] at N
  |l=>
   have A:=h.Qk (m:=some (q',p')) rfl M ⟨λb D e E=>E.elim,λb D e E=>H.j8 b D e (λJ=>J),H.heap⟩ (q':=q') (p':=p');rcases C with rfl|⟨P,R,y,rfl⟩
   ·exact A
   ·rcases rT y with Q|Q|⟨d,Q⟩|⟨Q,_⟩|⟨Q,_⟩<;>first|(cases Q;exact Rd.zG A)|cases Q
 |own d t xs=>
  have e:b=.eb t xs:=by
   rcases C with rfl|⟨P,R,y,rfl⟩
   ·simp[iF] at Y
   ·rcases rT y with A|A|⟨d,A⟩|⟨A,_⟩|⟨A,_⟩<;>first|(cases A;rfl)|cases A
  subst e;cases f with
  |l=>exact h.Qk (q':=q') (p':=p') rfl M ⟨λb D e E=>E.elim,λb D e E=>H.j8 b D e (λJ=>J),H.heap⟩ _
  |d=>
   have hd:Rd c (some (q,p)) (.own true t xs) v:=by
    simp only[pL] at N
    cases S:eZ t with
    |true=>exact h.Cg S
    |false=>rw[S,cR] at N;subst N;exact h
   exact hd.all rfl M H
  |s=>
   have y:Rd {c' with γ:=sH c c' (kp .s) q p} (some (q,p)) (.own (eZ t) t xs) v:=by
    refine h.u5 (λb e=>?_) (λb P e=>?_) (λb r j D hj e=>?_)
    ·refine⟨?_,(M b e).2⟩;show sH c c' (kp .s) q p b=.im;rw[sH,cN (by rintro⟨D,F,_⟩;rw[e] at F;cases F),cM (M b e).1]
    ·refine⟨?_,H.heap b [tg P] e⟩;show sH c c' (kp .s) q p b=_;rw[sH,cM ⟨[tg P],e,tg P,rfl,FU P⟩];exact e
    ·refine⟨?_,H.heap b ((r,j)::D) e⟩;show sH c c' (kp .s) q p b=_;have U:¬ kp .s ((r,j)::D):=by
      rintro⟨x,hx,Z⟩
      simp only[lN] at hx
      obtain⟨rfl,_⟩:=hx
      simp at Z;omega
     rw[sH,cN,cM (H.j8 b _ e U)]
     ·rintro⟨aa,F,E⟩;rw[e] at F;simp only[G.at.injEq,vV,ajc] at F;subst F;exact U E
   refine y.mono (some (q',p')) (λb e=>?_) (λq1 p1 J=>?_) (λk E=>by cases E) (λr hr=>by cases hr) (λr hr=>by cases hr)
   ·have u:sH c c' (kp .s) q p b=.im:=e;refine⟨?_,rfl⟩;unfold sH at u;split at u
    ·exact(M b u).1
    ·split at u
     ·assumption
     ·cases u
   ·simp only[di,eS] at J;obtain⟨rfl,rfl⟩:=J;refine⟨q',p',rfl,λb D e=>⟨?_,rfl⟩⟩;have u:sH c c' (kp .s) q p b=.at q (p++D):=e;unfold sH at u;split at u
    ·rename_i F;obtain⟨aa,F,E⟩:=F;rw[u] at F;simp only[G.at.injEq,vV,ajc] at F;subst F;exact H.jI b _ u E
    ·split at u<;>cases u
 |_=>simp[dN] at hp
def NX{a b:TV}(h:Cd false a b)(e:dN b=true):dN a=true:=by
 rcases h with rfl|⟨t,u,j,_⟩
 ·exact e
 ·rcases rT j with rfl|rfl|⟨d,rfl⟩|⟨rfl,_⟩|⟨rfl,_⟩<;>rfl
def oT:VS->dv->Prop
 |.el _ m,a=>match a with|[]=>True|x::a=>kp (pN m x.2) a
 |.sl f _,a=>kp f a
 |_,_=>True
def Ii{t:Ty}{e:List TV}{x:El t}(A:Ev.dec t e=some x){j:Nat}{b:TV}(u:(enc false t x)[j]?=some b):∃a,e[j]?=some a/\Cd false a b:=by
 obtain⟨E,C⟩:=(tr false A).get;have D:=(eT.1 u).1;have y:e[j]?=some (e[j]'(by omega)):=eN _;exact⟨_,y,C j _ _ y u⟩
def RX{c D:Rc}{r H:Rt}{p I:dv}{m:List Fl}{t:Ty}{E:List TV}{x:El t}{vs:List Value}(M:j9 c D)(N:∀j,Tn c D (kp (pN m j)) r (p++[(0,j)]) H (I++[(0,j)]))(F:okF m E=true)(P:Ev.dec t E=some x)
  (Q:∀(j:Nat)e v,E[j]?=some e->vs[j]?=some v->Rd c (some (r,p++[(0,j)])) e v){j:Nat}{e:TV}{v:Value}(u:(jz m (enc false t x))[j]?=some e)(R:vs[j]?=some v):Rd D (some (H,I++[(0,j)])) e v/\dN e=true:=by
 rw[Fp] at u;cases y:(enc false t x)[j]? with
 |none=>rw[y] at u;simp at u
 |some b=>
  rw[y] at u;simp only[jx,di] at u;subst u;obtain⟨a,J,A⟩:=Ii P y;have C:=gj y;exact⟨Nl M (N j) A (sg y) (Vf F J) (NX A C) (Q j a v J R),EZ C⟩
def Ci{t:Ty}{m:List Fl}{e:TV}{x:El t}(y:(VS.el t m).dec e=some x):(∃a,e=.agg a/\Ev.gJ t=true/\okF m a=true/\Ev.dec t a=some x)\/(Ev.gJ t=false/\Ev.dec t [e]=some x/\∀a,e≠.agg a):=by
 have j:(bif Ev.gJ t then none else Ev.dec t [e]:Option (El t))=some x->Ev.gJ t=false/\Ev.dec t [e]=some x:=λh=>by
  cases u:Ev.gJ t with
  |true=>rw[u] at h;simp at h
  |false=>rw[u] at h;exact⟨rfl,h⟩
 cases e with
 |agg a=>
  have h:(bif Ev.gJ t then(bif okF m a then Ev.dec t a else none) else none:Option (El t))=some x:=y;obtain⟨C,A⟩:=dY.1 h;obtain⟨A,D⟩:=dY.1 A;exact .inl ⟨a,rfl,C,A,D⟩
 |_=>exact .inr ⟨(j y).1,(j y).2,by simp⟩
def FZ{t:Ty}{m:List Fl}{x:(VS.el t m).T}:(VS.el t m).enc x=(if Ev.gJ t=true then .agg (jz m (enc false t x)) else nth (enc false t x) 0):=by
 have h:(VS.el t m).enc x=bif Ev.gJ t then .agg (jz m (enc false t x)) else nth (enc false t x) 0:=rfl;rw[h];cases Ev.gJ t<;>rfl
def Fs{f:Fl}{t:Ty}{a:TV}{x:List (El t)}(e:(VS.sl f t).dec a=some x):pL f a=true/\fq t a=some x:=by
 have h:(bif pL f a then fq t a else none:Option (List (El t)))=some x:=e;exact dY.1 h
def E0{t:Ty}{a:TV}{x:List (El t)}(e:(VS.fS t).dec a=some x):a=.fS t x:=by
 cases a with
 |fS j u=>
  have h:(if h:j=t then some (j2 h u) else none:Option (List (El t)))=some x:=e;split at h
  ·rename_i y;subst y;simp only[j2,di] at h;rw[h]
  ·simp at h
 |_=>have h:(none:Option (List (El t)))=some x:=e;simp at h
def B8{t:Ty}{a:TV}{x:List (El t)}(e:(VS.vec t).dec a=some x):a=.vec t x:=by
 cases a with
 |vec j u=>
  have h:(if h:j=t then some (j2 h u) else none:Option (List (El t)))=some x:=e;split at h
  ·rename_i y;subst y;simp only[j2,di] at h;rw[h]
  ·simp at h
 |_=>have h:(none:Option (List (El t)))=some x:=e;simp at h
def Cj{a:TV}{x:Bool}(e:VS.er.dec a=some x):a=.er x\/(a=.lY/\x=false):=by
 cases a with
 |er y=>have h:(some y:Option Bool)=some x:=e;simp at h;exact .inl (by rw[h])
 |lY=>have h:(some false:Option Bool)=some x:=e;simp at h;exact .inr ⟨rfl,h⟩
 |_=>have h:(none:Option Bool)=some x:=e;simp at h
def Sz{t:Ty}{a:TV}{v:Value}{x:El t}{c c':Rc}{m m':Option Gp}(u:Ev.gJ t=false)(A:Ev.dec t [a]=some x)(h:Rd c m a v):Rd c' m' (nth (enc false t x) 0) v/\dN a=true/\dN (nth (enc false t x) 0)=true:=by
 obtain⟨C,y⟩:=(tr false A).get;cases t<;>simp[Ev.gJ] at u
 ·have e:=y 0 a _ rfl rfl;rcases e with rfl|⟨_,_,_,j⟩
  ·rw[h.pE];exact⟨.b _ _,rfl,rfl⟩
  ·simp[sc] at j
 ·have e:=y 0 a _ rfl rfl;rcases e with rfl|⟨_,_,_,j⟩
  ·rw[h.kz];exact⟨.i _ _ _,rfl,rfl⟩
  ·simp[sc] at j
 ·have e:=y 0 a _ rfl rfl;rcases e with rfl|⟨_,_,_,j⟩
  ·rw[h.nT];exact⟨.s _ _,rfl,rfl⟩
  ·simp[sc] at j
def sj{c F:Rc}{r P:Rt}{p Q:dv}{q:VS}{a:TV}{v:Value}{x:q.T}(H:j9 c F)(I:Tn c F (oT q) r p P Q)(e:q.dec a=some x)(h:Rd c (some (r,p)) a v):Rd F (some (P,Q)) (q.enc x) v:=by
 cases q with
 |el t m=>
  rcases Ci e with⟨cs,rfl,u,C,e⟩|⟨u,e,_⟩
  ·rw[FZ,cM u];cases h with
   |agg _ _ vs Z R S U=>
    obtain⟨D,_⟩:=(tr false e).get;have E:=λ(j:Nat)a v(y:(jz m (enc false t x))[j]?=some a)(A:vs.toList[j]?=some v)=>RX H (λj=>I.sub (0,j) (λπ=>HE)) C e (vs:=vs.toList) (λj a v y A=>U j a v y (by simpa using A)) y A;have J:vs.size=(jz m (enc false t x)).length:=by rw[Fq,R,D]
    have val:∀(j:Nat)a,(jz m (enc false t x))[j]?=some a->∃v,vs.toList[j]?=some v:=λj a y=>by
     have:=(eT.1 y).1
     exact⟨_,eN (by simp;omega)⟩
    refine .agg _ _ _ (λa M=>?_) J (λj a v y A=>?_) (λj a v y A=>(E j a v y (by simpa using A)).1)
    ·obtain⟨j,y⟩:=HF.1 M;obtain⟨v,A⟩:=val j a y;exact B7 (E j a v y A).2
    ·have N:j<cs.length:=by
       have:=(eT.1 y).1
       omega
     exact S j _ v (eN N) A
  ·rw[FZ,cN (by simp[u])];exact(Sz u e h).1
 |sl f t=>
  obtain⟨C,e⟩:=Fs e;have Y:dN a=true:=by rcases rT e with rfl|rfl|⟨d,rfl⟩|⟨rfl,_⟩|⟨rfl,_⟩<;>rfl
  exact Nl H I (.inr ⟨t,x,e,rfl⟩) rfl C Y h
 |fS t=>
  have:=E0 e;subst this;exact h.all rfl H I
 |vec t=>
  have:=B8 e;subst this;cases h with
  |vec _ _ _ u=>exact .vec _ _ _ u
 |er=>
  rcases Cj e with rfl|⟨rfl,rfl⟩
  ·cases h with
   |sO _ t x=>exact .sO _ _ _
   |sP=>exact .sP _
  ·cases h;exact .sP _
def CK(q:VS)(x:q.T):iz (q.enc x)=true/\∀k,¬ MB k (q.enc x):=by
 have u:∀{tv:TV},dN tv=true->iz tv=true/\∀k,¬ MB k tv:=λ{tv}h=>⟨by cases tv<;>simp_all [dN,iz,fO],λk=>kS h k⟩;cases q with
 |el t m=>
  rw[FZ];cases y:Ev.gJ t with
  |true=>
   rw[cM rfl];refine⟨?_,λk e=>by cases e⟩;simp only[iz,jC];intro tv A;obtain⟨j,a⟩:=HF.1 A;rw[Fp] at a;cases C:(enc false t x)[j]? with
   |none=>rw[C] at a;simp at a
   |some b=>rw[C] at a;simp only[jx,di] at a;subst a;simp[fO,EZ (gj C)]
  |false=>cases t<;>simp[Ev.gJ] at y<;>exact u rfl
 |sl f t=>exact u (EZ rfl)
 |fS t=>exact u rfl
 |vec t=>exact⟨rfl,λk e=>by cases e⟩
 |er=>exact⟨rfl,λk e=>by cases e⟩
def tS(c:Rc)(q:Rt)(b:Nat)(x:List TV):Prop:=∃a e fr,c.w.heap[b]?=some (.cells a e fr)/\vA a.size fr/\c.γ b=.at q []/\a.size=x.length/\(∀u∈x,jQ u=true)/\∀(j:Nat)u v,x[j]?=some u->a[j]?=some v->v.oneCell'=true/\Rd c (some (q,[(0,j)])) u v
def agR(c:Rc)(q:Rt)(b:Nat)(t:Ty)(j:List (El t)):Prop:=∃a e fr,c.w.heap[b]?=some (.cells a e fr)/\vA a.size fr/\c.γ b=.at q []/\Ev.gJ t=false/\a.toList=j.map (jW t)
def Vg{c a:Rc}{q e:Rt}{x:cq}{v:Value}(h:tQ c.γ c.w q x v)(j:Tn c a (λ_=>True) q [] e []):tQ a.γ a.w e x v:=h.move λg u=>⟨j.jI g _ u trivial,j.heap g _ u⟩
def xA(c:Rc)(q:Rt)(b:Nat)(x:cq):Prop:=∃p v,c.w.heap[b]?=some (.cells #[p,v] GJ (0,0))/\c.γ b=.at q []/\(p=.pointer none\/p=.pointer (some ⟨b,0,none⟩))/\tQ c.γ c.w q x v
def Ls(c:Rc)(q:Rt)(b:Nat):BC->Prop|.none=>True|.cells a=>tS c q b a|.vec t e=>agR c q b t e|.iL x=>xA c q b x
def u3{c:Rc}{k:Nat}{u:BC}:uf c k u↔Ls c (.box k) (c.bx k) u:=by cases u<;>exact HE
def sQ:gw->dv->Prop
 |.st _ m,a=>match a with|[]=>True|x::a=>kp (pN m x.2) a
 |.one s,a=>match a with|[]=>True|_::a=>oT s a
 |_,_=>True
def afR{a b:TV}(h:Dw a b=true):a=b:=by
 unfold Dw at h;split at h
 ·rfl
 ·rename_i k n e j
  by_cases u:k=e<;>by_cases x:n=0<;>by_cases y:j=0<;>simp_all
 ·rfl
 ·rfl
 ·simp at h
def Vh:∀{as e:List TV},sG as e=true->as=e
 |[],[],_=>rfl
 |[],_::_,h=>by simp[sG] at h
 |_::_,[],h=>by simp[sG] at h
 |a::as,b::e,h=>by
  simp only[sG] at h;cases j:Dw a b with
  |false=>rw[j] at h;simp at h
  |true=>rw[j,cP] at h;rw[afR j,Vh h]
def acG{q:VS}{x:q.T}{j:TV}{c:Rc}{m:Option Gp}{v:Value}(a:q.dec j=some x)(u:jQ j=true)(h:Rd c m j v):jQ (q.enc x)=true:=by
 cases q with
 |el t m=>
  rcases Ci a with⟨y,rfl,_,_,_⟩|⟨e,a,_⟩
  ·simp[jQ,fO,dN] at u
  ·rw[FZ,cN (by simp[e])];exact rO (Sz (c':=c) (m':=none) e a h).2.2
 |sl f t=>exact rO (EZ rfl)
 |fS t=>exact rO rfl
 |vec t=>have:=B8 a;subst this;simp[jQ,fO,dN] at u
 |er=>rcases Cj a with rfl|⟨rfl,_⟩<;>simp[jQ,fO,dN] at u
def aes{t:Ty}{m:List Fl}{u:BC}{x:El t}(e:qx (.st t m) u=some x):∃a,u=.cells a/\okF m a=true/\Ev.dec t a=some x:=by
 cases u with
 |cells a=>
  have h:(bif okF m a then Ev.dec t a else none:Option (El t))=some x:=e;obtain⟨j,y⟩:=dY.1 h;exact⟨a,rfl,j,y⟩
 |_=>have h:(none:Option (El t))=some x:=e;simp at h
def acH{s:VS}{u:BC}{x:s.T}(a:qx (.one s) u=some x):∃e,u=.cells [e]/\s.dec e=some x:=by
 cases u with
 |cells j=>
  match j,a with
  |[e],a=>exact⟨e,rfl,a⟩
  |[],a=>have h:(none:Option s.T)=some x:=a;simp at h
  |_::_::_,a=>have h:(none:Option s.T)=some x:=a;simp at h
 |_=>have h:(none:Option s.T)=some x:=a;simp at h
def acI{t:Ty}{u:BC}{x:List (El t)}(a:qx (.vec t) u=some x):u=.vec t x:=by
 cases u with
 |vec e j=>
  have h:(if h:e=t then some (j2 h j) else none:Option (List (El t)))=some x:=a;split at h
  ·rename_i y;subst y;simp only[j2,di] at h;rw[h]
  ·simp at h
 |_=>have h:(none:Option (List (El t)))=some x:=a;simp at h
def aet{a:List TV}{u:BC}{x:Unit}(e:qx (.zr a) u=some x):u=.cells a/\sG a a=true:=by
 cases u with
 |cells y=>
  have h:(bif sG a y then some () else none:Option Unit)=some x:=e;obtain⟨j,_⟩:=dY.1 h;have:=Vh j;subst this;exact⟨rfl,j⟩
 |_=>have h:(none:Option Unit)=some x:=e;simp at h
def acJ{u:BC}{x:cq}(a:qx .iL u=some x):u=.iL x:=by
 cases u with
 |iL y=>have h:(some y:Option cq)=some x:=a;simp at h;rw[h]
 |_=>have h:(none:Option cq)=some x:=a;simp at h
def aaI:∀{as x:List TV},sG as x=true->∀y∈as,dN y=true:=by
 intro as;induction as with
 |nil=>intro x _ y e;simp at e
 |cons a as A=>
  intro x u y e;cases x with
  |nil=>simp[sG] at u
  |cons b x=>
   simp only[sG] at u;cases j:Dw a b with
   |false=>rw[j] at u;simp at u
   |true=>
    rw[j,cP] at u;rcases eG.1 e with rfl|e
    ·unfold Dw at j;split at j<;>first|rfl|simp at j
    ·exact A u y e
def Ka{c c':Rc}{r Z:Rt}{b:Nat}{q:gw}{u:BC}{x:q.T}(R:j9 c c')(A:Tn c c' (sQ q) r [] Z [])(F:qx q u=some x)(h:Ls c r b u):Ls c' Z b (Dj q x):=by
 cases q with
 |st t m=>
  obtain⟨cs,rfl,S,F⟩:=aes F;obtain⟨vs,e,fr,I,M,C,H,N,J⟩:=h;obtain⟨P,_⟩:=(tr false F).get;have Q:=λ(j:Nat)y v(a:(jz m (enc false t x))[j]?=some y)(D:vs.toList[j]?=some v)=>RX R (λj=>A.sub (0,j) (λπ=>HE)) S F (vs:=vs.toList) (p:=[]) (λj y v a D=>(J j y v a (by simpa using D)).2) a D;have val:∀(j:Nat)y,(jz m (enc false t x))[j]?=some y->∃v,vs.toList[j]?=some v:=λj y a=>by
   have:=(eT.1 a).1
   rw[Fq] at this
   exact⟨_,eN (by simp;omega)⟩
  refine⟨vs,e,fr,(A.heap b [] C).trans I,M,A.jI b [] C trivial,(by rw[Fq,H,P]:vs.size=(jz m (enc false t x)).length),λy E=>?_,λj y v a D=>⟨?_,(Q j y v a (by simpa using D)).1⟩⟩
  ·obtain⟨j,a⟩:=HF.1 E;obtain⟨v,D⟩:=val j y a;exact rO (Q j y v a D).2
  ·have U:j<cs.length:=by
     have:=(eT.1 a).1
     rw[Fq] at this
     omega
   exact(J j _ v (eN U) D).1
 |one s=>
  obtain⟨y,rfl,F⟩:=acH F;obtain⟨vs,e,fr,I,M,C,H,N,J⟩:=h;have Y:vs[0]?=some (vs[0]'(by rw[H];simp)):=jN _;refine⟨vs,e,fr,(A.heap b [] C).trans I,M,A.jI b [] C trivial,H,λkQ E=>?_,λj kQ v a D=>?_⟩
  ·have E:kQ∈[s.enc x]:=E;rw[gf] at E;subst E;exact acG F (N y (by simp)) (J 0 y _ rfl Y).2
  ·have a:[s.enc x][j]?=some kQ:=a;cases j with
   |zero=>
    simp only[qS,di] at a;subst a;obtain⟨h7,h8⟩:=J 0 y v rfl D;exact⟨h7,sj R (A.sub (p:=[]) (p':=[]) (0,0) (λπ=>HE)) F h8⟩
   |succ j=>simp at a
 |vec t=>
  have:=acI F;subst this;obtain⟨vs,e,fr,I,M,C,H⟩:=h;exact⟨vs,e,fr,(A.heap b [] C).trans I,M,A.jI b [] C trivial,H⟩
 |zr cs=>
  obtain⟨rfl,hz⟩:=aet F;obtain⟨vs,e,fr,I,M,C,H,N,J⟩:=h;exact⟨vs,e,fr,(A.heap b [] C).trans I,M,A.jI b [] C trivial,H,N,λj y v a D=>⟨(J j y v a D).1,(J j y v a D).2.all (aaI hz y (fh a)) R (A.sub (p:=[]) (p':=[]) (0,j) (λπ=>HE))⟩⟩
 |iL=>
  have:=acJ F;subst this;obtain⟨p,v,I,C,H,N⟩:=h;exact⟨p,v,(A.heap b [] C).trans I,A.jI b [] C trivial,H,Vg N A⟩
section
def qD{a:Type}(k:Nat):List (Nat×a)->Option a
 |[]=>none
 |p::e=>if p.1=k then some p.2 else qD k e
def kpL:fK->dv->Prop|.val s,a=>oT s a|_,_=>True
def LL(sl:Nat->Option fK)(bx:Nat->Option gw):Rt->dv->Prop|.cD k,p=>∀s,sl k=some s->kpL s p|.box k,p=>∀s,bx k=some s->sQ s p|.cE _,_=>True
open Classical in
noncomputable def mB(γ:Nat->G)(sl:Nat->Option fK)(bx:Nat->Option gw):Nat->G:=λb=>
 match γ b with
 |.at q p=>if LL sl bx q p then .at q p else .im
 |x=>x
section
variable{γ:Nat->G}{sl:Nat->Option fK}{bx:Nat->Option gw}{b:Nat}{q:Rt}{p:dv}
def NY(h:γ b=.im):mB γ sl bx b=.im:=by unfold mB;rw[h]
def TG(h:γ b=.fr):mB γ sl bx b=.fr:=by unfold mB;rw[h]
def Ij(h:γ b=.at q p)(a:LL sl bx q p):mB γ sl bx b=.at q p:=by unfold mB;rw[h];simp only[];rw[cM a]
def Nn(h:γ b=.at q p)(a:¬ LL sl bx q p):mB γ sl bx b=.im:=by unfold mB;rw[h];simp only[];rw[cN a]
def acK(h:γ b=.at q p):mB γ sl bx b=.im\/mB γ sl bx b=.at q p:=by
 by_cases a:LL sl bx q p
 ·exact .inr (Ij h a)
 ·exact .inl (Nn h a)
def Vi(s:gw):sQ s []:=by cases s<;>trivial
def acL{w:World}(a:∀b,w.heap.size<=b->γ b=.fr):dK (λ_ _=>True) γ w (mB γ sl bx) w:=⟨λb h=>⟨NY h,rfl⟩,λb q p h hx=>absurd trivial hx,λb _ h=>⟨TG h,rfl⟩,iN _,λb h=>TG (a b h),rfl,rfl,rfl⟩
end
section
variable{C:Cx}{E:Env}{s:TS}{g:Gs}{w:World}{sl:Nat->Option fK}{bx:Nat->Option gw}
def Kb:∀(p:Pl),VO (g.rc C w) p->VO (Gs.rc C {g with γ:=mB g.γ sl bx} w) p
 |.cD _,_=>trivial
 |.cell k c,h=>by
  have y:g.γ (g.bx k)=.at (.box k) []:=h;exact Ij y (λs _=>Vi s)
 |.sub p t _ _,h=>by
  refine⟨Kb p h.1,λb o e j u=>?_⟩;rcases h.2 b o e j u with x|x
  ·have a:g.γ b=.im:=x;exact .inl (NY a)
  ·have a:g.γ b=.at (gp p).1 ((gp p).2++[tg t]):=x;exact acK a
def NZ:j9 (g.rc C w) (Gs.rc C {g with γ:=mB g.γ sl bx} w):=λb h=>⟨NY h,rfl⟩
def aeu{k:Nat}{sh:VS}(j:sl k=some (.val sh)):Tn (g.rc C w) (Gs.rc C {g with γ:=mB g.γ sl bx} w) (oT sh) (.cD k) [] (.cD k) [] where
 jI b u e hk:=Ij e (λs a=>by rw[j] at a;cases a;exact hk)
 j8 b u e hk:=Nn e (λx=>hk (x _ j))
 heap _ _ _:=rfl
def afS{k:Nat}{sh:gw}(j:bx k=some sh):Tn (g.rc C w) (Gs.rc C {g with γ:=mB g.γ sl bx} w) (sQ sh) (.box k) [] (.box k) [] where
 jI b u e hk:=Ij e (λs a=>by rw[j] at a;cases a;exact hk)
 j8 b u e hk:=Nn e (λx=>hk (x _ j))
 heap _ _ _:=rfl
def N0{c c':Rc}(hI:j9 c c'){m:Option Gp}{tm':Option Gp}:∀{y:List Ty}{J:List TV}{x:qI y},qL y J=some x->(kq y x).length=J.length/\(∀u∈kq y x,pW u=true/\∃F,u=.ip F 0)/\∀(j:Nat)u A v,J[j]?=some u->(kq y x)[j]?=some A->Rd c none u v->Rd c' none A v
 |[],[],x,_=>⟨rfl,by simp[kq],by simp⟩
 |[],_::_,x,h=>by simp[qL] at h
 |t::y,[],x,h=>by simp[qL] at h
 |t::y,v0::J,x,h=>by
  have aa:∃F M N,v0=.ip F 0/\Ev.dec t F=some M/\qL y J=some N/\x=(M,N):=by
   cases v0 with
   |ip F n=>
    cases n with
    |zero=>
     simp only[qL] at h
     cases H:Ev.dec t F with
     |none=>rw[H] at h;simp at h
     |some M=>
      cases e:qL y J with
      |none=>rw[H,e] at h;simp at h
      |some N=>rw[H,e] at h;exact⟨F,M,N,rfl,H,rfl,(gV h).symm⟩
    |succ n=>simp[qL] at h
   |_=>simp[qL] at h
  obtain⟨F,M,N,rfl,H,e,rfl⟩:=aa;obtain⟨h1,h2,h3⟩:=N0 hI (m:=m) (tm':=tm') e;refine⟨by simp[kq,h1],λu D=>?_,λj u A v hj I Y=>?_⟩
  ·simp only[kq,eG] at D;rcases D with rfl|D
   ·exact⟨by simp only[pW,jC];exact zf _ _ _,_,rfl⟩
   ·exact h2 u D
  ·cases j with
   |succ j=>exact h3 j u A v (by simpa using hj) (by simpa[kq] using I) Y
   |zero=>
    simp only[qS,di] at hj;simp only[kq,qS,di] at I;subst hj;subst I;cases Y with
    |ip _ _ _ b o f P hg hc Y=>
     obtain⟨ab,hh⟩:=hI b hg;refine .ip _ _ _ _ _ f (zf _ _ _) ab (λi u e=>?_) (λi u e=>?_)
     ·obtain⟨a,Z,_⟩:=Ii H e;rw[lP hh];exact hc i a Z
     ·obtain⟨a,Z,Q⟩:=Ii H e;have R:=Y i a Z;have af:=P a (fh Z);have ae:Rd c none u (f i):=by
       cases S:iF a with
       |false=>exact Q.frozen S R
       |true=>
        obtain⟨d,t',xs,rfl⟩:=wV S
        rcases R.lT with⟨rfl,ad,hv⟩|⟨q,p,_,_,_,_,_,_,_,hm,_⟩
        ·rw[hv];rcases Q with h9|⟨t2,ah,h9,rfl⟩
         ·rw[<-h9] at e;exact absurd (sg e) (by simp[iF])
         ·rcases rT h9 with U|U|⟨d2,U⟩|⟨U,_⟩|⟨U,_⟩<;>cases U;exact .kO _ _ _ _
        ·cases hm
      exact ae.mono none hI (λ_ _ h=>by simp at h) (λk hk=>absurd hk (kS (gj e) k)) (λp P=>absurd P (gz (gj e) p)) (λp P=>absurd P.mv (gz (gj e) p))
def aev(h:cQ C E s g w){k:Nat}{sh:fK}{x:sh.T}(hs:sl k=some sh)(y:GU sh (s.cD k)=some x):
  Rd (Gs.rc C {g with γ:=mB g.γ sl bx} w) (some (.cD k,[])) (Di sh x) (g.tm k):=by
 have D:=h.fQ k;cases sh with
 |val q=>exact sj NZ (aeu hs) y D
 |ptr k' c=>
  cases F:s.cD k with
  |ptr k2 c2=>
   rw[F] at y D;have e:(bif Nat.beq k' k2 then(bif Nat.beq c c2 then some () else none) else none:Option Unit)=some x:=y;obtain⟨H,A⟩:=dY.1 e;obtain⟨A,_⟩:=dY.1 A;have M:=gU H;have Q:=gU A;subst M;subst Q;generalize g.tm k=u at D⊢;cases D;exact .ptr _ _ _
  |_=>rw[F] at y;have e:(none:Option Unit)=some x:=y;simp at e
 |vw q t=>
  cases F:s.cD k with
  |vw p P=>
   rw[F] at y D;have e:(bif Pl.beq q p then(bif decide (P=t) then some () else none) else none:Option Unit)=some x:=y;obtain⟨H,A⟩:=dY.1 e;obtain⟨A,_⟩:=dY.1 A;have M:=KM H;have Q:P=t:=by simpa using A
   subst M;subst Q;generalize g.tm k=u at D⊢;cases D with
   |vw _ _ _ _ I J=>exact .vw _ _ _ _ (Kb _ I) J
  |_=>rw[F] at y;have e:(none:Option Unit)=some x:=y;simp at e
 |sv q t=>
  cases F:s.cD k with
  |sl p P lo hi=>
   rw[F] at y D;have e:(bif Pl.beq q p then(bif decide (P=t) then some (lo,hi) else none) else none:Option (Int×Int))=some x:=y;obtain⟨H,A⟩:=dY.1 e;obtain⟨A,N⟩:=dY.1 A;have M:=KM H;have Q:P=t:=by simpa using A
   subst M;subst Q;have N:=gV N;subst N;generalize g.tm k=u at D⊢;cases D with
   |sl _ _ _ _ _ a R S a' U I J H A N Y h5 h6=>exact .sl _ _ _ _ _ a R S a' U (Kb _ I) J H A N Y h5 h6
  |_=>rw[F] at y;have e:(none:Option (Int×Int))=some x:=y;simp at e
 |ep q t c=>
  cases F:s.cD k with
  |ep p P r c'=>
   rw[F] at y D;have e:(bif Pl.beq q p then(bif decide (P=t) then(bif Nat.beq c c' then some r else none) else none) else none:Option Int)=some x:=y;obtain⟨H,A⟩:=dY.1 e;obtain⟨A,N⟩:=dY.1 A;obtain⟨N,Y⟩:=dY.1 N;have M:=KM H;have Q:P=t:=by simpa using A
   have e3:=gU N;subst M;subst Q;subst e3;have Y:=gV Y;subst Y;generalize g.tm k=u at D⊢;cases D with
   |ep _ _ _ _ _ b o R S I J H A=>exact .ep _ _ _ _ _ b o R S (Kb _ I) J H A
  |_=>rw[F] at y;have e:(none:Option Int)=some x:=y;simp at e
 |fn gg ts=>
  cases F:s.cD k with
  |fn g' vs=>
   rw[F] at y D;have e:(bif Nat.beq gg g' then qL ts vs else none:Option (qI ts))=some x:=y;obtain⟨H,A⟩:=dY.1 e;have M:=gU H;subst M;generalize hu:g.tm k=u at D⊢;cases D with
   |fn _ _ _ ab hc hl hr=>
    obtain⟨l1,l2,l3⟩:=N0 (c:=g.rc C w) (c':=Gs.rc C {g with γ:=mB g.γ sl bx} w) NZ (m:=none) (tm':=none) A;refine .fn _ _ _ _ (λtv aa=>(l2 tv aa).1) (by rw[l1,hl]) (λj tv v hj F=>?_);have Z:j<vs.length:=by
     have:=(eT.1 hj).1
     omega
    exact l3 j _ tv v (eN Z) hj (hr j _ v (eN Z) F)
  |_=>rw[F] at y;have e:(none:Option (qI ts))=some x:=y;simp at e
def MJ(k:Nat):ql.get .un k=.un:=wo _ _ _
def M0(k:Nat):sr.get .none k=.none:=wo _ _ _
def SA:∀{a:List (Nat×fK)}{x:G6 a}(s:TS),xv a s=some x->∀k,(zR a x).get .un k=.un\/∃sh,∃y:sh.T,qD k a=some sh/\GU sh (s.cD k)=some y/\(zR a x).get .un k=Di sh y
 |[],x,s,_,k=>.inl (MJ k)
 |p::a,x,s,h,k=>by
  have H:∃j u,GU p.2 (s.cD p.1)=some j/\xv a s=some u/\x=(j,u):=by
   simp only[xv] at h
   cases D:GU p.2 (s.cD p.1) with
   |none=>rw[D] at h;simp at h
   |some j=>
    cases F:xv a s with
    |none=>rw[D,F] at h;simp at h
    |some u=>rw[D,F] at h;exact⟨j,u,rfl,rfl,(gV h).symm⟩
  obtain⟨j,u,D,F,rfl⟩:=H;have e:zR (p::a) (j,u)=(zR a u).set p.1 (Di p.2 j):=rfl;rw[e]
  by_cases I:p.1=k
  ·subst I;rcases yB .un (Di p.2 j) (zR a u) p.1 with A|A
   ·exact .inr ⟨p.2,j,by simp[qD],D,A⟩
   ·exact .inl A
  ·rw[wc _ _ _ _ _ I];rcases SA s F k with A|⟨sh,y,A,J,M⟩
   ·exact .inl A
   ·exact .inr ⟨sh,y,by simp[qD,I,A],J,M⟩
def SB:∀{a:List (Nat×gw)}{x:G7 a}(s:TS),xw a s=some x->∀k,(zS a x).get .none k=.none\/∃sh,∃y:sh.T,qD k a=some sh/\qx sh (s.box k)=some y/\(zS a x).get .none k=Dj sh y
 |[],x,s,_,k=>.inl (M0 k)
 |p::a,x,s,h,k=>by
  have H:∃j u,qx p.2 (s.box p.1)=some j/\xw a s=some u/\x=(j,u):=by
   simp only[xw] at h
   cases D:qx p.2 (s.box p.1) with
   |none=>rw[D] at h;simp at h
   |some j=>
    cases F:xw a s with
    |none=>rw[D,F] at h;simp at h
    |some u=>rw[D,F] at h;exact⟨j,u,rfl,rfl,(gV h).symm⟩
  obtain⟨j,u,D,F,rfl⟩:=H;have e:zS (p::a) (j,u)=(zS a u).set p.1 (Dj p.2 j):=rfl;rw[e]
  by_cases I:p.1=k
  ·subst I;rcases yB .none (Dj p.2 j) (zS a u) p.1 with A|A
   ·exact .inr ⟨p.2,j,by simp[qD],D,A⟩
   ·exact .inl A
  ·rw[wc _ _ _ _ _ I];rcases SB s F k with A|⟨sh,y,A,J,M⟩
   ·exact .inl A
   ·exact .inr ⟨sh,y,by simp[qD,I,A],J,M⟩
def No(h:cQ C E s g w){l:Live}{v:l.V}(j:l.dec s=some v):∃x,cQ C E (l.enc v) {g with γ:=x} w/\dK (λ_ _=>True) g.γ w x w:=by
 have H:∃a e,xv l.sl s=some a/\xw l.bx s=some e/\v=(a,e):=by
  simp only[Live.dec] at j
  cases A:xv l.sl s with
  |none=>rw[A] at j;simp at j
  |some a=>
   cases F:xw l.bx s with
   |none=>rw[A,F] at j;simp at j
   |some e=>rw[A,F] at j;exact⟨a,e,rfl,rfl,(gV j).symm⟩
 obtain⟨a,e,A,F,rfl⟩:=H;have D:dK (λ_ _=>True) g.γ w (mB g.γ (λk=>qD k l.sl) (λk=>qD k l.bx)) w:=acL h.cL.new;refine⟨_,h.nF (g':={g with γ:=mB g.γ (λk=>qD k l.sl) (λk=>qD k l.bx)}) D (λk=>.inl ?_) (λk=>.inl ?_),D⟩
 ·rcases SA s A k with u|⟨sh,y,u,I,J⟩
  ·have:(l.enc (a,e)).cD k=.un:=u;rw[this];exact .un _ _
  ·have:(l.enc (a,e)).cD k=Di sh y:=J;rw[this];exact aev h (sl:=λk=>qD k l.sl) u I
 ·rcases SB s F k with u|⟨sh,y,u,I,J⟩
  ·have:(l.enc (a,e)).box k=.none:=u;rw[this];trivial
  ·have:(l.enc (a,e)).box k=Dj sh y:=J;rw[this];exact u3.2 (Ka NZ (afS (bx:=λk=>qD k l.bx) u) I (u3.1 (h.boxes k)))
end
end
end Go.Sd
