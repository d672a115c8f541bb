/- The operations of the evaluator are sound against the model (second part). No conditions. -/
import Derived.Great.BuildSlice
import Derived.Deep.Upon
import Derived.Test.YtfnlbejcgjlclaaGreatDoorA
set_option linter.all false
namespace Go.Sd
open Go Go.RowKit
open Go.Ev hiding World Event Rd
section
def bZ(s:TS)(x:Operand)(q:Rt):Prop:=∃k,x=.tmp k/\(q=.slot k\/∃p,MV p (s.slot k)/\(gp p).1=q)
theorem bZ.less{s e:TS}{x:Operand}{q:Rt}(h:bZ e x q)(j:dL e s):bZ s x q:=by
 obtain⟨k,rfl,h⟩:=h;exact⟨k,rfl,h.imp id λ⟨p,u,y⟩=>⟨p,j k p u,y⟩⟩
theorem bZ.z{s:TS}{x:Operand}{q:Rt}(h:uC x q):bZ s x q:=by
 obtain⟨k,e,j⟩:=h;exact⟨k,e,.inl j⟩
theorem ac7{tv u:TV}{p:Pl}(e:u∈cellsOf tv)(x:MV p u)(y:∀j,tv=.agg j->∀u∈j,lh u=true):MV p tv:=by
 cases tv with
 |agg j=>
  simp only[cellsOf] at e;exact afq (y j rfl u e) e x
 |_=>simp only[cellsOf,fe] at e;subst e;exact x
theorem y5{C:Cx}{s:TS}(y:∀i p,¬ MV p (C.gl i)){x:Operand}{p:Pl}(h:MV p (aU C s x)):bZ s x (gp p).1:=by
 cases x with
 |tmp k=>
  refine⟨k,rfl,?_⟩;simp only[aU] at h;unfold o9 at h;split at h
  ·cases e:C.vs k<;>rw[e] at h<;>cases h;exact .inl rfl
  ·cases e:C.vs k<;>rw[e] at h<;>cases h;exact .inl rfl
  ·exact .inr ⟨p,h,rfl⟩
 |const v=>
  simp only[aU] at h;have A:∀v,¬ MV p (tq v):=λv h=>by unfold tq at h;split at h<;>cases h
  cases v with
  |agg D=>
   simp only[B1] at h;cases h with
   |agg _ t u=>
    simp only[gQ] at u;obtain⟨a,_,j⟩:=u;unfold tq at j;split at j<;>simp at j
  |_=>rw[Lr _ (by simp)] at h;exact absurd h (A _)
 |global i=>exact absurd h (y i p)
 |func n=>simp only[aU] at h;cases h
theorem amv(s:TS)(x:Operand):dL (iD s x) s:=by
 cases x with
 |tmp k=>
  simp only[iD];split
  ·exact dL.raw _ _ (λp e=>by cases e)
  ·exact dL.raw _ _ (λp e=>by cases e)
  ·exact .refl _
 |_=>exact .refl _
theorem Vo{c:Rc}{m:Option Gp}{tv:TV}{v:Value}(h:Rd c m tv v)(e:bC tv=true):v.oneCell'=true/\v.cells=#[v]:=by
 cases h<;>first|exact⟨rfl,rfl⟩|(simp[bC] at e)
theorem aa8{c:Rc}{n:Nat}{tv:TV}{v:Value}(h:Rd c (some (.aw n,[])) tv v)(J:(∃cs,tv=.agg cs)\/(∃cs,tv=.dM cs)\/fJ tv=true):
  ∃F:List Value,F.length=(cellsOf tv).length/\(∀(j:Nat)A D,(cellsOf tv)[j]?=some A->F[j]?=some D->tw c (.aw n,[(0,0+j)]) A D)/\((∃cs,tv=.agg cs/\v=.agg F.toArray/\(∀u∈cs,lh u=true)/\∀u∈F,u.oneCell'=true)\/((∀cs,tv≠.agg cs)/\F=[v])):=by
 rcases J with⟨cs,rfl⟩|⟨cs,rfl⟩|I
 ·cases h with
  |agg _ _ vs M N Q S=>
   refine⟨vs.toList,by simpa[cellsOf] using N,λj A D x y=>?_,.inl ⟨cs,rfl,by simp,M,λu U=>?_⟩⟩
   ·have:=(S j A D x (by simpa using y)).M7;simpa using this
   ·obtain⟨j,x,Y⟩:=q9 U;simp at x;have:=Q j _ u (cT (by omega)) (by rw[jX x,<-Y];simp);exact this
 ·refine⟨[v],rfl,λj A D x y=>?_,.inr ⟨by simp,rfl⟩⟩;cases j with
  |zero=>
   simp[cellsOf] at x y;subst x;exact⟨λp t e=>by simp at e,λp t lo hi e=>by simp at e,λe=>by simp[bC] at e⟩
  |succ j=>simp at y
 ·have bS:∀cs,tv≠.agg cs:=λcs e=>by subst e;simp[fJ] at I
  have H:cellsOf tv=[tv]:=by cases tv<;>first|rfl|simp[fJ] at I
  refine⟨[v],by rw[H];rfl,λj A D x y=>?_,.inr ⟨bS,rfl⟩⟩;rw[H] at x;cases j with
  |zero=>simp at x y;subst x;subst y;exact(h.anyM I _).M7
  |succ j=>simp at y
section
variable{P:Program}{C:Cx}{E:Env}{nt n:Nat}{o:Oper}{s s1:TS}{g g1:Gs}{a:Act}{w w1:World}{R:Type}{r:R}{K:TS->Option R}{Z:Rt->Prop}{γ1:Nat->G}{tv:TV}{v:Value}{X:Rt->aZ->Prop}{nb:Nat->Prop}
theorem RF(hC:eW P C)(h:Rel C E s g w)(l:cD nt g a){x:Operand}(hx:dW nt x=true){m:Bool->Pl->Bool}{K:List TV->TS->Option R}(n:Nat)(hk:rU C m (cellsOf (aU C s x)) (iD s x) K=some r):
  ∃y A e,K y A=some r/\Rel C E A {g with γ:=e} w/\(a.eval x).cells.toList.length=y.length/\y.length=(cellsOf (aU C s x)).length/\(∀tv∈y,bC tv=true)/\
   (∀(j:Nat)tv v,y[j]?=some tv->(a.eval x).cells.toList[j]?=some v->Rd (Gs.rc C {g with γ:=e} w) (some (.aw n,[(0,j)])) tv v/\v.oneCell'=true)/\FK (bZ s x) g.γ e/\dL A s:=by
 obtain⟨γ1,h1,H,hf⟩:=H9 (n:=n) h l hC.gl hx;obtain⟨xs,U,nX,Y⟩:=aa8 H (Pz hC.gl);obtain⟨y,A,e,h2,h3,I,J,h6,h7,h8⟩:=Xt (n:=n) (j0:=0) (cellsOf (aU C s x)) h1 U nX hk;have Lv:(a.eval x).cells.toList=xs:=by
  rcases Y with⟨cs,_,D,_⟩|⟨M,rfl⟩
  ·rw[D];rfl
  ·have N:cellsOf (aU C s x)=[aU C s x]:=by
     cases ho:aU C s x<;>first|rfl|exact absurd ho (M _)
   rw[N] at I
   match y,I with
   |[bP],_=>
    have:=h6 0 bP (a.eval x) rfl rfl;rw[(Vo this (J bP (by simp))).2]
 refine⟨y,A,e,h2,h3,by rw[Lv,U,I],I,J,λj tv v hj H=>?_,(hf.mono (λq Q=>bZ.z Q)).trans (h7.mono (λq Q=>?_)),h8.trans (amv s x)⟩
 ·rw[Lv] at H;have S:=h6 j tv v hj H;rw[iu] at S;exact⟨S,(Vo S (J tv (dH hj))).1⟩
 ·obtain⟨u,hu,p,hp,rfl⟩:=Q;refine y5 (λi=>(h.l9 i).1) (ac7 hu hp (λcs F=>?_));rcases Y with⟨gy,D,_,cH,_⟩|⟨M,_⟩
  ·rw[F] at D;simp only[TV.agg.injEq] at D;subst D;exact cH
  ·exact absurd F (M _)
theorem Rel.aq3(h:Rel C E s g w){F:Array Value}(H:Es w w1 F){d n:Nat}{u:BC}
  (I:xI (Gs.rc C ⟨iE (bV g.γ (.aw n) [] (.box d) []) w.heap.size (.at (.box d) []),λk=>if k=d then w.heap.size else g.bx k,g.tm⟩ w1) d u):
  Rel C E ((s.fq d).bx d u) ⟨iE (bV g.γ (.aw n) [] (.box d) []) w.heap.size (.at (.box d) []),λk=>if k=d then w.heap.size else g.bx k,g.tm⟩ w1/\
  bw (cW (.aw n) []) g.γ w (iE (bV g.γ (.aw n) [] (.box d) []) w.heap.size (.at (.box d) [])) w1:=by
 have J:∀b,w.heap.size<=b->bV g.γ (.aw n) [] (.box d) [] b=.fr:=λb M=>KH (h.aC.new b M);have y:bw (cW (.aw n) []) g.γ w (iE (bV g.γ (.aw n) [] (.box d) []) w.heap.size (.at (.box d) [])) w1:=
  ((ri h.aC.new (q1:=.aw n) (p1:=[]) (q2:=.box d) (p2:=[])).trans (WC H J (.at (.box d) []) (λ_ _=>False))).mono (λq p hx=>hx.elim id (λN=>N.elim));refine⟨(h.fq d).pf (s':=(s.fq d).bx d u) y (λk=>.inr ⟨rfl,rfl,λp hx=>by simp[cW] at hx,?_⟩) (λk=>?_),y⟩
 ·have x:∀p,MV p ((s.fq d).slot k)->(gp p).1≠.box d:=λp j e=>by
    rw[GF] at j
    have:=(xc (acW j)).2
    rw[yR.2 e] at this
    simp at this
  have D:∀p,MV p ((s.fq d).slot k)->VO (g.rc C w) p->_:=λp j A=>oU (C:=C) (g:=g) (g':=⟨iE (bV g.γ (.aw n) [] (.box d) []) w.heap.size (.at (.box d) []),λk=>if k=d then w.heap.size else g.bx k,g.tm⟩) y p A (qj y λq Q _ hx=>jo q n hx.1) (λ_ _ _=>rfl)
   (λi hi=>⟨aE (λe=>x p j (by rw[<-e];exact DE.1 hi)),λhx=>by simp[cW] at hx⟩);exact⟨λi hi=>aE (λe=>by rw[GF] at hi;exact(acV hi).2 e),λp j=>⟨(D p j (((h.fq d).eK k).xv j)).1,λA=>(D p j A).2⟩,λp j S hx=>jo p n hx.1⟩
 ·by_cases x:k=d
  ·subst x
   left
   rcases yJ (s.fq k) k u with e|e<;>rw[e]
   ·exact I
   ·trivial
  ·exact .inr ⟨yI _ u x,aE x,λp hx=>by simp[cW] at hx⟩
theorem WD(h:Rel C E s1 {g with γ:=γ1} w)(D:FK Z g.γ γ1)(F:∀b,w.heap.size<=b->g.γ b=.fr)(l:cD nt g a){d n:Nat}(y:o.dst=some d)(H:gN nt o.dst){I:Array Value}(J:Es w w1 I){u:BC}
  (M:xI (Gs.rc C ⟨iE (bV γ1 (.aw n) [] (.box d) []) w.heap.size (.at (.box d) []),λk=>if k=d then w.heap.size else g.bx k,g.tm⟩ w1) d u)
  (N:(execOp a.eval o).run P w=.ok (.value (.pointer (some ⟨w.heap.size,0,none⟩))) w1)(x:K (((s1.fq d).bx d u).put C d (.ptr d 0))=some r):lV P C E nt o g a w K r Z (λ_ _=>False) (λk=>o.dst=some k):=by
 obtain⟨Q,S⟩:=h.aq3 J (n:=n) M;have A:=Rd.ptr (c:=Gs.rc C ⟨iE (bV γ1 (.aw n) [] (.box d) []) w.heap.size (.at (.box d) []),λk=>if k=d then w.heap.size else g.bx k,g.tm⟩ w1) (some (.aw 0,[])) d 0;have U:(if d=d then w.heap.size else g.bx d)=w.heap.size:=aD rfl;simp only[Gs.rc,U] at A;refine G7 (n:=0) Q rfl (λk x=>aE (λe=>x (by rw[y,e]))) ?_ l H A N (by rw[y];exact x);refine((D.fK F).trans S).mono (λq p hx=>.inl ?_);rcases hx with⟨hx,j⟩|hx
 ·exact⟨.inl hx,j⟩
 ·exact⟨.inr ⟨n,hx.1⟩,λj=>by rw[hx.1] at j;simp[lU] at j⟩
theorem aq4(hC:eW P C)(h:Rel C E s g w)(l:cD nt g a)(hd:gN nt o.dst){t:Nat}{x:Operand}(ho:o.op=.box t x)(hx:dW nt x=true)(A:Ev.step C o s K=some r):lV P C E nt o g a w K r (bZ s x) (λ_ _=>False) (λk=>o.dst=some k):=by
 simp only[Ev.step,ho] at A;split at A
 ·rename_i d l8;split at A
  ·have gh:(execOp a.eval o).run P w=.ok (.value (.pointer (some ⟨w.heap.size,0,none⟩))) (w.alloc (.cells (a.eval x).cells t)):=by
     simp[execOp,ho,Instr.box,newVar,newRow]
   have M:∀{vs H y},Rel C E H {g with γ:=y} w->(a.eval x).cells.toList.length=vs.length->(∀tv∈vs,bC tv=true)->(∀(j:Nat)tv v,vs[j]?=some tv->(a.eval x).cells.toList[j]?=some v->Rd (Gs.rc C {g with γ:=y} w) (some (.aw 0,[(0,j)])) tv v/\v.oneCell'=true)->
     FK (bZ s x) g.γ y->K (((H.fq d).bx d (.cells vs)).put C d (.ptr d 0))=some r->lV P C E nt o g a w K r (bZ s x) (λ_ _=>False) (λk=>o.dst=some k):=by
    intro vs H y I hl hp hr N A
    refine WD (n:=0) I N h.aC.new l l8 hd (AJ w (a.eval x).cells t) ?_ gh A
    obtain⟨e,fr,Q,S,_⟩:=(AJ w (a.eval x).cells t).new
    have J:(if d=d then w.heap.size else g.bx d)=w.heap.size:=aD rfl
    have Na:∀b,w.heap.size<=b->bV y (.aw 0) [] (.box d) [] b=.fr:=λb F=>KH (I.aC.new b F)
    have BR:=WC (AJ w (a.eval x).cells t) Na (.at (.box d) []) (λ_ _=>False)
    refine⟨(a.eval x).cells,e,fr,by simp only[Gs.rc,J];exact Q,S,by simp only[Gs.rc,J];exact sK,by simpa using hl,λtv a8=>uU (hp tv a8),λj tv v hj D=>?_⟩
    have cG:(a.eval x).cells.toList[j]?=some v:=by simpa using D
    obtain⟨U,h6⟩:=hr j tv v hj cG
    refine⟨h6,?_⟩
    have Y:=hp tv (dH hj)
    refine U.mono _ (λb F=>?_) (λq p hq=>?_) (λi hi=>absurd hi (lQ Y i)) (λp iW=>absurd iW (fH Y p)) (λp iW=>absurd iW.mv (fH Y p))
    ·exact BR.im b (ua F)
    ·simp only[aQ,cZ] at hq;obtain⟨rfl,rfl⟩:=hq;refine⟨_,_,rfl,λb π F=>?_⟩;have aa:bV y (.aw 0) [] (.box d) [] b=.at (.box d) ([(0,j)]++π):=by
      have:=DH (q2:=.box d) (p2:=[]) (γ:=y) (q1:=.aw 0) (p1:=[]) (π:=[(0,j)]++π) (b:=b) (by have dS:y b=_:=F;simpa using dS)
      simpa using this
     exact BR.at' b _ _ aa (λN=>N)
   split at A
   ·rename_i t' xs bb;have D:=iS h l hx;rw[bb] at D;obtain⟨J,cH⟩:a.eval x=.agg (xs.map (ka t')).toArray/\Ev.fP t'=false:=by
     generalize iX x=m at D;generalize a.eval x=u at D;cases D;exact⟨rfl,by assumption⟩
    refine WD (n:=0) (γ1:=g.γ) h (.refl _) h.aC.new l l8 hd (AJ w (a.eval x).cells t) ?_ gh A;obtain⟨e,fr,Q,S,_⟩:=(AJ w (a.eval x).cells t).new;have IE:(if d=d then w.heap.size else g.bx d)=w.heap.size:=aD rfl;exact⟨(a.eval x).cells,e,fr,by simp only[Gs.rc,IE];exact Q,S,by simp only[Gs.rc,IE];exact sK,cH,by rw[J];rfl⟩
   ·obtain⟨du,H,y,I,h2,h3,h4,U,h6,h7,h8⟩:=RF hC h l hx 0 A;exact M h2 h3 U h6 h7 I
  ·simp at A
 ·simp at A
end
end
section
def iF(γ:Nat->G)(n:Nat)(e:Nat->Gp):Nat->G:=λb=>
 match γ b with
 |.at (.aw i) ((x,c)::p)=>if i=n/\x=0 then .at (e c).1 ((e c).2++p) else .at (.aw i) ((x,c)::p)
 |x=>x
theorem apy{γ:Nat->G}{n b j:Nat}{e:Nat->Gp}{p:aZ}(h:γ b=.at (.aw n) ((0,j)::p)):iF γ n e b=.at (e j).1 ((e j).2++p):=by simp[iF,h]
theorem QW{γ:Nat->G}{n b:Nat}{j:Nat->Gp}{q:Rt}{p:aZ}(h:γ b=.at q p)(u:q≠.aw n):iF γ n j b=.at q p:=by
 unfold iF;rw[h];split
 ·rename_i i x c A e;simp only[G.at.injEq] at e;obtain⟨rfl,rfl⟩:=e;rw[aE (λy=>u (by rw[y.1]))]
 ·rfl
theorem Lc{γ:Nat->G}{n:Nat}{τ:Nat->Gp}:FK (λq=>q=.aw n) γ (iF γ n τ) where
 im:=λb h=>by simp[iF,h]
 at':=λb q p h hz=>QW h (λe=>by have:=hz e;simp[lU,e] at this)
 fr:=λb h=>by simp[iF,h]
theorem Rd.Tl{c y:Rc}{n j:Nat}{τ:Nat->Gp}{tv:TV}{v:Value}(h:Rd c (some (.aw n,[(0,j)])) tv v)(e:bC tv=true)(D:y={c with γ:=iF c.γ n τ}):Rd y (some (τ j)) tv v:=by
 subst D;refine h.mono _ (λb u=>⟨Lc.im b u,rfl⟩) (λq p A=>?_) (λi hi=>absurd hi (lQ e i)) (λp x=>absurd x (fH e p)) (λp x=>absurd x.mv (fH e p));simp only[aQ,cZ] at A;obtain⟨rfl,rfl⟩:=A;exact⟨_,_,rfl,λb F u=>⟨apy (by simpa using u),rfl⟩⟩
section
variable{C:Cx}{E:Env}{s:TS}{g:Gs}{w:World}{γ':Nat->G}
theorem Rel.sR(h:Rel C E s g w)(e:FK (λq=>∃n,q=.aw n) g.γ γ'):Rel C E s {g with γ:=γ'} w:=h.grow (e.fK h.aC.new) (λq p hx=>hx.1)
theorem Rd.B9{Z:Rt->Prop}{m:Option Gp}{tv:TV}{v:Value}(h:Rd (g.rc C w) m tv v)(e:eE tv=true)(x:FK Z g.γ γ')(y:∀q p,m=some (q,p)->¬ Z q):Rd (Gs.rc C {g with γ:=γ'} w) m tv v:=by
 rcases afp e with e|rfl
 ·exact h.same (λb u=>⟨x.im b u,rfl⟩) (λq p j b A u=>⟨x.at' b _ _ u (λhz=>absurd hz (y q p j)),rfl⟩) (λi hi=>absurd hi (lQ e i)) (λp j=>absurd j (fH e p)) (λp j=>absurd j.mv (fH e p))
 ·exact .un _ _
end
theorem ab2{s:TS}{x:Operand}{n:Nat}:¬ bZ s x (.aw n):=by
 rintro⟨k,_,h|⟨p,_,h⟩⟩
 ·simp at h
 ·exact jo p n h
theorem aa9:∀(l:List Value)(cells:Array Value)(e j:Nat),((l.zipIdx j).foldl (λu(x:Value×Nat)=>u.setIfInBounds (e+x.2) x.1) cells).size=cells.size/\
  ∀k,((l.zipIdx j).foldl (λu(x:Value×Nat)=>u.setIfInBounds (e+x.2) x.1) cells)[k]?=if e+j<=k/\k<e+j+l.length/\k<cells.size then l[k-(e+j)]? else cells[k]?
 |[],cells,e,j=>⟨rfl,λk=>by simp only[List.zipIdx_nil,Ol,jZ];rw[aE (by omega)]⟩
 |v::l,cells,e,j=>by
  obtain⟨F,H⟩:=aa9 l (cells.setIfInBounds (e+j) v) e (j+1);simp only[List.zipIdx_cons,Aq];refine⟨by rw[F];simp,λk=>?_⟩;rw[H k];simp only[Om,fD]
  by_cases A:e+j=k
  ·subst A;rw[aE (by omega)]
   by_cases y:e+j<cells.size
   ·rw[aD (by omega),ayu y,Ao];rfl
   ·rw[aE (by omega),CI (by simp;omega),CI (by omega)]
  ·rw[akt A]
   by_cases D:e+(j+1)<=k/\k<e+(j+1)+l.length/\k<cells.size
   ·rw[aD D,aD (by omega)];rw[show k-(e+j)=(k-(e+(j+1)))+1 by omega,akv]
   ·rw[aE D,aE (by omega)]
theorem ab3{place:Nat->Option (Nat×Nat)}{cells:Array Value}{i off size:Nat}{v:Value}{rest:List (Nat×Value)}(x:place i=some (off,size))(A:v.cells.size=size)(D:off+size<=cells.size):
  ∃e:Array Value,Instr.fill place cells ((i,v)::rest)=Instr.fill place e rest/\e.size=cells.size/\(∀j,j<size->e[off+j]?=v.cells[j]?)/\(∀k,¬ (off<=k/\k<off+size)->e[k]?=cells[k]?):=by
 obtain⟨y,u⟩:=aa9 v.cells.toList cells off 0;refine⟨_,?_,y,λj F=>?_,λk H=>?_⟩
 ·simp only[Instr.fill,x];rw[aE (by simp;omega),<-Array.foldl_toList,Array.toList_zipIdx]
 ·rw[u,aD (by simp;omega)];simp
 ·rw[u,aE (by simp;omega)]
structure Tm(c:Rc)(q:Rt)(z:List TV)(arr:Array Value):Prop where
 len:arr.size=z.length
 rd:∀(j:Nat)tv v,z[j]?=some tv->arr[j]?=some v->eE tv=true/\v.oneCell'=true/\Rd c (some (q,[(0,j)])) tv v
section
variable{P:Program}{C:Cx}{E:Env}{nt n:Nat}{o:Oper}{s s1:TS}{g g1:Gs}{a:Act}{w w1:World}{R:Type}{r:R}{K:TS->Option R}{Z:Rt->Prop}{γ1:Nat->G}{tv:TV}{v:Value}{X:Rt->aZ->Prop}{nb:Nat->Prop}
theorem aeq(hC:eW P C){fs:List (Nat×Nat)}{place:Nat->Option (Nat×Nat)}(H:∀i e I,pN fs i=some (e,I)->place i=some (e,(C.aR I).sz))(l:cD nt g a){s0:TS}{Z:Rt->Prop}:∀(parts:List (Nat×Operand)){s:TS}{z:List TV}{γ:Nat->G}{arr:Array Value}{K:List TV->TS->Option R},
  Rel C E s {g with γ:=γ} w->(∀p∈parts,dW nt p.2=true)->(∀p∈parts,∀q,bZ s0 p.2 q->Z q)->dL s s0->Tm (Gs.rc C {g with γ:=γ} w) (.aw 0) z arr->fill C fs parts z s K=some r->
  ∃z' N γ' kZ,K z' N=some r/\Rel C E N {g with γ:=γ'} w/\Tm (Gs.rc C {g with γ:=γ'} w) (.aw 0) z' kZ/\Instr.fill place arr (parts.map λp=>(p.1,a.eval p.2))=some kZ/\FK (λq=>Z q\/∃n,q=.aw n) γ γ'
 |[],s,z,γ,arr,K,h,_,_,_,hz,A=>⟨z,s,γ,arr,A,h,hz,rfl,.refl _⟩
 |(i,x)::parts,s,z,γ,arr,K,h,hx,hZ,hl,hz,A=>by
  simp only[fill] at A;split at A
  ·rename_i e I hf;obtain⟨u,A⟩:=bQ.1 A;obtain⟨S,A⟩:=bQ.1 A;have u:=gr u;rw[Be] at u;have S:=yM.1 S;obtain⟨F,N,γ1,h1,h2,h3,h4,h5,h6,h7,h8⟩:=RF (g:={g with γ:=γ}) hC h (l.same rfl) (hx (i,x) (by simp)) 1 A;have jU:F.length=(C.aR I).sz:=by rw[h4,u]
   have U:=Lc (γ:=γ1) (n:=1) (τ:=λj=>(.aw 0,[(0,e+j)]));have J:Rel C E N {g with γ:=iF γ1 1 (λj=>(.aw 0,[(0,e+j)]))} w:=h2.sR (g:={g with γ:=γ1}) (U.mono (λq y=>⟨1,y⟩));obtain⟨kZ,tF,vW,Y,aa⟩:=ab3 (rest:=parts.map λp=>(p.1,a.eval p.2)) (H _ _ _ hf) (v:=a.eval x) (cells:=arr) ((show(a.eval x).cells.size=F.length by simpa using h3).trans jU) (by rw[hz.len];exact S);have zO:Tm (Gs.rc C {g with γ:=iF γ1 1 (λj=>(.aw 0,[(0,e+j)]))} w) (.aw 0) (rL z e F) kZ:=by
    refine⟨by rw[vW,hz.len,Hs];simp;omega,λj tv v D hv=>?_⟩
    rw[Hs] at D
    by_cases ab:e<=j/\j<e+(C.aR I).sz
    ·have Q:F[j-e]?=some tv:=by
       rw[kD,sB (by simp;omega),rb (by simp;omega)] at D
       simpa[show min e z.length=e by omega] using D
     have cG:(a.eval x).cells.toList[j-e]?=some v:=by
      have:=Y (j-e) (by omega)
      rw[show e+(j-e)=j by omega,hv] at this
      simpa using this.symm
     obtain⟨M,eg⟩:=h6 _ tv v Q cG;have dx:=h5 tv (dH Q);refine⟨by simp[eE,dx],eg,?_⟩;have:=M.Tl (τ:=λj=>(.aw 0,[(0,e+j)])) dx rfl;simp only[show e+(j-e)=j by omega] at this;exact this
    ·have cG:arr[j]?=some v:=by rw[<-aa j ab];exact hv
     have Q:z[j]?=some tv:=by
      by_cases p7:j<e
      ·rw[kD,rb (by simp;omega),q8] at D;simpa[p7] using D
      ·rw[sB (by simp;omega)] at D;simp only[dG,lv,An] at D;rw[show e+F.length+(j-(min e z.length+F.length))=j by omega] at D;exact D
     obtain⟨M,eg,il⟩:=hz.rd j tv v Q cG;refine⟨M,eg,?_⟩;have B6:=il.B9 (g:={g with γ:=γ}) (γ':=γ1) M h7 (λq p y=>by simp only[aQ,cZ] at y;rw[<-y.1];exact ab2);exact B6.B9 (g:={g with γ:=γ1}) (γ':=iF γ1 1 (λj=>(.aw 0,[(0,e+j)]))) M U (λq p y=>by simp only[aQ,cZ] at y;rw[<-y.1];simp)
   obtain⟨z2,s2,ad,YH,k1,k2,k3,k4,k5⟩:=aeq hC H l parts J (λp hp=>hx p (by simp[hp])) (λp hp=>hZ p (by simp[hp])) (h8.trans hl) zO h1;refine⟨z2,s2,ad,YH,k1,k2,k3,by simp only[mM];rw[tF];exact k4,?_⟩;refine((h7.mono (λq y=>.inl (hZ (i,x) (by simp) q (y.less hl)))).trans (U.mono (λq y=>.inr ⟨1,y⟩))).trans k5
  ·simp at A
theorem VT{t:TypeId}(h:zq P t=true):∃z,(zeroValue t).run P w=.ok z w/\z.cells.toList=nJ P t/\∃i,P.info? t=some i/\i.zero=some z:=by
 obtain⟨i,z,hi,hz,e⟩:=PB h;exact⟨z,by simp[zeroValue,typeInfo,hi,hz],e.symm,i,hi,hz⟩
theorem anJ(h:Rel C E s g w){z:List TV}{vs:List Value}(hz:kN z vs=true){arr:Array Value}(e:arr.toList=vs)(q:Rt):Tm (g.rc C w) q z arr:=by
 obtain⟨u,x⟩:=HL (c:=g.rc C w) (m:=λj=>some (q,[(0,j)])) hz;refine⟨by rw[<-u,<-e];simp,λj tv v y A=>?_⟩;obtain⟨D,F,H⟩:=x j tv v y (by rw[<-e];simpa using A);exact⟨H,F,D⟩
theorem ab4(hC:eW P C):∀{fs:List (Nat×Nat)}{u:List Field},qk fs u=true->(∀p∈fs,(C.aR p.2).var=true)->
  ∃pl,u.mapM (λf=>(P.info? f.type).map λi=>(f.offset,i.size))=some pl/\∀i e j,pN fs i=some (e,j)->pl[i]?=some (e,(C.aR j).sz)
 |[],[],_,_=>⟨[],rfl,λi e j h=>by simp[pN] at h⟩
 |[],_::_,h,_=>by simp[qk] at h
 |_::_,[],h,_=>by simp[qk] at h
 |(e,j)::fs,f::u,h,A=>by
  simp only[qk,bo,sy] at h;obtain⟨⟨⟨rfl,rfl⟩,_⟩,h⟩:=h;obtain⟨pl,D,F⟩:=ab4 hC h (λp H=>A p (by simp[H]));obtain⟨I,J,_⟩:=sN (hC.ty f.type) (A (f.offset,f.type) (by simp));obtain⟨i,hi,x⟩:=U4 (P:=P) (t:=f.type) (by omega);refine⟨(f.offset,i.size)::pl,by simp[List.mapM_cons,hi,D],λk e j y=>?_⟩;cases k with
  |zero=>
   simp only[pN,aQ,cZ] at y;obtain⟨rfl,rfl⟩:=y;simp[x,I]
  |succ k=>simpa using F k e j (by simpa[pN] using y)
theorem alo(hC:eW P C)(h:Rel C E s g w)(l:cD nt g a)(N:gN nt o.dst){t:Nat}{parts:Array (Nat×Operand)}(y:o.op=.build t parts)(hx:∀p∈parts.toList,dW nt p.2=true){S:Ty}{m:Nat}{fs:List (Nat×Nat)}(D:C.aR t=.st S m fs)(M:Ev.step C o s K=some r):
  gv P C E nt o g a w K r (λq=>∃p∈parts.toList,bZ s p.2 q):=by
 simp only[Ev.step,y,D] at M;obtain⟨gs,U,F,hz,Y⟩:=Sb (hC.ty t) D;have EM:=(sN (hC.ty t) (by rw[D];rfl)).2.2.2.2;obtain⟨z,Zu,mF,i,hi,zQ⟩:=VT (P:=P) (w:=w) EM;obtain⟨pl,dx,Zw⟩:=ab4 hC F Y;obtain⟨z',s',γ',kZ,h1,h2,A,h4,e⟩:=aeq (place:=(pl.toArray[·]?)) hC (λi H ft hf=>by simpa using Zw i H ft hf) l (s0:=s) (Z:=λq=>∃p∈parts.toList,bZ s p.2 q) parts.toList (γ:=g.γ) (arr:=z.cells) h hx (λp F q hq=>⟨p,F,hq⟩) (.refl _) (anJ h hz mF (.aw 0)) M;have hb:P.built t (parts.map λ(i,x)=>(i,a.eval x)).toList=some kZ:=by
  unfold Program.built
  simp only[hi,U,zQ,dx]
  rw[akB]
  exact h4
 have gh:=run_build (P:=P) w t (parts.map λ(i,x)=>(i,a.eval x)) kZ hb;have hh:=uc (P:=P) (o:=o) (n:=0) (v:=.agg kZ) h2 e h.aC.new l N (.agg _ _ _ (λtv a8=>?_) A.len (λj tv v u I=>(A.rd j tv v u I).2.1) (λj tv v u I=>(A.rd j tv v u I).2.2)) (by simp only[execOp,y];simp[gh]) h1
 ·obtain⟨s2,h6,h7⟩:=hh;exact⟨s2,h6,λnext Q hn=>h7 next Q (λa' w'⟨g',y⟩=>hn a' w' ⟨g',{y with fK:=y.fK.mono (λq p hx=>⟨by rcases hx.1 with(e|e)|e<;>first|exact .inl e|exact .inr e,hx.2⟩)}⟩)⟩
 ·obtain⟨j,u⟩:=tT a8;have J:=(da.1 u).1;have:=(A.rd j tv _ u (jX (by rw[A.len];exact J))).1;simp[lh,this]
end
end
section
theorem VU:∀{vs:List TV},deep vs=true->∀tv∈vs,sL tv=true
 |[],_,tv,h=>by simp at h
 |v::vs,e,tv,h=>by
  simp only[deep] at e;cases j:sL v with
  |false=>rw[j] at e;simp at e
  |true=>
   rw[j,aF] at e;rcases cO.1 h with rfl|h
   ·exact j
   ·exact VU e tv h
theorem VV{D:Bool}{t:Ty}{vs:List TV}{x:El t}(M:dec t vs=some x)(N:D=true->flat t=true\/deep vs=true){j:Nat}{b:TV}(u:(enc D t x)[j]?=some b):
  ∃F,vs[j]?=some F/\(D=true->∀c m v,Rd c m F v->Rd c m b v)/\(D=false->∀c m v,Rd c none (kH F) v->Rd c m b v):=by
 obtain⟨Y,J⟩:=(w7 D M).get;have Q:=(da.1 u).1;have H:vs[j]?=some (vs[j]'(by omega)):=cT _;refine⟨_,H,λI c m v y=>?_,λI c m v y=>?_⟩
 ·subst I;have A:=J j _ _ H u;rcases N rfl with S|U
  ·rcases A with e|⟨t',xs,h1,rfl⟩
   ·rw[<-e];exact y
   ·rw[oS S true false] at u;have:=vd u;simp[sc,iB] at this
  ·exact A.deep (VU U _ (bI _)) y
 ·subst I;have A:=J j _ _ H u;exact((A.ku (vd u)).frozen (ac1 _) y).lift m
section
variable{P:Program}{C:Cx}{E:Env}{nt n:Nat}{o:Oper}{s s1:TS}{g g1:Gs}{a:Act}{w w1:World}{R:Type}{r:R}{K:TS->Option R}{Z:Rt->Prop}{γ1:Nat->G}{tv:TV}{v:Value}{X:Rt->aZ->Prop}{nb:Nat->Prop}
structure Row(c:Rc)(a:Act)(t:Ty)(D:Bool)(k:Nat)(p:Nat×Operand)(x:El t)(vs:List TV):Prop where
 ix:p.1=k
 dc:dec t vs=some x
 pl:∀tv∈vs,bC tv=true
 len:(a.eval p.2).cells.size=vs.length
 dp:D=true->flat t=true\/deep vs=true
 rd:∀(j:Nat)tv v,vs[j]?=some tv->(a.eval p.2).cells.toList[j]?=some v->Rd c (some (.aw 0,[((k:Int),cj t j)])) tv v/\v.oneCell'=true
theorem WE(hC:eW P C){t:Ty}{sz:Nat}(l:cD nt g a){s0:TS}{Z:Rt->Prop}:∀(parts:List (Nat×Operand)){s:TS}{γ:Nat->G}{n:Nat}{K:Bool->List (El t)->TS->Option R},
  Rel C E s {g with γ:=γ} w->(∀p∈parts,dW nt p.2=true)->(∀p∈parts,∀q,bZ s0 p.2 q->Z q)->dL s s0->Br C t sz parts n s K=some r->
  ∃D Y s' F,K D Y s'=some r/\Rel C E s' {g with γ:=F} w/\Y.length=parts.length/\(∀(i:Nat)p x,parts[i]?=some p->Y[i]?=some x->∃vs,vs.length=sz/\Row (Gs.rc C {g with γ:=F} w) a t D (n+i) p x vs)/\FK (λq=>Z q\/∃n,q=.aw n) γ F/\
   ∀b k c H,k<n->γ b=.at (.aw 0) (((k:Nat),c)::H)->F b=.at (.aw 0) (((k:Nat),c)::H)
 |[],s,γ,n,K,h,_,_,_,J=>⟨true,[],s,γ,J,h,rfl,by simp,.refl _,λ_ _ _ _ _ h=>h⟩
 |(i,x)::parts,s,γ,n,K,h,hx,hZ,hl,J=>by
  simp only[Br] at J;obtain⟨hi,J⟩:=bQ.1 J;have hi:=gr hi;obtain⟨u,J⟩:=bQ.1 J;have u:=gr u;rw[Be] at u;obtain⟨du,s',γ1,h1,h2,h3,h4,h5,h6,h7,h8⟩:=RF (g:={g with γ:=γ}) hC h (l.same rfl) (hx (i,x) (by simp)) 1 J;unfold one? at h1;split at h1
  ·rename_i v nT;have jk:=Lc (γ:=γ1) (n:=1) (τ:=λj=>(.aw 0,[((n:Int),cj t j)]));have N:Rel C E s' {g with γ:=iF γ1 1 (λj=>(.aw 0,[((n:Int),cj t j)]))} w:=h2.sR (g:={g with γ:=γ1}) (jk.mono (λq A=>⟨1,A⟩));obtain⟨D,Y,s2,Q,k1,k2,k3,k4,k5,k6⟩:=WE hC l parts N (λp M=>hx p (by simp[M])) (λp M=>hZ p (by simp[M])) (h8.trans hl) h1;have dq:∀b k c H,k<n->γ b=.at (.aw 0) (((k:Nat),c)::H)->Q b=.at (.aw 0) (((k:Nat),c)::H):=λb k c H nY S=>by
    have aa:=h7.at' b _ _ S (λA=>absurd A ab2)
    have ab:iF γ1 1 (λj=>(.aw 0,[((n:Int),cj t j)])) b=_:=QW aa (by simp)
    exact k6 b k c H (by omega) ab
   refine⟨_,_,s2,Q,k1,k2,by simp[k3],λU p y M hy=>?_,?_,dq⟩
   ·cases U with
    |zero=>
     simp at M hy;subst M;subst hy;refine⟨du,by rw[h4,u],hi,nT,h5,by simpa using h3,λI=>?_,λj tv v hj hv=>?_⟩
     ·cases hf:flat t with
      |true=>exact .inl rfl
      |false=>
       rw[hf,aH] at I;cases hd:deep du with
       |true=>exact .inr rfl
       |false=>rw[hd] at I;simp at I
     ·obtain⟨h9,eg⟩:=h6 j tv v hj hv;have dx:=h5 tv (dH hj);refine⟨?_,eg⟩;have il:Rd (Gs.rc C {g with γ:=iF γ1 1 (λj=>(.aw 0,[((n:Int),cj t j)]))} w) (some (.aw 0,[((n:Int),cj t j)])) tv v:=h9.Tl (τ:=λj=>(.aw 0,[((n:Int),cj t j)])) dx rfl;refine il.same (λb S=>⟨k5.im b S,rfl⟩) (λq p A b H S=>?_) (λi hi=>absurd hi (lQ dx i)) (λp A=>absurd A (fH dx p)) (λp A=>absurd A.mv (fH dx p));simp only[aQ,cZ] at A;obtain⟨rfl,rfl⟩:=A;exact⟨k6 b n (cj t j) H (by omega) S,rfl⟩
    |succ U=>
     obtain⟨vs,jU,hr⟩:=k4 U p y (by simpa using M) (by simpa using hy);refine⟨vs,jU,?_⟩;have e:n.succ+U=n+(U+1):=by omega
     rw[e] at hr;refine{hr with dp:=λI=>?_};cases hf:flat t with
     |true=>exact .inl rfl
     |false=>
      rw[hf,aH] at I;cases hd:deep du with
      |false=>rw[hd] at I;simp at I
      |true=>rw[hd,aF] at I;have:=hr.dp I;rwa[hf] at this
   ·exact((h7.mono (λq A=>.inl (hZ (i,x) (by simp) q (A.less hl)))).trans (jk.mono (λq A=>.inr ⟨1,A⟩))).trans k5
  ·simp at h1
theorem VW{size:Nat}(a:Act):∀(parts:List (Nat×Operand)){n:Nat}{arr:Array Value},(∀(i:Nat)p,parts[i]?=some p->p.1=n+i/\(a.eval p.2).cells.size=size)->(n+parts.length)*size<=arr.size->
  ∃y,Instr.fill (λi=>some (i*size,size)) arr (parts.map λp=>(p.1,a.eval p.2))=some y/\y.size=arr.size/\(∀(i:Nat)p j,parts[i]?=some p->j<size->y[(n+i)*size+j]?=(a.eval p.2).cells[j]?)/\∀k,k<n*size->y[k]?=arr[k]?
 |[],n,arr,_,_=>⟨arr,rfl,rfl,by simp,λ_ _=>rfl⟩
 |(i,x)::parts,n,arr,F,H=>by
  obtain⟨hi,A⟩:=F 0 (i,x) rfl;simp only[uQ] at hi;subst hi;have e:∀k,(i+1+k)*size=i*size+size+k*size:=λk=>by rw[jY,jY,sA]
  simp only[fD] at H;rw[show i+(parts.length+1)=i+1+parts.length by omega,e] at H;obtain⟨D,M,I,N,Q⟩:=ab3 (rest:=parts.map λp=>(p.1,a.eval p.2)) (place:=λi=>some (i*size,size)) (i:=i) (off:=i*size) (cells:=arr) rfl A (by omega);obtain⟨S,k1,k2,k3,k4⟩:=VW a parts (n:=i+1) (arr:=D) (λj p u=>by have:=F (j+1) p (by simpa using u);exact⟨by rw[this.1];omega,this.2⟩) (by rw[e,I];omega);refine⟨S,by simp only[mM];rw[M];exact k1,by rw[k2,I],λj p c u J=>?_,λk U=>?_⟩
  ·cases j with
   |zero=>
    simp at u;subst u;have:=e 0;simp only[uQ,Oh] at this⊢;rw[k4 _ (by rw[this];omega),N c J]
   |succ j=>
    rw[show i+(j+1)=i+1+j by omega];exact k3 j p c (by simpa using u) J
  ·have:=e 0;simp only[uQ,Oh] at this;rw[k4 k (by rw[this];omega),Q k (by omega)]
theorem ak9(hC:eW P C)(h:Rel C E s g w)(l:cD nt g a)(hd:gN nt o.dst){t len:Nat}{parts:Array (Nat×Operand)}(ho:o.op=.buildSlice t len parts)(hx:∀p∈parts.toList,dW nt p.2=true)(M:Ev.step C o s K=some r):
  lV P C E nt o g a w K r (λq=>∃p∈parts.toList,bZ s p.2 q) X nb:=by
 simp only[Ev.step,ho] at M;split at M
 ·rename_i e sz cF bY;obtain⟨hn,M⟩:=bQ.1 M;have hn:=gr hn;obtain⟨Y,M⟩:=bQ.1 M;have Y:len*sz<=16777216:=akC Y;obtain⟨et,hu,fX,am,_⟩:=zg (hC.ty t) bY;subst am;obtain⟨iY,iM,hz,mF,_⟩:=uW fX;obtain⟨i,z,hi,zQ,IC⟩:=PB hz;have Mp:i.size=aA e:=by rw[<-iY];simp[Program.cellsOf,hi]
  obtain⟨D,xs,s',y,h1,h2,h3,h4,h5,_⟩:=WE hC l (s0:=s) (Z:=λq=>∃p∈parts.toList,bZ s p.2 q) parts.toList (γ:=g.γ) h hx (λp Q q N=>⟨p,Q,N⟩) (.refl _) M;have dx:parts.toList.length=len:=by simpa using hn
  have nz:xs.length=len:=by rw[h3,dx]
  obtain⟨U,k1,k2,k3,_⟩:=VW (size:=aA e) a parts.toList (n:=0) (arr:=madeCells z.cells (len*aA e)) (λi p Q=>by
   have ao:=(da.1 Q).1
   obtain⟨vs,jU,H⟩:=h4 i p (xs[i]'(by omega)) Q (cT _)
   exact⟨H.ix,by rw[H.len,jU]⟩) (by rw[size_madeCells,dx];simp);have gh:(Instr.buildSlice t len (parts.map λ(i,x)=>(i,a.eval x))).run P w=.ok (.slice (some ⟨w.heap.size,0,none⟩) len len) (w.alloc (.cells U et)):=by
   by_cases aa:len=0
   ·subst aa;have zS:parts=#[]:=Array.size_eq_zero_iff.1 hn;subst zS;simp only[wP,Instr.fill,aQ] at k1;subst k1;simp[Instr.buildSlice,run_underlying hu,sizeOf,typeInfo,hi,Instr.fill,newRow,madeCells,Array.range_zero']
   ·have ap:=QM e;refine run_buildSlice w t et len _ U i z hu hi zQ (by rw[Mp];omega) (by rw[Mp];exact Nat.mul_ne_zero aa (by omega)) ?_;rw[Mp,akB];exact k1
  have ab:∀(r:Nat)x(j:Nat)tv,xs[r]?=some x->(enc D e x)[j]?=some tv->∃(vs:List TV)(F:TV)(u:Value),vs[j]?=some F/\bC F=true/\U[r*aA e+j]?=some u/\u.oneCell'=true/\Rd (Gs.rc C {g with γ:=y} w) (some (.aw 0,[((r:Int),cj e j)])) F u/\(D=true->∀c m v,Rd c m F v->Rd c m tv v)/\(D=false->∀c m v,Rd c none (kH F) v->Rd c m tv v):=λr x j tv A I=>by
   have qM:=(da.1 A).1
   have Q:parts.toList[r]?=some (parts.toList[r]'(by omega)):=cT _
   obtain⟨vs,jU,H⟩:=h4 r _ x Q A
   obtain⟨F,tH,hA,hB⟩:=VV H.dc H.dp I
   have xX:=(da.1 tH).1
   have To:(a.eval (parts.toList[r]'(by omega)).2).cells.toList[j]?=some ((a.eval (parts.toList[r]'(by omega)).2).cells[j]'(by rw[H.len];exact xX)):=by
    rw[cT (by rw[Jb,H.len];exact xX)];simp
   obtain⟨h6,h7⟩:=H.rd j F _ tH To
   refine⟨vs,F,_,tH,H.pl F (dH tH),?_,h7,by simpa using h6,hA,hB⟩
   have:=k3 r _ j Q (by rw[<-jU];exact xX)
   rw[iu] at this
   rw[this,jX (by rw[H.len];exact xX)]
  have EI:∀J,Rel C E s' {g with γ:=J} w->FK (λq=>(∃p∈parts.toList,bZ s p.2 q)\/∃n,q=.aw n) g.γ J->(∀(r:Nat)x(j:Nat)tv,xs[r]?=some x->(enc D e x)[j]?=some tv->∃u,U[r*aA e+j]?=some u/\u.oneCell'=true/\Rd (Gs.rc C {g with γ:=J} w) (some (.aw 0,[((r:Int),cj e j)])) tv u)->
    lV P C E nt o g a w K r (λq=>∃p∈parts.toList,bZ s p.2 q) X nb:=by
   intro J ad jk hc
   obtain⟨h6,h7,h8⟩:=QV (n:=0) (d:=D) (t:=e) (xs:=xs) (cap:=len) ad (AJ w U et) (λr j=>U[r*aA e+j]?.getD undef) (by omega) (by rw[k2,size_madeCells];exact iI _)
    (λr x j tv A I=>by obtain⟨u,S,Nb,_⟩:=hc r x j tv A I;rw[S];exact⟨rfl,Nb⟩)
    (λr x j tv A I=>by obtain⟨u,S,_,Nc⟩:=hc r x j tv A I;rw[S];exact Nc)
   rw[nz] at h7
   refine G7 (n:=0) h6 rfl (λ_ _=>rfl) ?_ l hd h7 (by simp only[execOp,ho];simp[gh]) h1
   exact((FK.xz jk h.aC.new).trans h8).mono (λq p A=>.inl (A.elim id (λhf=>hf.elim)))
  cases D with
  |true=>
   exact EI y h2 h5 (λr x j tv A I=>by
    obtain⟨vs,F,u,_,_,S,Nb,Nc,hA,_⟩:=ab r x j tv A I
    exact⟨u,S,Nb,hA rfl _ _ _ Nc⟩)
  |false=>
   have mG:=FK.ku (γ:=y) (q1:=.aw 0) (p1:=[]) Dw;refine EI (mC y (.aw 0) []) (h2.sR (g:={g with γ:=y}) (mG.mono (λq N=>⟨0,N⟩))) (h5.trans (mG.mono (λq N=>.inr ⟨0,N⟩))) (λr x j tv A I=>?_);obtain⟨vs,F,u,_,dx,S,Nb,Nc,_,hB⟩:=ab r x j tv A I;refine⟨u,S,Nb,hB rfl _ _ _ (Nc.ku dx (λb hb=>⟨Ht hb,rfl⟩) (λq p N b π hb=>?_))⟩;simp only[aQ,cZ] at N;obtain⟨rfl,rfl⟩:=N;exact⟨QR (p1:=[]) (π:=[((r:Int),cj e j)]++π) (by have dS:y b=_:=hb;simpa using dS),rfl⟩
 ·simp at M
end
end
section
structure ag8(w w':World)(b off:Nat)(vals:List Value):Prop where
 other:∀i,i≠b->w'.heap[i]?=w.heap[i]?
 this:∀cs e fr,w.heap[b]?=some (.cells cs e fr)->∃gy,w'.heap[b]?=some (.cells gy e fr)/\gy.size=cs.size/\(∀j,j<vals.length->off+j<cs.size->gy[off+j]?=vals[j]?)/\∀k,¬ (off<=k/\k<off+vals.length)->gy[k]?=cs[k]?
 size:w'.heap.size=w.heap.size
 tape:w'.tape=w.tape
 os:w'.os=w.os
 output:w'.output=w.output
theorem kR(b:Nat):∀(u:List Value)(a:Nat)(w:World),ag8 w (w.setCells b a u) b a u
 |[],a,w=>⟨λ_ _=>rfl,λA e fr h=>⟨A,h,rfl,λj D=>by simp at D,λ_ _=>rfl⟩,rfl,rfl,rfl,rfl⟩
 |v::u,a,w=>by
  have x:=kR b u (a+1) (w.setCell ⟨b,a,none⟩ v);have H:(w.setCell ⟨b,a,none⟩ v).heap.size=w.heap.size:=by simp
  refine⟨λi hi=>?_,λA e fr h=>?_,x.size.trans H,x.tape,x.os,x.output⟩
  ·rw[World.setCells,x.other i hi,Below.heap_setCell _ _ _ _ hi]
  ·have I:(w.setCell ⟨b,a,none⟩ v).heap[b]?=some (.cells (A.setIfInBounds a v) e fr):=by
     simp[World.setCell,ayA,h]
   obtain⟨J,M,N,P,F⟩:=x.this _ _ _ I;refine⟨J,M,by rw[N];simp,λj D y=>?_,λk Q=>?_⟩
   ·cases j with
    |zero=>
     rw[F _ (by omega)];simp at y;simp[y]
    |succ j=>
     rw[show a+(j+1)=a+1+j by omega,P j (by simpa using D) (by simp;omega)];simp
   ·simp only[fD] at Q;rw[F k (by omega),akt (by omega)]
theorem A6{γ:Nat->G}{w y:World}{b u:Nat}{j:List Value}{A:Rt}{D:aZ}(a:ag8 w y b u j)(F:∀b,w.heap.size<=b->γ b=.fr)(x:γ b=.at A D):bw (λq p=>q=A/\p=D) γ w γ y where
 im:=λi hi=>⟨hi,a.other i (λe=>by rw[e,x] at hi;simp at hi)⟩
 at':=λi q p hi hx=>⟨hi,a.other i (λe=>by rw[e,x] at hi;simp only[G.at.injEq] at hi;exact hx ⟨hi.1.symm,hi.2.symm⟩)⟩
 fr:=λi _ hi=>⟨hi,a.other i (λe=>by rw[e,x] at hi;simp at hi)⟩
 size:=akA a.size.symm
 new:=λi hi=>F i (by rw[a.size] at hi;exact hi)
 tape:=a.tape
 os:=a.os
 output:=a.output
theorem run_store{P:Program}{w:World}{t:TypeId}{v:Value}{b o:Nat}{c:Array Value}{e:TypeId}{fr:Nat×Nat}(h0:0<P.cellsOf t)(a:v.cells.size=P.cellsOf t)
  (y:w.heap[b]?=some (.cells c e fr))(D:zp c.size fr)(F:o+v.cells.size<=c.size)(H:∀x∈v.cells.toList,x.oneCell'=true):
  (storeVar t ⟨b,o,none⟩ v).run P w=.ok () (w.setCells b o v.cells.toList):=by
 have I:∀k,w.cell? ⟨b,k,none⟩=c[k]?:=λk=>by simp[World.cell?,y]
 have J:∀k,k<c.size->w.frozen? ⟨b,k,none⟩=false:=λk M=>by
  have:=D k M
  simp only[World.frozen?,y]
  simp only[akD,lP]
  by_cases A:fr.1<=k
  ·exact .inr (λN=>this ⟨A,N⟩)
  ·exact .inl A
 have:=run_storeCells_cells (P:=P) b o v.cells.toList 0 w (λj u=>by rw[I];simp at u⊢;omega) (λj u=>J _ (by simp at u;omega)) H;simp[storeVar,AE h0,a,this]
def XP(a:Rt)(e:aZ)(q:Rt)(p:aZ):Prop:=cW a e q p\/∃n,q=.aw n
theorem ac8(t:Ty)(x:El t):∀a∈enc true t x,sL a=true:=by
 cases t<;>simp[enc,sL,sc]
theorem WG:∀{vs:List TV},(∀a∈vs,sL a=true)->deep vs=true
 |[],_=>rfl
 |v::vs,h=>by simp only[deep,h v (by simp),aF];exact WG λa e=>h a (by simp[e])
section
variable{C:Cx}{E:Env}{s:TS}{g:Gs}{w:World}{R:Type}{r:R}
theorem WH(h:Rel C E s g w):∀(p:Pl){f:TV->(TV->Option R)->Option R}{K:TS->Option R},uu C s p f K=some r->
  ∃N kv,f N kv=some r/\(N=.un\/∃v,(g.rc C w).va p=some v/\Rd (g.rc C w) (some (gp p)) N v/\VO (g.rc C w) p)/\
   ∀S a I,kv S=some r->j1 S=true->bw (XP (gp p).1 (gp p).2) g.γ w a I->(∀v,(g.rc C w).va p=some v->Rd (Gs.rc C {g with γ:=a} I) (some (gp p)) S v)->
    ∃s',K s'=some r/\Rel C E s' {g with γ:=a} I/\dL s' s
 |.slot k,f,K,P=>by
  simp only[uu,bQ] at P;have bL:(g.rc C w).va (.slot k)=some (g.tm k):=by simp only[Gs.rc,va];rw[aD P.1]
  refine⟨_,_,P.2,.inr ⟨g.tm k,bL,h.eK k,trivial⟩,λS a I eY hT J gk=>⟨_,eY,?_,dL.Sp k (dL.kill _ _) (λp A=>absurd A (uX hT p))⟩⟩;have tD:∀j p,MV p ((s.kill (Pl.pW k)).slot j)->VO (g.rc C w) p->(Gs.rc C {g with γ:=a} I).va p=(g.rc C w).va p/\VO (Gs.rc C {g with γ:=a} I) p:=λj p A cI=>
   oU (C:=C) (g:=g) (g':={g with γ:=a}) J p cI (qj J λq Q _ hx=>by
    rcases hx with hx|⟨n,hx⟩
    ·exact O0 j p A ((sF Q).1 ▸hx.1) (sF Q).2
    ·exact jo q n hx) (λ_ _ _=>rfl) (λi _=>⟨rfl,λhx=>by rcases hx with hx|⟨n,hx⟩<;>simp[cW,gp] at hx⟩)
  refine(h.kill (Pl.pW k)).pf (g':={g with γ:=a}) J (λj=>?_) (λj=>.inr ⟨rfl,rfl,λp hx=>by rcases hx with hx|⟨n,hx⟩<;>simp[cW,gp] at hx⟩)
  by_cases H:j=k
  ·subst H
   left
   rcases AD (s.kill (Pl.pW j)) j S with e|e<;>rw[e]
   ·exact gk _ bL
   ·exact .un _ _
  ·refine .inr ⟨uT _ S H,rfl,λp hx=>?_,λ_ _=>rfl,λp A=>?_,λp A π hx=>?_⟩
   ·rcases hx with hx|⟨n,hx⟩
    ·exact H (by simpa[cW,gp] using hx.1)
    ·simp at hx
   ·exact⟨(tD j p A (((h.kill (Pl.pW k)).eK j).xv A)).1,λcI=>(tD j p A cI).2⟩
   ·rcases hx with hx|⟨n,hx⟩
    ·exact O0 j p A.mv hx.1 (((h.kill (Pl.pW k)).eK j).RB A)
    ·exact jo p n hx
 |.cell k c,f,K,P=>by
  simp only[uu] at P;split at P
  ·rename_i cs F;have eF:=h.boxes k;rw[F] at eF;have hg:fo C s (.cell k c)=some (nth cs c):=by simp[fo,F]
   refine⟨_,_,P,xd h hg,λS a I eY hT J gk=>⟨_,eY,?_,(dL.bx _ _ _).trans (dL.kill _ _)⟩⟩;have rX:¬ XP (gp (.cell k c)).1 (gp (.cell k c)).2 (.box k) []:=by rintro(hx|⟨n,hx⟩)<;>simp[cW,gp] at hx
   have tD:∀j p,MV p ((s.kill (Pl.pX k)).slot j)->VO (g.rc C w) p->(Gs.rc C {g with γ:=a} I).va p=(g.rc C w).va p/\VO (Gs.rc C {g with γ:=a} I) p:=λj p A cI=>
    oU (C:=C) (g:=g) (g':={g with γ:=a}) J p cI (qj J λq Q _ hx=>by
     rcases hx with hx|⟨n,hx⟩
     ·exact O1 j p A ((sF Q).1 ▸hx.1) (sF Q).2
     ·exact jo q n hx) (λ_ _ _=>rfl) (λi _=>⟨rfl,λhx=>by rcases hx with hx|⟨n,hx⟩<;>simp[cW,gp] at hx⟩)
   refine(h.kill (Pl.pX k)).pf (g':={g with γ:=a}) J (λj=>.inr ⟨Wx _ k j _,rfl,λp hx=>by rcases hx with hx|⟨n,hx⟩<;>simp[cW,gp] at hx,λ_ _=>rfl,λp A=>⟨(tD j p A (((h.kill (Pl.pX k)).eK j).xv A)).1,λcI=>(tD j p A cI).2⟩,λp A π hx=>?_⟩) (λj=>?_)
   ·rcases hx with hx|⟨n,hx⟩
    ·exact O1 j p A.mv hx.1 (((h.kill (Pl.pX k)).eK j).RB A)
    ·exact jo p n hx
   ·by_cases H:j=k
    ·subst H
     left
     rcases yJ (s.kill (Pl.pX j)) j (.cells (lY cs c S)) with e|e<;>rw[e]
     ·obtain⟨vs,e',fr,hh,hu,eO,hl,ao,hr⟩:=eF;obtain⟨a3,cQ⟩:=J.at' _ _ _ eO rX;refine⟨vs,e',fr,cQ.trans hh,hu,a3,by rw[vc];simpa using hl,λx hx=>?_,λi x v hi hv=>?_⟩
      ·rw[vc] at hx;rcases Fj hx with hx|rfl
       ·exact ao x hx
       ·exact hT
      ·rw[vc] at hi
       by_cases ad:c=i
       ·subst ad;have U:c<cs.length:=by have:=(da.1 hi).1;simpa using this
        rw[Oj U] at hi;simp only[aQ] at hi;subst hi;refine⟨(hr c _ v (cT U) hv).1,gk v ?_⟩;have rY:w.heap[g.bx j]?=some (.cells vs e' fr):=hh;simp[Gs.rc,va,cellAt,World.cell?,rY,hv]
       ·rw[Ja ad] at hi;obtain⟨Y,Z⟩:=hr i x v hi hv;have Zx:=ao x (dH hi);refine⟨Y,Z.same (λb F=>J.im b F) (λq p Q b π F=>?_) (λi hi=>absurd hi (Kg Zx i)) (λp A=>absurd A (uX Zx p)) (λp A=>absurd A.mv (uX Zx p))⟩;simp only[aQ,cZ] at Q;obtain⟨rfl,rfl⟩:=Q;refine J.at' b _ _ F λhx=>?_;rcases hx with⟨_,t,ht⟩|⟨n,hx⟩
        ·simp[gp] at ht;exact ad ht.1
        ·simp at hx
     ·trivial
    ·exact .inr ⟨yI _ _ H,rfl,λp hx=>by
      rcases hx with hx|⟨n,hx⟩
      ·exact H (by simpa[cW,gp] using hx.1)
      ·simp at hx⟩
  ·simp at P
 |.sub p t i c,f,K,P=>by
  simp only[uu] at P;obtain⟨a9,bb,hf,ho,Nd⟩:=WH h p P;split at hf
  ·rename_i t' xs;obtain⟨ht,zT⟩:=bQ.1 hf;have ht:=ef ht;clear hf;subst ht;obtain⟨x,hx,hf⟩:=dw.1 zT;obtain⟨h0,hx⟩:=mO.1 hx;have U:=(da.1 hx).1;rcases ho with ho|⟨vo,zv,Mq,a4⟩
   ·simp at ho
   rcases Mq.mR with⟨rfl,_⟩|⟨q,π,b,ap,cap,cs,e,fr,fv,hm,rfl,hl,eO,hh,hu,hs,hc,hr⟩
   ·simp at hx
   simp only[aQ] at hm;have aM:c<aA t'->(enc true t' x)[c]?=some (nth (enc true t' x) c):=λqN=>by
    rw[yY,cT (by rw[ic];exact qN)];rfl
   have hi:((i.toNat:Nat):Int)=i:=by omega
   have zw:c<aA t'->(g.rc C w).va (.sub p t' i c)=some (fv i.toNat c):=λqN=>by
    have cG:va C.vs g.tm g.bx w p=some (.slice (some ⟨b,ap,none⟩) xs.length cap):=zv
    simp only[Gs.rc,va,cG]
    rw[aD ⟨h0,by omega,qN⟩]
    exact(hc i.toNat x c _ hx (aM qN)).1
   refine⟨_,_,hf,?_,λS a I eY hT J gk=>?_⟩
   ·by_cases qN:c<aA t'
    ·right
     refine⟨fv i.toNat c,zw qN,?_,a4,λb' o' len a8 F=>?_⟩
     ·have:=hr i.toNat x c _ hx (aM qN);rw[hi] at this;simp only[gp,hm];exact this
     ·rw[zv] at F;simp only[aQ,Value.slice.injEq,Addr.mk.injEq,jI] at F;obtain⟨⟨rfl,_⟩,_⟩:=F;exact .inr (by rw[hm];exact eO)
    ·left;rw[yY,pz (by rw[ic];omega)];rfl
   ·split at eY
    ·rename_i x' tG nT;have a5:∀n,(gp p).1≠.aw n:=λn=>jo p n;have a1:∀b' nA,g.γ b'=.at q (π++nA)->(∀YI,nA≠(i,cj t' c)::YI)->a b'=.at q (π++nA)/\I.heap[b']?=w.heap[b']?:=λb' nA F bS=>J.at' b' _ _ F (λhx=>by
      rcases hx with⟨_,t2,ng⟩|⟨n,hx⟩
      ·simp only[gp,hm] at ng
       simp only[kD] at ng
       have:=Ur ng
       exact bS t2 this.symm
      ·exact a5 n (by rw[hm];exact hx));refine Nd (.own true t' (aX xs i x')) a I eY rfl (J.mono (λq' nA hx=>?_)) (λv hv=>?_)
     ·rcases hx with⟨Y,Z⟩|hx
      ·left
       simp only[gp] at Y Z;exact⟨Y,(wN _ _).trans Z⟩
      ·exact .inr hx
     ·rw[zv] at hv;simp only[aQ] at hv;subst hv;obtain⟨Ic,cQ⟩:=a1 b [tg t'] eO (λYI he=>by simp only[nh] at he;exact LX he.1.symm);have aa:(aX xs i x').length=xs.length:=by simp[aX]
      rw[hm];have ab:=Rd.kY (c:=Gs.rc C {g with γ:=a} I) q π true t' (aX xs i x') b ap cap cs e fr fv (by rw[aa];exact hl) Ic (cQ.trans hh) hu hs (λM y j N hy H=>?_) (λM y j N hy H=>?_)
      ·rw[aa] at ab;exact ab
      ·by_cases dC:M=i.toNat
       ·subst dC;have eN:j<aA t':=by have:=(da.1 H).1;rwa[ic] at this
        obtain⟨Y,Z⟩:=hc i.toNat x j _ hx (cT (by rw[ic];exact eN));exact⟨(mN cQ).trans Y,Z⟩
       ·have uD:xs[M]?=some y:=by simpa[aX,Ja (q7 dC)] using hy
        obtain⟨Y,Z⟩:=hc M y j N uD H;exact⟨(mN cQ).trans Y,Z⟩
      ·have dq:∀(M:Nat)y j N,xs[M]?=some y->(enc true t' y)[j]?=some N->(M≠i.toNat\/j≠c)->Rd (Gs.rc C {g with γ:=a} I) (some (q,π++[((M:Int),cj t' j)])) N (fv M j):=λM y j N hy H bS=>by
         have dx:=fg H
         refine(hr M y j N hy H).same (λb F=>J.im b F) (λq2 p2 Q b2 be F=>?_) (λi hi=>absurd hi (lQ dx i)) (λp A=>absurd A (fH dx p)) (λp A=>absurd A.mv (fH dx p))
         simp only[aQ,cZ] at Q
         obtain⟨rfl,rfl⟩:=Q
         rw[kD] at F⊢
         refine a1 b2 _ F (λYI he=>?_)
         simp only[CJ,nh,cZ] at he
         rcases bS with bS|bS
         ·exact bS (by omega)
         ·exact bS (Rz he.1.2).2
       by_cases dC:M=i.toNat
       ·subst dC;have uD:y=x':=by
         simp only[aX] at hy
         rw[Oj U] at hy
         exact(gB hy).symm
        subst uD;rw[vc] at nT;have a6:deep ((enc true t' x).set c S)=true:=WG (λu hu=>by
         rcases Fj hu with hu|rfl
         ·exact ac8 t' x u hu
         ·exact tG);obtain⟨a0,tH,hA,_⟩:=VV (D:=true) nT (λ_=>.inr a6) H;refine hA rfl _ _ _ ?_
        by_cases am:c=j
        ·subst am;have a2:c<(enc true t' x).length:=by have:=(da.1 tH).1;simpa using this
         rw[Oj a2] at tH;simp only[aQ] at tH;subst tH;have:=gk _ (zw (by rwa[ic] at a2));simp only[gp,hm] at this;rw[hi];exact this
        ·rw[Ja am] at tH;exact dq _ x j a0 hx tH (.inr (λe=>am e.symm))
       ·have uD:xs[M]?=some y:=by simpa[aX,Ja (q7 dC)] using hy
        exact dq M y j N uD H (.inl dC)
    ·simp at eY
  ·simp at hf
end
end
section
theorem amw{sz r i j c n k:Nat}(e:j<sz)(u:c+n<=sz)(a:r≠i)(x:k<n):r*sz+j≠i*sz+c+k:=by
 rcases Nat.lt_or_gt_of_ne a with h|h
 ·have:(r+1)*sz<=i*sz:=od _ h;rw[jY,sA] at this;omega
 ·have:(i+1)*sz<=r*sz:=od _ h;rw[jY,sA] at this;omega
theorem VX{u vs:List TV}{c j:Nat}{x:TV}(A:c+vs.length<=u.length)(a:(rL u c vs)[j]?=some x):(c<=j/\j<c+vs.length/\vs[j-c]?=some x)\/(¬ (c<=j/\j<c+vs.length)/\u[j]?=some x):=by
 rw[Hs] at a
 by_cases e:c<=j/\j<c+vs.length
 ·left
  refine⟨e.1,e.2,?_⟩;rw[kD,sB (by simp;omega),rb (by simp;omega)] at a;simpa[show min c u.length=c by omega] using a
 ·right
  refine⟨e,?_⟩
  by_cases y:j<c
  ·rw[kD,rb (by simp;omega),q8] at a;simpa[y] using a
  ·rw[sB (by simp;omega)] at a;simp only[dG,lv,An] at a;rw[show c+vs.length+(j-(min c u.length+vs.length))=j by omega] at a;exact a
theorem anK{cs vs:List TV}{c:Nat}(a:c+vs.length<=cs.length):(rL cs c vs).length=cs.length:=by rw[Hs];simp;omega
theorem ac9{cs vs:List TV}{c:Nat}{a:TV}(e:c+vs.length<=cs.length)(h:a∈rL cs c vs):a∈vs\/a∈cs:=by
 obtain⟨j,u⟩:=tT h;rcases VX e u with⟨_,_,h⟩|⟨_,h⟩
 ·exact .inl (dH h)
 ·exact .inr (dH h)
theorem amx{a:TV}(h:bC a=true):bC (kH a)=true:=by cases a<;>first|exact h|rfl
section
variable{C:Cx}{g:Gs}{w:World}
theorem VY{q:Rt}{π:aZ}{d D:Bool}{t:Ty}{xs:List (El t)}{x x':El t}{b a cap:Nat}{cs:Array Value}{e:TypeId}{fr:Nat×Nat}{f:Nat->Nat->Value}{i:Int}{c:Nat}{vs:List TV}{vals:List Value}{A:Nat->G}
  (hn:∀b,w.heap.size<=b->A b=.fr)(hq:∀n,q≠.aw n)(rX:rE q π)(h0:0<=i)(hx:xs[i.toNat]?=some x)
  (hl:xs.length<=cap)(hg:A b=.at q (π++[tg t]))(hh:w.heap[b]?=some (.cells cs e fr))(hu:oC t cs.size fr)(hs:a+cap*aA t<=cs.size)
  (hc:∀(r:Nat)x(j:Nat)tv,xs[r]?=some x->(enc d t x)[j]?=some tv->cellAt w b (a+r*aA t+j)=some (f r j)/\(f r j).oneCell'=true)
  (hr:∀(r:Nat)x(j:Nat)tv,xs[r]?=some x->(enc d t x)[j]?=some tv->((r:Int)≠i\/¬ (c<=j/\j<c+vs.length))->Rd (Gs.rc C {g with γ:=A} w) (some (q,π++[((r:Int),cj t j)])) tv (f r j))
  (jU:vals.length=vs.length)(gn:c+vs.length<=aA t)(dx:∀tv∈vs,bC tv=true)(hv:∀(j:Nat)tv v,vs[j]?=some tv->vals[j]?=some v->Rd (Gs.rc C {g with γ:=A} w) (some (.aw 0,[(0,j)])) tv v/\v.oneCell'=true)
  (nT:dec t (rL (enc d t x) c vs)=some x')(hD:D=true->flat t=true\/(d=true/\deep vs=true)):
  ∃E,bw (XP q π) A w E (w.setCells b (a+i.toNat*aA t+c) vals)/\Rd (Gs.rc C {g with γ:=E} (w.setCells b (a+i.toNat*aA t+c) vals)) (some (q,π)) (.own D t (aX xs i x')) (.slice (some ⟨b,a,none⟩) xs.length cap):=by
 have aM:=(da.1 hx).1;have pk:=kR b vals (a+i.toNat*aA t+c) w;obtain⟨gy,cQ,ad,a1,a2⟩:=pk.this _ _ _ hh;have jk:=Lc (γ:=A) (n:=0) (τ:=λj=>(q,π++[(i,cj t (c+j))]));have Se:∀E,FK (λS=>S=.aw 0) A (iF A 0 (λj=>(q,π++[(i,cj t (c+j))])))->bw (cW q π) (iF A 0 (λj=>(q,π++[(i,cj t (c+j))]))) w E w->E b=.at q (π++[tg t])->bw (XP q π) A w E (w.setCells b (a+i.toNat*aA t+c) vals):=λE I J F=>by
  refine(((I.fK hn).trans J).trans (A6 pk J.new F)).mono (λS Y hx=>?_)
  rcases hx with(hx|hx)|⟨rfl,rfl⟩
  ·exact .inr ⟨0,hx.1⟩
  ·exact .inl hx
  ·exact .inl ⟨rfl,wN _ _⟩
 have R:iF A 0 (λj=>(q,π++[(i,cj t (c+j))])) b=.at q (π++[tg t]):=QW hg (hq 0);have EO:∀b,w.heap.size<=b->iF A 0 (λj=>(q,π++[(i,cj t (c+j))])) b=.fr:=λb U=>jk.fr b (hn b U);have am:∀(r:Nat)y(j:Nat)tv,(aX xs i x')[r]?=some y->(enc D t y)[j]?=some tv->∃(N:TV)(u:Value),bC N=true/\gy[a+r*aA t+j]?=some u/\u.oneCell'=true/\Rd (Gs.rc C {g with γ:=iF A 0 (λj=>(q,π++[(i,cj t (c+j))]))} w) (some (q,π++[((r:Int),cj t j)])) N u/\
   (D=true->∀c m v,Rd c m N v->Rd c m tv v)/\(D=false->∀c m v,Rd c none (kH N) v->Rd c m tv v):=by
  intro r y j tv M H
  have Nf:j<aA t:=by have:=(da.1 H).1;rwa[ic] at this
  have ab:∀k,cellAt w b k=cs[k]?:=λk=>by simp[cellAt,World.cell?,hh]
  have dq:∀(r:Nat)y(j:Nat)tv,xs[r]?=some y->(enc d t y)[j]?=some tv->((r:Int)≠i\/¬ (c<=j/\j<c+vs.length))->gy[a+r*aA t+j]?=some (f r j)/\(f r j).oneCell'=true/\Rd (Gs.rc C {g with γ:=iF A 0 (λj=>(q,π++[(i,cj t (c+j))]))} w) (some (q,π++[((r:Int),cj t j)])) tv (f r j):=by
   intro r y j tv M H bS
   have Nf:j<aA t:=by have:=(da.1 H).1;rwa[ic] at this
   obtain⟨I,J⟩:=hc r y j tv M H
   rw[ab] at I
   have xY:¬ (a+i.toNat*aA t+c<=a+r*aA t+j/\a+r*aA t+j<a+i.toNat*aA t+c+vals.length):=by
    rintro⟨gV,cB⟩
    by_cases Ng:r=i.toNat
    ·subst Ng;rcases bS with bS|bS
     ·exact bS (by omega)
     ·exact bS (by omega)
    ·have:=amw (k:=a+r*aA t+j-(a+i.toNat*aA t+c)) Nf gn Ng (by omega);omega
   refine⟨(a2 _ xY).trans I,J,?_⟩
   ·have Mr:=fg H;exact(hr r y j tv M H bS).B9 (g:={g with γ:=A}) (γ':=iF A 0 (λj=>(q,π++[(i,cj t (c+j))]))) (by simp[eE,Mr]) jk (λS Y P=>by
     simp only[aQ,cZ] at P
     rw[<-P.1];exact hq 0)
  by_cases Ng:r=i.toNat
  ·subst Ng;have uD:y=x':=by
    simp only[aX] at M
    rw[Oj aM] at M
    exact(gB M).symm
   subst uD;have fX:=ic d t x;have tG:D=true->flat t=true\/deep (rL (enc d t x) c vs)=true:=λhd=>by
    rcases hD hd with hf|⟨kO,cG⟩
    ·exact .inl hf
    ·subst kO;exact .inr (WG λu hu=>by
      rcases ac9 (by rw[ic];exact gn) hu with hu|hu
      ·exact VU cG u hu
      ·exact ac8 t x u hu)
   obtain⟨N,tH,hA,hB⟩:=VV (D:=D) nT tG H;rcases VX (by rw[ic];exact gn) tH with⟨I,J,F⟩|⟨I,J⟩
   ·have To:vals[j-c]?=some (vals[j-c]'(by omega)):=cT _;obtain⟨h4,h5⟩:=hv _ N _ F To;have zS:=dx N (dH F);refine⟨N,vals[j-c]'(by omega),zS,?_,h5,?_,hA,hB⟩
    ·have ao:=a1 (j-c) (by omega);rw[show a+i.toNat*aA t+c+(j-c)=a+i.toNat*aA t+j by omega,To] at ao;refine ao ?_;have:(i.toNat+1)*aA t<=cap*aA t:=od _ (by omega);rw[jY,sA] at this;omega
    ·have h6:Rd (Gs.rc C {g with γ:=iF A 0 (λj=>(q,π++[(i,cj t (c+j))]))} w) (some (q,π++[(i,cj t (c+(j-c)))])) N _:=h4.Tl (τ:=λj=>(q,π++[(i,cj t (c+j))])) zS rfl;rw[show c+(j-c)=j by omega] at h6;rw[show((i.toNat:Nat):Int)=i by omega];exact h6
   ·obtain⟨F,h4,h5⟩:=dq i.toNat x j N hx J (.inr I);exact⟨N,_,fg J,F,h4,h5,hA,hB⟩
  ·have uD:xs[r]?=some y:=by simpa[aX,Ja (q7 Ng)] using M
   cases D with
   |true=>
    have eN:(enc d t y)[j]?=some tv:=by
     rcases hD rfl with hf|⟨hd,_⟩
     ·rwa[oS hf true d] at H
     ·rwa[hd]
    obtain⟨F,h4,h5⟩:=dq r y j tv uD eN (.inl (by omega));exact⟨tv,_,fg H,F,h4,h5,λ_ _ _ _ h=>h,λh=>by simp at h⟩
   |false=>
    obtain⟨bP,eN,rfl⟩:=JK (d:=d) H;obtain⟨F,h4,h5⟩:=dq r y j bP uD eN (.inl (by omega));exact⟨bP,_,fg eN,F,h4,h5,(λh=>by simp at h),λ_ _ _ _ h=>h.lift _⟩
 have Z:(aX xs i x').length=xs.length:=by simp[aX]
 have ap:∀E,bw (XP q π) A w E (w.setCells b (a+i.toNat*aA t+c) vals)->E b=.at q (π++[tg t])->(∀(r:Nat)y(j:Nat)tv,(aX xs i x')[r]?=some y->(enc D t y)[j]?=some tv->∃u,gy[a+r*aA t+j]?=some u/\u.oneCell'=true/\Rd (Gs.rc C {g with γ:=E} (w.setCells b (a+i.toNat*aA t+c) vals)) (some (q,π++[((r:Int),cj t j)])) tv u)->
   Rd (Gs.rc C {g with γ:=E} (w.setCells b (a+i.toNat*aA t+c) vals)) (some (q,π)) (.own D t (aX xs i x')) (.slice (some ⟨b,a,none⟩) xs.length cap):=by
  intro E a7 Q gf
  have aa:=Rd.kY (c:=Gs.rc C {g with γ:=E} (w.setCells b (a+i.toNat*aA t+c) vals)) q π D t (aX xs i x') b a cap gy e fr (λr j=>gy[a+r*aA t+j]?.getD undef) (by rw[Z];exact hl) Q cQ (by rw[ad];exact hu) (by rw[ad];exact hs)
   (λr y j tv M H=>by
     obtain⟨u,I,J,_⟩:=gf r y j tv M H
     have rY:(w.setCells b (a+i.toNat*aA t+c) vals).heap[b]?=some (.cells gy e fr):=cQ
     exact⟨by simp[cellAt,World.cell?,Gs.rc,rY,I],by simp[I,J]⟩)
   (λr y j tv M H=>by
     obtain⟨u,I,_,F⟩:=gf r y j tv M H
     rw[I];exact F)
  rw[Z] at aa
  exact aa
 have Nh:∀E{m tv u},bw (cW q π) (iF A 0 (λj=>(q,π++[(i,cj t (c+j))]))) w E w->E b=.at q (π++[tg t])->bC tv=true->(∀S Y,m=some (S,Y)->∃i j,Y=π++[(i,cj t j)]/\S=q)->Rd (Gs.rc C {g with γ:=E} w) m tv u->Rd (Gs.rc C {g with γ:=E} (w.setCells b (a+i.toNat*aA t+c) vals)) m tv u:=by
  intro E m tv u J F hp hm hr
  have rZ:=A6 pk J.new F
  refine hr.same (λb U=>rZ.im b U) (λS Y P b' nA U=>rZ.at' b' _ _ U (λhx=>?_)) (λi hi=>absurd hi (lQ hp i)) (λp iW=>absurd iW (fH hp p)) (λp iW=>absurd iW.mv (fH hp p))
  obtain⟨k1,k2,rfl,rfl⟩:=hm _ _ P
  have:=hx.2
  rw[kD] at this
  have:=Ur this
  simp only[CJ,nh] at this
  exact LX this.1
 cases D with
 |true=>
  have Et:bw (cW q π) (iF A 0 (λj=>(q,π++[(i,cj t (c+j))]))) w (iF A 0 (λj=>(q,π++[(i,cj t (c+j))]))) w:=bw.refl _ EO;refine⟨_,Se _ jk Et R,ap _ (Se _ jk Et R) R (λr y j tv M H=>?_)⟩;obtain⟨N,u,zS,I,J,F,hA,_⟩:=am r y j tv M H;exact⟨u,I,J,hA rfl _ _ _ (Nh _ Et R zS (λS Y P=>by simp only[aQ,cZ] at P;exact⟨_,_,P.2.symm,P.1.symm⟩) F)⟩
 |false=>
  have Et:bw (cW q π) (iF A 0 (λj=>(q,π++[(i,cj t (c+j))]))) w (kJ (iF A 0 (λj=>(q,π++[(i,cj t (c+j))]))) q π) w:=VQ EO;have Q:kJ (iF A 0 (λj=>(q,π++[(i,cj t (c+j))]))) q π b=.at q (π++[tg t]):=Py R;refine⟨_,Se _ jk Et Q,ap _ (Se _ jk Et Q) Q (λr y j tv M H=>?_)⟩;obtain⟨N,u,zS,I,J,F,_,hB⟩:=am r y j tv M H;refine⟨u,I,J,hB rfl _ _ _ ?_⟩;have hz:Rd (Gs.rc C {g with γ:=kJ (iF A 0 (λj=>(q,π++[(i,cj t (c+j))]))) q π} w) none (kH N) u:=F.ku zS (λb U=>⟨Hu U,rfl⟩) (λS Y P b' nA U=>by
   simp only[aQ,cZ] at P
   obtain⟨rfl,rfl⟩:=P
   exact⟨Hv (i:=(r:Int)) (j:=cj t j) (π:=nA) (R5 t j) (by have dS:iF A 0 (λj=>(q,π++[(i,cj t (c+j))])) b'=_:=U;simpa using dS),rfl⟩);refine Nh _ Et Q ?_ (λS Y P=>by simp at P) hz;exact amx zS
end
end
section
def YJ(tv:TV)(q:Rt)(p:aZ):Prop:=∃k,((∃j,tv=.ptr k j)\/∃n,tv=.pe k n)/\q=.box k/\p=[]
theorem RH:∀{p q:Pl},Pl.beq p q=true->p=q
 |.slot k,.slot j,h=>by simp only[Pl.beq] at h;rw[gr h]
 |.cell k c,.cell j u,h=>by
  simp only[Pl.beq] at h;cases e:Nat.beq k j with
  |false=>rw[e] at h;simp at h
  |true=>rw[e,aF] at h;rw[gr e,gr h]
 |.slot _,.cell _ _,h=>by simp[Pl.beq] at h
 |.slot _,.sub _ _ _ _,h=>by simp[Pl.beq] at h
 |.cell _ _,.slot _,h=>by simp[Pl.beq] at h
 |.cell _ _,.sub _ _ _ _,h=>by simp[Pl.beq] at h
 |.sub _ _ _ _,.slot _,h=>by simp[Pl.beq] at h
 |.sub _ _ _ _,.cell _ _,h=>by simp[Pl.beq] at h
 |.sub _ _ _ _,.sub _ _ _ _,h=>by simp[Pl.beq] at h
section
variable{P:Program}{C:Cx}{E:Env}{nt n:Nat}{o:Oper}{s s1:TS}{g g1:Gs}{a:Act}{w w1:World}{R:Type}{r:R}{K:TS->Option R}{Z:Rt->Prop}{γ1:Nat->G}{tv:TV}{v:Value}{X:Rt->aZ->Prop}{nb:Nat->Prop}
theorem KI(e:Rel C E s1 {g with γ:=γ1} w1)(j:bw (λq p=>XZ Z q p\/X q p) g.γ w γ1 w1)(l:cD nt g a)(u:o.dst=none)(x:(execOp a.eval o).run P w=.ok .skip w1)(y:K s1=some r):lV P C E nt o g a w K r Z X nb:=by
 refine⟨s1,y,λnext Q A=>?_⟩;simp only[Oper.wp,x,Oper.upon];have D:a.put o.dst undef=a:=by rw[u];rfl
 rw[D];exact A _ _ ⟨{g with γ:=γ1},e,l.same rfl,j,λ_ _=>rfl,λ_ _=>rfl⟩
theorem Rel.WI(h:Rel C E s {g with γ:=γ1} w){k:Nat}{vs:Array Value}{e:TypeId}{fr:Nat×Nat}{off:Nat}{vals:List Value}{u:BC}(M:w.heap[g.bx k]?=some (.cells vs e fr))(H:γ1 (g.bx k)=.at (.box k) [])
  (I:xI (Gs.rc C {g with γ:=γ1} (w.setCells (g.bx k) off vals)) k u):Rel C E ((s.kill (Pl.gK k)).bx k u) {g with γ:=γ1} (w.setCells (g.bx k) off vals)/\bw (λq p=>q=.box k/\p=[]) γ1 w γ1 (w.setCells (g.bx k) off vals):=by
 have y:=A6 (kR (g.bx k) vals off w) h.aC.new H;refine⟨(h.kill (Pl.gK k)).pf (g:={g with γ:=γ1}) (g':={g with γ:=γ1}) y (λj=>.inr ⟨rfl,rfl,λp hx=>by simp at hx,λ_ _=>rfl,λp x=>?_,λp x N hx=>?_⟩) (λj=>?_),y⟩
 ·have A:(gp p).1≠.box k:=λe=>by
    rw[tY] at x
    have:=(xc x).2
    rw[yR.2 e] at this
    simp at this
  have:=λD=>oU (C:=C) (g:={g with γ:=γ1}) (g':={g with γ:=γ1}) y p D (qj y λq J _ hx=>A ((sF J).1 ▸hx.1)) (λ_ _ _=>rfl) (λi hi=>⟨rfl,λhx=>A (by rw[<-hx.1];exact DE.1 hi)⟩);exact⟨(this (((h.kill (Pl.gK k)).eK j).xv x)).1,λD=>(this D).2⟩
 ·have A:(gp p).1≠.box k:=λe=>by
    have x:=x.mv
    rw[tY] at x
    have:=(xc x).2
    rw[yR.2 e] at this
    simp at this
  exact A hx.1
 ·by_cases F:j=k
  ·subst F
   left
   rcases yJ (s.kill (Pl.gK j)) j u with e|e<;>rw[e]
   ·exact I
   ·trivial
  ·exact .inr ⟨yI _ _ F,rfl,λp hx=>F (by simpa using hx.1)⟩
theorem anL(hC:eW P C)(h:Rel C E s g w)(l:cD nt g a)(hd:o.dst=none){t:Nat}{H x:Operand}(ho:o.op=.store t H x)(a9:dW nt H=true)(hx:dW nt x=true)(M:Ev.step C o s K=some r):
  lV P C E nt o g a w K r (λq=>bZ s x q\/bZ s H q) (YJ (aU C s H)) nb:=by
 simp only[Ev.step,ho] at M;obtain⟨oD,M⟩:=bQ.1 M;obtain⟨bM,Ie,_,_,_⟩:=sN (hC.ty t) oD;have Y:=iS h l a9;have bb:=iS h l hx;have run:∀{b off:Nat}{c:Array Value}{e:TypeId}{fr:Nat×Nat},a.eval H=.pointer (some ⟨b,off,none⟩)->(a.eval x).cells.size=(C.aR t).sz->w.heap[b]?=some (.cells c e fr)->zp c.size fr->off+(a.eval x).cells.size<=c.size->(∀u∈(a.eval x).cells.toList,u.oneCell'=true)->
   (execOp a.eval o).run P w=.ok .skip (w.setCells b off (a.eval x).cells.toList):=by
  intro b off c e fr S hs I N am h1
  have:=run_store (P:=P) (t:=t) (v:=a.eval x) (by omega) (by omega) I N am h1
  simp[execOp,ho,Instr.storeAt,S,Instr.sureAddr,this]
 have a2:∀p,MV p (aU C s H)->bZ s H (gp p).1:=λp S=>y5 (λi=>(h.l9 i).1) S;unfold M0 at M;split at M
 ·rename_i t' xs jj;rw[jj] at bb;split at M
  ·rename_i k c r8;split at M
   ·rename_i t2 ys F;obtain⟨ht,cB⟩:=bQ.1 M;have ht:=ef ht;clear M;subst ht;obtain⟨a0,M⟩:=bQ.1 cB;have a0:=gr a0;obtain⟨_,dv,M⟩:=dw.1 M;obtain⟨ji,gj⟩:=(bo _ _).mp (nG.1 dv);have ji:(xs.length:Int)=(C.aR t).sz:=ef ji;have gj:(ys.length:Int)=(C.aR t).sz:=ef gj;rw[r8] at Y;obtain⟨he,cH⟩:a.eval x=.agg (xs.map (ka t2)).toArray/\Ev.fP t2=false:=by
     generalize iX x=m at bb;generalize a.eval x=u at bb;cases bb;exact⟨rfl,by assumption⟩
    have S:a.eval H=.pointer (some ⟨g.bx k,c,none⟩):=by generalize iX H=m at Y;generalize a.eval H=u at Y;cases Y;rfl
    subst a0;have eF:=(h.boxes k);have be:(iD s x).box k=s.box k:=by cases x<;>simp only[iD]<;>(try split)<;>rfl
    rw[be] at F;rw[F] at eF;obtain⟨vs,e,fr,I,N,hg,Ig,hl⟩:=eF;have qO:vs.size=ys.length:=by have:=congrArg List.length hl;simpa using this
    have a1:(a.eval x).cells.toList=xs.map (ka t2):=by rw[he];rfl
    have xZ:(a.eval x).cells.size=xs.length:=by rw[he];simp[Value.cells]
    have YK:iD s x=s:=by
     cases x with
     |tmp k=>
      simp only[iD]
      simp only[aU] at jj
      split<;>rename_i iM<;>first|rfl|(rw[iM] at jj;simp[o9] at jj)
     |_=>rfl
    rw[YK] at M;obtain⟨h3,h4⟩:=Rel.WI (u:=.vec t2 xs) (off:=0) (vals:=(a.eval x).cells.toList) (γ1:=g.γ) h I hg (by
     obtain⟨gy,h5,h6,h7,h8⟩:=(kR (g.bx k) (a.eval x).cells.toList 0 w).this _ _ _ I
     refine⟨gy,e,fr,h5,by rw[h6];exact N,hg,cH,?_⟩
     apply akE
     intro j
     by_cases hj:j<xs.length
     ·have:=h7 j (by simp;omega) (by omega)
      rw[iu] at this
      rw[ni,this,a1]
     ·rw[pz (by simp;omega),pz (by simp;omega)]);refine KI h3 (h4.mono (λq p hx=>.inr ⟨k,.inl ⟨0,r8⟩,hx⟩)) l hd (run S (by rw[xZ];omega) I N (by omega) (λu lH=>?_)) M;rw[a1] at lH;simp only[gQ] at lH;obtain⟨y,_,rfl⟩:=lH;obtain⟨_,_,_,_,_,J⟩:=DY cH false y;exact J
   ·simp at M
  ·simp at M
 ·rename_i q qt i qc t' xs jj;rw[jj] at bb;split at M
  ·rename_i p t0 i' c r8;obtain⟨A,gV⟩:=bQ.1 M;obtain⟨_,dv,Ca⟩:=dw.1 gV;clear M gV;have dv:i=i':=ef (nG.1 dv);subst dv;have bg:Ry (.pa (.sub q qt i qc) t' xs) (.ep p t0 i c)=true/\Nat.beq (C.aR t).sz 1=true:=by
    cases a3:Ry (.pa (.sub q qt i qc) t' xs) (.ep p t0 i c) with
    |false=>rw[a3] at A;simp at A
    |true=>rw[a3,aF] at A;exact⟨rfl,A⟩
   clear A;obtain⟨A,jV⟩:=bg;have jV:=gr jV;simp only[Ry] at A;cases Cb:Pl.beq p q with
   |false=>rw[Cb] at A;simp at A
   |true=>
   rw[Cb,aF] at A;have bi:=RH Cb;clear Cb;subst bi;obtain⟨bk,ao⟩:qt=t0/\qc=c:=by
    cases zP:decide (t0=qt) with
    |false=>rw[zP] at A;simp at A
    |true=>
     rw[zP,aF] at A
     exact⟨(ef zP).symm,gr A⟩
   subst bk;subst ao;rw[r8] at Y;obtain⟨b,off,len,cap,cI,bL,h0,ap,S⟩:∃b o len cap,VO (g.rc C w) p/\(g.rc C w).va p=some (.slice (some ⟨b,o,none⟩) len cap)/\0<=i/\i<(len:Int)/\a.eval H=.pointer (some ⟨b,o+i.toNat*aA qt+qc,none⟩):=by
    generalize iX H=m at Y;generalize a.eval H=u at Y
    cases Y;exact⟨_,_,_,_,by assumption,by assumption,by assumption,by assumption,rfl⟩
   obtain⟨a4,u0,j7⟩:Rd (g.rc C w) (some (gp (.sub p qt i qc))) (.own true t' xs) (a.eval x)/\∃u0,(g.rc C w).va (.sub p qt i qc)=some u0:=by
    generalize iX x=m at bb;cases bb;exact⟨by assumption,_,by assumption⟩
   have YK:iD s x=s:=by
    cases x with
    |tmp k=>
     simp only[iD]
     simp only[aU] at jj
     split<;>rename_i iM<;>first|rfl|(rw[iM] at jj;simp[o9] at jj)
    |_=>rfl
   rw[YK] at Ca;obtain⟨tv,kv,hf,U,Nd⟩:=WH h p Ca;split at hf
   ·rename_i t2 ys;obtain⟨ht,zT⟩:=bQ.1 hf;have ht:=ef ht;clear hf;subst ht;obtain⟨y,hy,hf⟩:=dw.1 zT;obtain⟨_,hy⟩:=mO.1 hy;unfold one? at hf;split at hf
    ·rename_i y' nT;rcases U with U|⟨v',tI,pn,_⟩
     ·simp at U
     rw[bL] at tI;simp only[aQ] at tI;subst tI;rcases pn.mR with⟨rfl,_⟩|⟨q,π,b',Sr,aM,cs,e,fr,f,Q,aa,hl,eO,I,N,hs,hc,hr⟩
     ·simp at hy
     simp only[Value.slice.injEq,aQ,Addr.mk.injEq,jI] at aa;obtain⟨⟨rfl,rfl⟩,rfl,rfl⟩:=aa;simp only[aQ] at Q;have hq:∀n,q≠.aw n:=λn e=>jo p n (by rw[Q];exact e);have rX:rE q π:=by have:=A4 p;rwa[Q] at this
     have zx:=Vo a4 rfl;have xZ:(a.eval x).cells.toList=[a.eval x]:=by rw[zx.2]
     have bs:qc<aA t2:=by
      have cG:va C.vs g.tm g.bx w p=some (.slice (some ⟨b,off,none⟩) ys.length cap):=bL
      simp only[Gs.rc,va,cG] at j7
      split at j7
      ·rename_i J;exact J.2.2
      ·simp at j7
     ·have Ss:bw (cW q (π++[(i,cj t2 qc)])) g.γ w (bV g.γ q (π++[(i,cj t2 qc)]) (.aw 0) [(0,0)]) w:=ri h.aC.new;have bt:bV g.γ q (π++[(i,cj t2 qc)]) (.aw 0) [(0,0)] b=.at q (π++[tg t2]):=AS eO (λ⟨_,t3,h3⟩=>by rw[kD] at h3;have h3:=Ur h3;simp only[CJ,nh] at h3;exact LX h3.1);have bu:Rd (Gs.rc C {g with γ:=bV g.γ q (π++[(i,cj t2 qc)]) (.aw 0) [(0,0)]} w) (some (.aw 0,[(0,0)])) (.own true t' xs) (a.eval x):=by
       have h3:=a4
       simp only[gp,Q] at h3
       exact h3.HU rfl
      obtain⟨cX,h3,h4⟩:=VY (C:=C) (g:=g) (D:=true) (vs:=[.own true t' xs]) (vals:=(a.eval x).cells.toList) (c:=qc) (i:=i) Ss.new hq rX h0 hy hl bt I N hs hc
       (λr2 z j tv hz hj bS=>by
         have Mr:=fg hj
         refine(hr r2 z j tv hz hj).same (λb F=>Ss.im b F) (λq2 p2 he b2 bT F=>?_) (λi hi=>absurd hi (lQ Mr i)) (λp S=>absurd S (fH Mr p)) (λp S=>absurd S.mv (fH Mr p))
         simp only[aQ,cZ] at he
         obtain⟨rfl,rfl⟩:=he
         refine Ss.at' b2 _ _ F λ⟨_,t3,Tp⟩=>?_
         simp only[kD] at Tp
         have Zy:=Ur Tp
         simp only[CJ,nh,cZ,yx] at Zy bS
         have bY:=(Rz Zy.1.2).2
         rcases bS with bS|bS
         ·exact bS Zy.1.1.symm
         ·exact bS (by omega)) (by rw[xZ];rfl) (by show qc+1<=_;omega) (by simp[bC])
       (λj tv v hj hv=>by
         rw[xZ] at hv
         cases j with
         |zero=>simp at hj hv;subst hj;subst hv;exact⟨bu,zx.1⟩
         |succ j=>simp at hj) (by
         have:rL (enc true t2 y) qc [.own true t' xs]=lY (enc true t2 y) qc (.own true t' xs):=by
          rw[Hs,vc]
          have jT:qc<(enc true t2 y).length:=by rw[ic];exact bs
          rw[List.set_eq_take_append_cons_drop,aD jT]
          simp
         rw[this];exact nT) (λ_=>.inr ⟨rfl,by simp[deep,sL]⟩);have a7:bw (XP (gp p).1 (gp p).2) g.γ w cX (w.setCells b (off+i.toNat*aA t2+qc) (a.eval x).cells.toList):=by
       rw[Q]
       refine(Ss.trans h3).mono (λq' p' hx=>?_)
       rcases hx with⟨dU,IF⟩|hx
       ·exact .inl ⟨dU,(wN _ _).trans IF⟩
       ·exact hx
      obtain⟨s',h5,h6,h7⟩:=Nd _ cX _ hf rfl a7 (λv' cG=>by
       rw[bL] at cG
       simp only[aQ] at cG
       subst cG
       rw[Q];exact h4);refine KI h6 (a7.mono (λq' p' hx=>.inl ?_)) l hd (run S (by rw[zx.2,jV];rfl) I N.un (by
       have J:(i.toNat+1)*aA t2<=cap*aA t2:=od _ (by omega)
       rw[jY,sA] at J
       rw[zx.2];show _+1<=_;omega) (by rw[xZ];simpa using zx.1)) h5;rcases hx with⟨dU,IF⟩|hx
      ·refine⟨.inl (.inr ?_),λiH=>?_⟩
       ·rw[dU];exact a2 p (by rw[r8];exact .ep _ _ _)
       ·rw[Q] at dU IF;exact rE.M5 rX (λ_=>iH) ⟨dU,IF⟩
      ·obtain⟨n,hx⟩:=hx;exact⟨.inr ⟨n,hx⟩,λiH=>by rw[hx] at iH;simp[lU] at iH⟩
    ·simp at hf
   ·simp at hf
  ·simp at M
 ·obtain⟨ab,M⟩:=bQ.1 M;have ab:=gr ab;rw[Be] at ab;obtain⟨du,s',γ1,h1,h2,h3,h4,h5,h6,h7,h8⟩:=RF hC h l hx 0 M;have jU:du.length=(C.aR t).sz:=by rw[h4,ab]
  have xZ:(a.eval x).cells.size=(C.aR t).sz:=by rw[<-jU,<-h3];simp
  have zx:∀u∈(a.eval x).cells.toList,u.oneCell'=true:=λu N=>by
   obtain⟨j,hj⟩:=tT N
   have ap:=(da.1 hj).1
   exact(h6 j _ u (cT (by omega)) hj).2
  split at h1
  ·rename_i k c r8;rw[r8] at Y;have S:a.eval H=.pointer (some ⟨g.bx k,c,none⟩):=by generalize iX H=m at Y;generalize a.eval H=u at Y;cases Y;rfl
   split at h1
   ·rename_i cs F;obtain⟨gn,h1⟩:=bQ.1 h1;have gn:=yM.1 gn;have eF:=h2.boxes k;rw[F] at eF;obtain⟨Zz,e,fr,I,N,hg,hl,hT,hr⟩:=eF;have jk:=Lc (γ:=γ1) (n:=0) (τ:=λj=>(.box k,[(0,c+j)]));have gW:Rel C E s' {g with γ:=iF γ1 0 (λj=>(.box k,[(0,c+j)]))} w:=h2.sR (g:={g with γ:=γ1}) (jk.mono (λq hq=>⟨0,hq⟩));have ZA:iF γ1 0 (λj=>(.box k,[(0,c+j)])) (g.bx k)=.at (.box k) []:=QW hg (by simp);have rZ:=A6 (kR (g.bx k) (a.eval x).cells.toList c w) gW.aC.new ZA;obtain⟨J,eg⟩:=gW.WI (u:=.cells (rL cs c du)) (off:=c) (vals:=(a.eval x).cells.toList) I ZA (by
     obtain⟨gy,k1,k2,k3,k4⟩:=(kR (g.bx k) (a.eval x).cells.toList c w).this _ _ _ I
     refine⟨gy,e,fr,k1,by rw[k2];exact N,ZA,by rw[k2,anK (by rw[jU];exact gn)];exact hl,λtv a8=>?_,λj tv v hj hv=>?_⟩
     ·rcases ac9 (by rw[jU];exact gn) a8 with a8|a8
      ·exact uU (h5 tv a8)
      ·exact hT tv a8
     ·have Nh:∀{tv v},j1 tv=true->Rd (Gs.rc C {g with γ:=iF γ1 0 (λj=>(.box k,[(0,c+j)]))} w) (some (.box k,[(0,j)])) tv v->Rd (Gs.rc C {g with γ:=iF γ1 0 (λj=>(.box k,[(0,c+j)]))} (w.setCells (g.bx k) c (a.eval x).cells.toList)) (some (.box k,[(0,j)])) tv v:=λ{tv v}S hr=>
        hr.same (λb F=>rZ.im b F) (λq' p' he b' nA F=>rZ.at' b' _ _ F (λhx=>by
         simp only[aQ,cZ] at he
         rw[<-he.2] at hx
         simp at hx)) (λi hi=>absurd hi (Kg S i)) (λp iW=>absurd iW (uX S p)) (λp iW=>absurd iW.mv (uX S p))
      rcases VX (by rw[jU];exact gn) hj with⟨m1,m2,m3⟩|⟨m1,m2⟩
      ·have am:=k3 (j-c) (by omega) (by omega)
       rw[show c+(j-c)=j by omega,hv] at am
       obtain⟨m4,m5⟩:=h6 _ tv v m3 am.symm
       have dx:=h5 tv (dH m3)
       refine⟨m5,Nh (uU dx) ?_⟩
       have m6:Rd (Gs.rc C {g with γ:=iF γ1 0 (λj=>(.box k,[(0,c+j)]))} w) (some (.box k,[(0,c+(j-c))])) tv v:=m4.Tl (τ:=λj=>(.box k,[(0,c+j)])) dx rfl
       rwa[show c+(j-c)=j by omega] at m6
      ·have cG:Zz[j]?=some v:=by rw[<-k4 j (by rw[h3];exact m1)];exact hv
       obtain⟨m4,m5⟩:=hr j tv v m2 cG
       have Tq:=hT tv (dH m2)
       refine⟨m4,Nh Tq ?_⟩
       exact m5.same (λb F=>⟨jk.im b F,rfl⟩) (λq' p' he b' nA F=>⟨jk.at' b' _ _ F (λhz=>by
        simp only[aQ,cZ] at he
        rw[<-he.1] at hz;simp at hz),rfl⟩) (λi hi=>absurd hi (Kg Tq i)) (λp iW=>absurd iW (uX Tq p)) (λp iW=>absurd iW.mv (uX Tq p)));refine KI J ((((h7.fK h.aC.new).trans (jk.fK h2.aC.new)).trans eg).mono (λq p hx=>?_)) l hd (run S xZ I N (by omega) zx) h1;rcases hx with(⟨hx,F⟩|⟨hx,F⟩)|hx
    ·exact .inl ⟨.inl (.inl hx),F⟩
    ·exact .inl ⟨.inr ⟨0,hx⟩,F⟩
    ·exact .inr ⟨k,.inl ⟨c,r8⟩,hx⟩
   ·simp at h1
  ·rename_i k i r8;rw[r8] at Y;split at h1
   ·rename_i t2 ys F;unfold one? at h1;split at h1
    ·rename_i y nT;obtain⟨z,hz,h1⟩:=dw.1 h1;obtain⟨h0,hz⟩:=mO.1 hz;have ap:=(da.1 hz).1;have S:a.eval H=.pointer (some ⟨g.bx k,i.toNat,none⟩):=by generalize iX H=m at Y;generalize a.eval H=u at Y;cases Y;rfl
     have eF:=h2.boxes k;rw[F] at eF;obtain⟨Zz,e,fr,I,N,hg,cH,hl⟩:=eF;have qO:Zz.size=ys.length:=by have:=congrArg List.length hl;simpa using this
     obtain⟨Ni,Ms,_,_,_,_⟩:=DY cH false y;obtain⟨tE,iZ⟩:=(w7 false nT).get;rw[Ms] at tE iZ;have tE:du.length=1:=tE
     match du,tE,iZ,h5,h6,jU,h3 with
     |[Cc],_,iZ,h5,h6,jU,h3=>
      have a5:(a.eval x).cells.toList.length=1:=h3;obtain⟨u0,Ts⟩:∃u0,(a.eval x).cells.toList=[u0]:=by
       match ao:(a.eval x).cells.toList,a5 with
       |[u0],_=>exact⟨u0,rfl⟩
      obtain⟨YL,_⟩:=h6 0 Cc u0 rfl (by rw[Ts];rfl);have bv:u0=ka t2 y:=by
       have Eu:=iZ 0 Cc Ni rfl rfl
       have fX:enc false t2 y=[Ni]:=Ms
       cases t2<;>simp[Ev.fP] at cH
       ·simp only[enc,nh,jI] at fX;subst fX;rcases Eu with rfl|⟨_,_,_,J⟩
        ·exact YL.rF
        ·simp[sc] at J
       ·simp only[enc,nh,jI] at fX;subst fX;rcases Eu with rfl|⟨_,_,_,J⟩
        ·exact YL.kU
        ·simp[sc] at J
       ·simp only[enc,nh,jI] at fX;subst fX;rcases Eu with rfl|⟨_,_,_,J⟩
        ·exact YL.pK
        ·simp[sc] at J
      obtain⟨J,eg⟩:=h2.WI (u:=.vec t2 (aX ys i y)) (off:=i.toNat) (vals:=(a.eval x).cells.toList) I hg (by
       obtain⟨gy,k1,k2,k3,k4⟩:=(kR (g.bx k) (a.eval x).cells.toList i.toNat w).this _ _ _ I
       refine⟨gy,e,fr,k1,by rw[k2];exact N,hg,cH,?_⟩
       apply akE
       intro j
       rw[ni,ir]
       by_cases hj:j=i.toNat
       ·subst hj
        have:=k3 0 (by rw[Ts];simp) (by omega)
        rw[uQ,Ts] at this
        rw[this]
        simp only[aX]
        rw[Oj ap,bv];rfl
       ·rw[k4 j (by rw[Ts];simp;omega)]
        simp only[aX]
        rw[Ja (q7 hj),<-ni,hl,ir]);refine KI J (((h7.fK h.aC.new).trans eg).mono (λq p hx=>?_)) l hd (run S xZ I N (by rw[<-Jb,a5];omega) zx) h1;rcases hx with⟨hx,F⟩|hx
      ·exact .inl ⟨.inl (.inl hx),F⟩
      ·exact .inr ⟨k,.inr ⟨i,r8⟩,hx⟩
    ·simp at h1
   ·simp at h1
  ·rename_i p t0 i c r8;rw[r8] at Y;obtain⟨b,off,len,cap,cI,bL,h0,ap,S⟩:∃b o len cap,VO (g.rc C w) p/\(g.rc C w).va p=some (.slice (some ⟨b,o,none⟩) len cap)/\0<=i/\i<(len:Int)/\a.eval H=.pointer (some ⟨b,o+i.toNat*aA t0+c,none⟩):=by
    generalize iX H=m at Y;generalize a.eval H=u at Y
    cases Y;exact⟨_,_,_,_,by assumption,by assumption,by assumption,by assumption,rfl⟩
   have zw:(Gs.rc C {g with γ:=γ1} w).va p=some (.slice (some ⟨b,off,none⟩) len cap):=bL;obtain⟨tv,kv,hf,U,Nd⟩:=WH h2 p h1;have done:∀{q:Rt}{π:aZ}{cX:Nat->G}{cs:Array Value}{e:TypeId}{fr:Nat×Nat}{bP:TV},gp p=(q,π)->kv bP=some r->j1 bP=true->bw (XP q π) γ1 w cX (w.setCells b (off+i.toNat*aA t0+c) (a.eval x).cells.toList)->
     Rd (Gs.rc C {g with γ:=cX} (w.setCells b (off+i.toNat*aA t0+c) (a.eval x).cells.toList)) (some (q,π)) bP (.slice (some ⟨b,off,none⟩) len cap)->w.heap[b]?=some (.cells cs e fr)->oC t0 cs.size fr->off+cap*aA t0<=cs.size->len<=cap->c+(C.aR t).sz<=aA t0->
     lV P C E nt o g a w K r (λq=>bZ s x q\/bZ s H q) (YJ (aU C s H)) nb:=by
    intro q π cX cs e fr bP Q bF hT a7 gk I N hs Zo a1
    have rX:rE q π:=by have:=A4 p;rwa[Q] at this
    obtain⟨s2,m1,m2,m3⟩:=Nd bP cX _ bF hT (by rw[Q];exact a7) (λv' cG=>by
     have YM:(Gs.rc C {g with γ:=γ1} w).va p=some v':=cG
     rw[zw] at YM
     simp only[aQ] at YM
     subst YM
     rw[Q];exact gk)
    refine KI m2 (((h7.fK h.aC.new).trans a7).mono (λq' p' hx=>.inl ?_)) l hd (run S xZ I N.un (by
     have J:(i.toNat+1)*aA t0<=cap*aA t0:=od _ (by omega)
     rw[jY,sA] at J
     rw[xZ];omega) zx) m1
    rcases hx with⟨hx,F⟩|(⟨dU,IF⟩|⟨n,hx⟩)
    ·exact⟨.inl (.inl hx),F⟩
    ·refine⟨.inl (.inr ?_),λiH=>rE.M5 rX (λ_=>iH) ⟨dU,IF⟩⟩;have:=a2 p (by rw[r8];exact .ep _ _ _);rw[Q] at this;rw[dU];exact this
    ·exact⟨.inr ⟨n,hx⟩,λiH=>by rw[hx] at iH;simp[lU] at iH⟩
   split at hf
   ·rename_i d t2 ys;obtain⟨ht,zT⟩:=bQ.1 hf;have ht:=ef ht;clear hf;subst ht;obtain⟨y,hy,Nj⟩:=dw.1 zT;obtain⟨_,hy⟩:=mO.1 hy;obtain⟨gn,ya⟩:=bQ.1 Nj;have gn:=yM.1 gn;rw[ic] at gn;clear Nj zT;unfold one? at ya;split at ya
    ·rename_i y' nT;rcases U with U|⟨v',tI,pn,_⟩
     ·simp at U
     rw[zw] at tI;simp only[aQ] at tI;subst tI;rcases pn.mR with⟨rfl,_⟩|⟨q,π,b',Sr,aM,cs,e,fr,f,Q,aa,hl,eO,I,N,hs,hc,hr⟩
     ·simp at hy
     simp only[Value.slice.injEq,aQ,Addr.mk.injEq,jI] at aa;obtain⟨⟨rfl,rfl⟩,rfl,rfl⟩:=aa;simp only[aQ] at Q;obtain⟨cX,m1,m2⟩:=VY (C:=C) (g:=g) (D:=bif flat t2 then true else bif deep du then d else false) (vs:=du) (vals:=(a.eval x).cells.toList) (c:=c) (i:=i) h2.aC.new (λn e=>jo p n (by rw[Q];exact e)) (by have:=A4 p;rwa[Q] at this) h0 hy hl eO I N hs hc
      (λr2 z j tv hz hj _=>hr r2 z j tv hz hj) h3 (by rw[jU];exact gn) h5 h6 nT (λhD=>by
        cases gz:flat t2 with
        |true=>exact .inl rfl
        |false=>
         rw[gz,aH] at hD
         cases tG:deep du with
         |true=>rw[tG,aF] at hD;exact .inr ⟨hD,rfl⟩
         |false=>rw[tG] at hD;simp at hD);exact done Q ya rfl m1 m2 I N hs hl gn
    ·simp at ya
   ·rename_i t2 ys r' c';obtain⟨ht,zT⟩:=bQ.1 hf;have ht:=ef ht;clear hf;subst ht;obtain⟨_,dv,Nj⟩:=dw.1 zT;have dv:r'=i:=ef (nG.1 dv);clear zT;subst dv;obtain⟨y,hy,ya⟩:=dw.1 Nj;obtain⟨_,hy⟩:=mO.1 hy;clear Nj;unfold one? at ya;split at ya
    ·rename_i y' nT;obtain⟨By,bK⟩:=bQ.1 ya;clear ya;have fT:c=c'/\du.length=1/\deep du=true:=by
      cases J:Nat.beq c c' with
      |false=>rw[J] at By;simp at By
      |true=>
       rw[J,aF] at By
       cases eg:Nat.beq (sW du) 1 with
       |false=>rw[eg] at By;simp at By
       |true=>
        rw[eg,aF] at By
        have:=gr eg
        rw[Be] at this
        exact⟨gr J,this,By⟩
     obtain⟨ao,b0,tG⟩:=fT;clear By;subst ao;rcases U with U|⟨v',tI,pn,_⟩
     ·simp at U
     rw[zw] at tI;simp only[aQ] at tI;subst tI;obtain⟨q,π,b',Sr,aM,cs,e,fr,f,Q,aa,hl,eO,I,N,hs,hc,hr⟩:=pn.Ww;simp only[Value.slice.injEq,aQ,Addr.mk.injEq,jI] at aa;obtain⟨⟨rfl,rfl⟩,rfl,rfl⟩:=aa;simp only[aQ] at Q;have gn:c+du.length<=aA t2:=by
      have a6:=(w7 false nT).get.1
      rw[ic,Hs] at a6
      simp only[dG,lv,oN,ic] at a6
      omega
     obtain⟨cX,m1,m2⟩:=VY (C:=C) (g:=g) (d:=true) (D:=true) (vs:=du) (vals:=(a.eval x).cells.toList) (c:=c) (i:=r') h2.aC.new (λn e=>jo p n (by rw[Q];exact e)) (by have:=A4 p;rwa[Q] at this) h0 hy hl eO I N hs hc
      (λr2 z j tv hz hj bS=>hr r2 z j tv hz hj (by rcases bS with J|J;exact .inl J;exact .inr (by omega))) h3 gn h5 h6 nT (λ_=>.inr ⟨rfl,tG⟩);exact done Q bK rfl m1 m2 I N hs hl (by rw[<-jU];exact gn)
    ·simp at ya
   ·simp at hf
  ·simp at h1
end
end
section
theorem amy{tv:TV}(h:XX tv=true):fJ tv=true:=by cases tv<;>simp_all [XX,fJ]
theorem WJ{tv:TV}{u:Value}(e:∀v,zC tv v=true->v=u):∀{n:Nat}{vs:List Value},kN (List.replicate n tv) vs=true->vs=List.replicate n u
 |0,[],_=>rfl
 |0,_::_,h=>by simp[kN] at h
 |n+1,[],h=>by simp[Jc,kN] at h
 |n+1,v::vs,h=>by
  simp only[Jc,kN,bo] at h;rw[Jc,<-WJ e h.2,<-e v h.1]
theorem agC{t:Ty}(h:Ev.fP t=false)(x:El t)(v:Value)(hz:zC (nth (enc false t x) 0) v=true):v=ka t x:=by
 obtain⟨tv,j,_,_,_,_⟩:=DY h false x;have e:=(agw (c:=⟨default,λ_=>.fr,λ_=>0,λ_=>none⟩) (m:=none) hz).1;rw[j] at e;simp only[nth] at e;cases t<;>simp[Ev.fP] at h<;>simp only[enc,nh,jI] at j<;>subst j
 ·exact e.rF
 ·exact e.kU
 ·exact e.pK
section
variable{P:Program}{C:Cx}{E:Env}{nt n:Nat}{o:Oper}{s s1:TS}{g g1:Gs}{a:Act}{w w1:World}{R:Type}{r:R}{K:TS->Option R}{Z:Rt->Prop}{γ1:Nat->G}{tv:TV}{v:Value}{X:Rt->aZ->Prop}{nb:Nat->Prop}
theorem ab5(h:Rel C E s g w)(l:cD nt g a)(H:gN nt o.dst){x:Operand}(Q:o.op=.assign x)(hx:dW nt x=true)(S:∀i,fJ (C.gl i)=true)(u:Ev.step C o s K=some r):
  gv P C E nt o g a w K r (λq=>bZ s x q/\∃d,o.dst=some d/\C.al d=false):=by
 simp only[Ev.step,Q] at u;have I:=iS h l hx;have J:(execOp a.eval o).run P w=.ok (.value (a.eval x)) w:=by simp[execOp,Q]
 have j:∀{tv},aU C s x=tv->fJ tv=true->K (cz C s o.dst tv)=some r->gv P C E nt o g a w K r (λq=>bZ s x q/\∃d,o.dst=some d/\C.al d=false):=λ{tv}D M u=>by
  rw[D] at I
  exact kS h l H I M J u
 split at u
 ·exact j (by assumption) rfl u
 ·exact j (by assumption) rfl u
 ·exact j (by assumption) rfl u
 ·exact j (by assumption) rfl u
 ·exact j (by assumption) rfl u
 ·exact j (by assumption) rfl u
 ·exact j (by assumption) rfl u
 ·exact j (by assumption) rfl u
 ·split at u
  ·rename_i d y;cases N:C.al d with
   |true=>
    rw[N,aF] at u;obtain⟨A,F⟩:=bQ.1 u;exact j rfl (amy A) (by rw[y] at F⊢;exact F)
   |false=>
    rw[N,aH] at u;have U:tw (g.rc C w) (.aw 0,[]) (aU C s x) (a.eval x):=by
     rcases Pz (s:=s) S (x:=x) with⟨Y,D⟩|⟨Y,D⟩|M
     ·rw[D];exact⟨λp t e=>by simp at e,λp t lo hi e=>by simp at e,λe=>by simp[bC] at e⟩
     ·rw[D];exact⟨λp t e=>by simp at e,λp t lo hi e=>by simp at e,λe=>by simp[bC] at e⟩
     ·exact(I.anyM M _).M7
    obtain⟨bP,s',aa,A,F,h3,h4,h5,h6⟩:=R7 h U u;exact uc F (h5.mono (λq⟨p,hp,hq⟩=>⟨by rw[<-hq];exact y5 (λi=>(h.l9 i).1) hp,d,y,N⟩)) h.aC.new l H h3 J (by first|exact A|(rw[y];exact A)|(rw[y] at A;exact A))
  ·rename_i y;refine kS (m:=none) h l H (.un none (a.eval x)) rfl J ?_;rw[y];exact u
theorem anM(hC:eW P C)(h:Rel C E s g w)(l:cD nt g a)(hd:gN nt o.dst){t:Nat}(ho:o.op=.alloc t)(x:Ev.step C o s K=some r):lV P C E nt o g a w K r Z (λ_ _=>False) (λk=>o.dst=some k):=by
 simp only[Ev.step,ho] at x;split at x
 ·rename_i d l8;split at x
  ·have go:zq P t=true->∀(u:BC),K (((s.fq d).bx d u).put C d (.ptr d 0))=some r->(∀z:Value,z.cells.toList=nJ P t->∀e,e=t->(w.alloc (.cells z.cells e)).heap[w.heap.size]?=some (.cells z.cells e (0,0))->xI (Gs.rc C ⟨iE (bV g.γ (.aw 0) [] (.box d) []) w.heap.size (.at (.box d) []),λk=>if k=d then w.heap.size else g.bx k,g.tm⟩ (w.alloc (.cells z.cells e))) d u)->
      lV P C E nt o g a w K r Z (λ_ _=>False) (λk=>o.dst=some k):=λhz u x hu=>by
     obtain⟨z,Zu,y,_⟩:=VT (P:=P) (w:=w) hz
     refine WD (n:=0) (γ1:=g.γ) h (.refl _) h.aC.new l l8 hd (AJ w z.cells t) (hu z y t rfl (by show(w.heap.push _)[w.heap.size]?=_;simp)) ?_ x
     simp[execOp,ho,Instr.alloc,Zu,newVar,newRow]
   have A:=hC.ty t;have D:(if d=d then w.heap.size else g.bx d)=w.heap.size:=aD rfl;split at x
   ·simp at x
   ·rename_i H;rw[H] at A;simp only[jr,bo] at A;obtain⟨Q,⟨I,_⟩,J⟩:=A;have Q:=gr Q;refine go I _ x (λz y e S F=>?_);obtain rfl:e=LY:=S.trans Q;split at J
    ·rename_i U;rw[U] at y;have Y:z.cells=#[.pointer none,.slice none 0 0]:=by
      apply Array.ext'
      rw[y]
     rw[Y] at F⊢;refine⟨.pointer none,.slice none 0 0,by simp only[Gs.rc,D];exact F,by simp only[Gs.rc,D];exact sK,.inl rfl,?_⟩;exactλ_=>.inl ⟨rfl,rfl⟩
    ·simp at J
   ·rename_i len e H;obtain⟨et,hu,fX,I,_,cH,hz⟩:=LZ A H;have EM:=(sN A (by rw[H];rfl)).2.2.2.2;refine go EM _ x (λz y M S F=>?_);refine⟨z.cells,M,(0,0),by simp only[Gs.rc,D];exact F,λj _=>by simp,by simp only[Gs.rc,D];exact sK,cH,?_⟩;rw[y,WJ (λv hv=>agC cH _ v hv) hz];simp[xD]
   ·rename_i EP ng Tp;have oD:(C.aR t).var=true:=by
     cases eJ:C.aR t<;>first|rfl|exact absurd eJ EP|exact absurd eJ ng
    have EM:=(sN A oD).2.2.2.2;have U:=apt A oD (λlen e=>Tp len e);refine go EM _ x (λz y M S F=>?_);obtain⟨I,h2⟩:=HL (c:=Gs.rc C ⟨iE (bV g.γ (.aw 0) [] (.box d) []) w.heap.size (.at (.box d) []),λk=>if k=d then w.heap.size else g.bx k,g.tm⟩ (w.alloc (.cells z.cells M))) (m:=λj=>some (.box d,[(0,j)])) U;refine⟨z.cells,M,(0,0),by simp only[Gs.rc,D];exact F,λj _=>by simp,by simp only[Gs.rc,D];exact sK,by rw[<-I,<-y];simp,λtv a8=>?_,λj tv v N hv=>?_⟩
    ·obtain⟨j,N⟩:=tT a8;have aa:=(da.1 N).1;have:=(h2 j tv _ N (cT (by omega))).2.2;simp[j1,this]
    ·have cG:(nJ P t)[j]?=some v:=by rw[<-y];simpa using hv
     obtain⟨J,h4,_⟩:=h2 j tv v N cG;exact⟨h4,J⟩
  ·simp at x
 ·simp at x
end
end
section
structure mW(c:Rc)(d:Bool)(t:Ty)(ys:List (El t))(news:List Value):Prop where
 len:news.length=ys.length*aA t
 rd:∀(r:Nat)y(j:Nat)tv,ys[r]?=some y->(enc d t y)[j]?=some tv->∃u,news[r*aA t+j]?=some u/\u.oneCell'=true/\Rd c (some (.aw 1,[((r:Int),cj t j)])) tv u
def oE(γ:Nat->G)(len:Nat):Nat->G:=λb=>
 match γ b with
 |.at (.aw i) ((x,c)::p)=>if i=1 then .at (.aw 0) ((x+len,c)::p) else .at (.aw i) ((x,c)::p)
 |x=>x
theorem aer{γ:Nat->G}{len b c:Nat}{r:Int}{p:aZ}(h:γ b=.at (.aw 1) ((r,c)::p)):oE γ len b=.at (.aw 0) ((r+len,c)::p):=by simp[oE,h]
theorem yT{γ:Nat->G}{len:Nat}:FK (λq=>q=.aw 1) γ (oE γ len) where
 im:=λb h=>by simp[oE,h]
 at':=λb q p h hz=>by
  have a:q≠.aw 1:=λa=>by have:=hz a;simp[lU,a] at this
  unfold oE;rw[h];split
  ·rename_i i x c u e;simp only[G.at.injEq] at e;obtain⟨rfl,rfl⟩:=e;rw[aE (λj=>a (by rw[j]))]
  ·rfl
 fr:=λb h=>by simp[oE,h]
theorem apz{t:Ty}{olds a:List Value}{n r j:Nat}{u:Value}(e:olds.length=n*aA t)(x:a[r*aA t+j]?=some u):(olds++a)[(n+r)*aA t+j]?=some u:=by
 rw[sB (by rw[e,jY];omega),e,show(n+r)*aA t+j-n*aA t=r*aA t+j by rw[jY];omega];exact x
section
variable{P:Program}{C:Cx}{E:Env}{s:TS}{g:Gs}{w:World}{γ1:Nat->G}
theorem amz{D:Bool}{t:Ty}{a R:List (El t)}{olds e:List Value}(S:olds.length=a.length*aA t)(Y:∀(r:Nat)x(j:Nat)y,a[r]?=some x->(enc D t x)[j]?=some y->∃u,olds[r*aA t+j]?=some u/\u.oneCell'=true/\Rd (Gs.rc C {g with γ:=γ1} w) (some (.aw 0,[((r:Int),cj t j)])) y u)
  (Z:mW (Gs.rc C {g with γ:=γ1} w) D t R e):∀(r:Nat)x(j:Nat)y,(a++R)[r]?=some x->(enc D t x)[j]?=some y->∃u,(olds++e)[r*aA t+j]?=some u/\u.oneCell'=true/\Rd (Gs.rc C {g with γ:=oE γ1 a.length} w) (some (.aw 0,[((r:Int),cj t j)])) y u:=by
 intro r x j y hx F;have H:=fg F;have Nf:j<aA t:=by have:=(da.1 F).1;rwa[ic] at this
 by_cases U:r<a.length
 ·rw[rb U] at hx;obtain⟨u,I,J,M⟩:=Y r x j y hx F;refine⟨u,?_,J,?_⟩
  ·rw[rb (by rw[S];have:(r+1)*aA t<=a.length*aA t:=od _ U;rw[jY,sA] at this;omega)];exact I
  ·exact M.B9 (g:={g with γ:=γ1}) (by simp[eE,H]) yT (λq p A=>by simp only[aQ,cZ] at A;rw[<-A.1];simp)
 ·rw[sB (by omega)] at hx;obtain⟨u,I,J,M⟩:=Z.rd (r-a.length) x j y hx F;refine⟨u,?_,J,?_⟩
  ·have:=apz (olds:=olds) S I;rwa[show a.length+(r-a.length)=r by omega] at this
  ·refine M.mono _ (λb N=>⟨yT.im b N,rfl⟩) (λq p A=>?_) (λi hi=>absurd hi (lQ H i)) (λp Q=>absurd Q (fH H p)) (λp Q=>absurd Q.mv (fH H p));simp only[aQ,cZ] at A;obtain⟨rfl,rfl⟩:=A;refine⟨_,_,rfl,λb π N=>⟨?_,rfl⟩⟩;have dS:γ1 b=.at (.aw 1) (((((r-a.length:Nat)):Int),cj t j)::π):=by have h9:γ1 b=_:=N;simpa using h9
   have:=aer (len:=a.length) dS;rw[show(((r-a.length:Nat):Int)+(a.length:Nat))=(r:Int) by omega] at this;show oE γ1 a.length b=_;simpa using this
theorem KJ(h:Rel C E s {g with γ:=γ1} w){D:Bool}{t:Ty}{xs e:List (El t)}{olds a:List Value}{A ty N Q:TypeId}{i:TypeInfo}{z:Value}{R:Value}{base:Option Addr}{cap:Nat}(ht:P.underlying Q=some (.slice A))(hi:P.info? A=some i)(hz:i.zero=some z)
  (hs:i.size=aA t)(S:z.cells.size=aA t)(Z:olds.length=xs.length*aA t)(hold:(Builtin.firstCells i.size xs.length (.slice base xs.length cap)).run P w.drew=.ok olds.toArray w.drew)(src:Src P i.size N R e.length a w)
  (ZC:∀(r:Nat)x(j:Nat)y,xs[r]?=some x->(enc D t x)[j]?=some y->∃u,olds[r*aA t+j]?=some u/\u.oneCell'=true/\Rd (Gs.rc C {g with γ:=γ1} w) (some (.aw 0,[((r:Int),cj t j)])) y u)
  (lJ:mW (Gs.rc C {g with γ:=γ1} w) D t e a)(hg:cap<xs.length+e.length)(hb:2*(xs.length+e.length)*i.bytes<=2^48)(p8:xs.length+e.length<=2^62):
  ∃v w' F,(Builtin.append_ #[Q,N] ty #[.slice base xs.length cap,R]).run P w=.ok v w'/\Rel C E s {g with γ:=F} w'/\Rd (Gs.rc C {g with γ:=F} w') (some (.aw 0,[])) (.own D t (xs++e)) v/\bw (λq _=>∃n,q=.aw n) γ1 w F w':=by
 have Mt:Builtin.nextslicecap (xs.length+e.length) cap*i.bytes<=281474976710656:=growslice_fits hg (by rw[Nat.mul_assoc] at hb;omega);have gh:=run_append_grow_src (P:=P) w Q N ty A i z ht hi hz base xs.length cap olds hold R e.length a src hg (by omega) Mt;have uE:=grownCap_ge w (xs.length+e.length) cap A;have H:Rel C E s {g with γ:=oE γ1 xs.length} w:=h.sR (g:={g with γ:=γ1}) (yT.mono (λq hq=>⟨1,hq⟩));have gf:∀(r:Nat)x(j:Nat)y,(xs++e)[r]?=some x->(enc D t x)[j]?=some y->∃u,((olds++a).toArray++Builtin.zeroCells z.cells (grownCap w (xs.length+e.length) cap A-(xs.length+e.length)))[r*aA t+j]?=some u/\u.oneCell'=true/\Rd (Gs.rc C {g with γ:=oE γ1 xs.length} w) (some (.aw 0,[((r:Int),cj t j)])) y u:=λr x j y hx I=>by
  obtain⟨u,J,M,U⟩:=amz Z ZC lJ r x j y hx I
  refine⟨u,?_,M,U⟩
  have Y:=(da.1 J).1
  rw[aaw (by simpa using Y)]
  simpa using J
 obtain⟨J,M,U⟩:=QV (n:=0) (d:=D) (t:=t) (xs:=xs++e) (cap:=grownCap w (xs.length+e.length) cap A) H (amt w ((olds++a).toArray++Builtin.zeroCells z.cells (grownCap w (xs.length+e.length) cap A-(xs.length+e.length))) A)
  (λr j=>((olds++a).toArray++Builtin.zeroCells z.cells (grownCap w (xs.length+e.length) cap A-(xs.length+e.length)))[r*aA t+j]?.getD undef) (by simpa using uE) (by
    rw[aau,size_zeroCells,S]
    simp only[Uv,dG,Z,lJ.len]
    rw[<-jY,<-jY]
    exact od _ (by omega))
  (λr x j y hx I=>by obtain⟨u,k1,k2,_⟩:=gf r x j y hx I;rw[k1];exact⟨rfl,k2⟩)
  (λr x j y hx I=>by obtain⟨u,k1,_,k3⟩:=gf r x j y hx I;rw[k1];exact k3);rw[dG] at M;refine⟨_,_,_,gh,J,M,((yT.fK h.aC.new).trans U).mono (λq p hx=>?_)⟩;rcases hx with⟨hx,_⟩|hx
 ·exact⟨1,hx⟩
 ·exact hx.elim
theorem anN(h:Rel C E s {g with γ:=γ1} w){D:Bool}{t:Ty}{a J:List (El t)}{A:List Value}{et ty tx tt:TypeId}{i:TypeInfo}{vy:Value}{b y cap:Nat}{Y:Array Value}{e:TypeId}{fr:Nat×Nat}{f:Nat->Nat->Value}(ht:P.underlying tt=some (.slice et))(hi:P.info? et=some i)
  (hs:i.size=aA t)(src:Src P i.size tx vy J.length A w)
  (hl:a.length<=cap)(eO:γ1 b=.at (.aw 0) [tg t])(hh:w.heap[b]?=some (.cells Y e fr))(hu:oC t Y.size fr)(am:y+cap*aA t<=Y.size)
  (hc:∀(r:Nat)x(j:Nat)F,a[r]?=some x->(enc D t x)[j]?=some F->cellAt w b (y+r*aA t+j)=some (f r j)/\(f r j).oneCell'=true)
  (hr:∀(r:Nat)x(j:Nat)F,a[r]?=some x->(enc D t x)[j]?=some F->Rd (Gs.rc C {g with γ:=γ1} w) (some (.aw 0,[((r:Int),cj t j)])) F (f r j))
  (lJ:mW (Gs.rc C {g with γ:=γ1} w) D t J A)(H:a.length+J.length<=cap):
  ∃v w' S,(Builtin.append_ #[tt,tx] ty #[.slice (some ⟨b,y,none⟩) a.length cap,vy]).run P w=.ok v w'/\Rel C E s {g with γ:=S} w'/\Rd (Gs.rc C {g with γ:=S} w') (some (.aw 0,[])) (.own D t (a++J)) v/\bw (λq _=>∃n,q=.aw n) γ1 w S w':=by
 have aa:(a.length+J.length)*aA t<=cap*aA t:=od _ H;rw[jY] at aa;have Lw:∀k,w.cell? ⟨b,k,none⟩=Y[k]?:=λk=>by simp[World.cell?,hh]
 have mG:∀k,k<Y.size->w.frozen? ⟨b,k,none⟩=false:=λk hk=>by
  have:=hu k hk
  simp only[World.frozen?,hh]
  simp only[akD,lP]
  by_cases h1:fr.1<=k
  ·exact .inr (λh2=>this ⟨h1,h2⟩)
  ·exact .inl h1
 have mH:=lJ.len;have gh:=run_append_room_src (P:=P) w tt tx ty et i ht hi b y a.length cap vy J.length A src H (λj I=>by rw[Lw,hs];rw[jX (by omega)];rfl) (λj I=>mG _ (by rw[hs];omega));rw[hs] at gh;have pk:=kR b A (y+a.length*aA t) w;obtain⟨gy,k1,k2,k3,k4⟩:=pk.this _ _ _ hh;have M:Rel C E s {g with γ:=oE γ1 a.length} w:=h.sR (g:={g with γ:=γ1}) (yT.mono (λq hq=>⟨1,hq⟩));have ab:oE γ1 a.length b=.at (.aw 0) [tg t]:=yT.at' b _ _ eO (λh=>by simp at h);have rZ:=A6 pk M.aC.new ab;have ad:bw (λq _=>∃n,q=Rt.aw n) (oE γ1 a.length) w (oE γ1 a.length) (w.setCells b (y+a.length*aA t) A):=rZ.mono (λq p hx=>⟨0,hx.1⟩);have L1:=M.grow ad (λq p hx=>hx);refine⟨_,_,oE γ1 a.length,gh,L1,?_,((yT.fK h.aC.new).trans ad).mono (λq p hx=>by rcases hx with⟨hx,_⟩|hx;exact⟨1,hx⟩;exact hx)⟩;have gf:∀(r:Nat)x(j:Nat)F,(a++J)[r]?=some x->(enc D t x)[j]?=some F->∃u,gy[y+r*aA t+j]?=some u/\u.oneCell'=true/\Rd (Gs.rc C {g with γ:=oE γ1 a.length} w) (some (.aw 0,[((r:Int),cj t j)])) F u:=λr x j F hx I=>by
  have N:=fg I
  have Nf:j<aA t:=by have:=(da.1 I).1;rwa[ic] at this
  by_cases qM:r<a.length
  ·rw[rb qM] at hx;obtain⟨Z,m2⟩:=hc r x j F hx I;have ZD:(r+1)*aA t<=a.length*aA t:=od _ qM;rw[jY,sA] at ZD;refine⟨f r j,?_,m2,?_⟩
   ·rw[k4 _ (by omega)];have:cellAt w b (y+r*aA t+j)=Y[y+r*aA t+j]?:=Lw _;rw[<-this];exact Z
   ·exact(hr r x j F hx I).B9 (g:={g with γ:=γ1}) (by simp[eE,N]) yT (λq p Q=>by simp only[aQ,cZ] at Q;rw[<-Q.1];simp)
  ·rw[sB (by omega)] at hx;have ap:=(da.1 hx).1;obtain⟨u,h1,h2,h3⟩:=lJ.rd (r-a.length) x j F hx I;have ao:=(da.1 h1).1;refine⟨u,?_,h2,?_⟩
   ·have:=k3 ((r-a.length)*aA t+j) ao (by omega);rw[show y+a.length*aA t+((r-a.length)*aA t+j)=y+r*aA t+j by
     have:r*aA t=a.length*aA t+(r-a.length)*aA t:=by rw[<-jY];congr 1;omega
     omega] at this;rw[this];exact h1
   ·refine h3.mono _ (λb U=>⟨yT.im b U,rfl⟩) (λq p Q=>?_) (λi hi=>absurd hi (lQ N i)) (λp hp=>absurd hp (fH N p)) (λp hp=>absurd hp.mv (fH N p));simp only[aQ,cZ] at Q;obtain⟨rfl,rfl⟩:=Q;refine⟨_,_,rfl,λb π U=>⟨?_,rfl⟩⟩;have dS:γ1 b=.at (.aw 1) (((((r-a.length:Nat)):Int),cj t j)::π):=by have h9:γ1 b=_:=U;simpa using h9
    have:=aer (len:=a.length) dS;rw[show(((r-a.length:Nat):Int)+(a.length:Nat))=(r:Int) by omega] at this;show oE γ1 a.length b=_;simpa using this
 have R:=Rd.kY (c:=Gs.rc C {g with γ:=oE γ1 a.length} (w.setCells b (y+a.length*aA t) A)) (.aw 0) [] D t (a++J) b y cap gy e fr (λr j=>gy[y+r*aA t+j]?.getD undef) (by simpa using H) ab k1 (by rw[k2];exact hu) (by rw[k2];exact am)
  (λr x j F hx I=>by
    obtain⟨u,Z,m2,_⟩:=gf r x j F hx I
    have ZE:(w.setCells b (y+a.length*aA t) A).heap[b]?=some (.cells gy e fr):=k1
    exact⟨by simp[cellAt,World.cell?,Gs.rc,ZE,Z],by simp[Z,m2]⟩)
  (λr x j F hx I=>by
    obtain⟨u,Z,_,m3⟩:=gf r x j F hx I
    rw[Z]
    have N:=fg I
    refine m3.same (λb U=>rZ.im b U) (λq' p' Q b' nA U=>rZ.at' b' _ _ U (λhx=>?_)) (λi hi=>absurd hi (lQ N i)) (λp iW=>absurd iW (fH N p)) (λp iW=>absurd iW.mv (fH N p))
    simp only[aQ,cZ] at Q
    rw[<-Q.2] at hx
    have:=hx.2
    simp only[iw,CJ,nh] at this
    exact LX this.1);rw[dG] at R;exact R
end
end
section
theorem pB{R:Type}{r:R}{t j:Ty}{u:List (El t)}{K:List (El j)->Option R}(h:castLT t j u K=some r):∃e:t=j,K (ki e u)=some r:=by
 unfold castLT at h;split at h
 ·rename_i e;exact⟨e,h⟩
 ·simp at h
theorem Xu(t:Ty)(x:El t):enc (flat t) t x=enc false t x:=by
 cases e:flat t with
 |true=>exact oS e true false x
 |false=>rfl
section
variable{P:Program}{C:Cx}{E:Env}{nt n:Nat}{o:Oper}{s s1:TS}{g g1:Gs}{a:Act}{w w1:World}{R:Type}{r:R}{γ1:Nat->G}{tv:TV}{v:Value}
theorem QX{c:Rc}{d:Bool}{t:Ty}{ys:List (El t)}{b off:Nat}{f:Nat->Nat->Value}(H:∀(r:Nat)y(j:Nat)tv,ys[r]?=some y->(enc d t y)[j]?=some tv->cellAt w b (off+r*aA t+j)=some (f r j)/\(f r j).oneCell'=true)
  (I:∀(r:Nat)y(j:Nat)tv,ys[r]?=some y->(enc d t y)[j]?=some tv->Rd c (some (.aw 1,[((r:Int),cj t j)])) tv (f r j)):
  ∃news:List Value,(∀k u,news[k]?=some u->cellAt w b (off+k)=some u)/\(∀u∈news,u.oneCell'=true)/\mW c d t ys news:=by
 have N:=QM t;have J:∀r j,r<ys.length->j<aA t->((List.range (ys.length*aA t)).map λk=>f (k/aA t) (k % aA t))[r*aA t+j]?=some (f r j):=λr j I F=>by
  have x:r*aA t+j<ys.length*aA t:=by
   have:(r+1)*aA t<=ys.length*aA t:=od _ I
   rw[jY,sA] at this
   omega
  rw[ir,Fm x]
  have A:(r*aA t+j)/aA t=r:=by rw[Ap,ayC _ _ N,aax F,iu]
  have D:(r*aA t+j) % aA t=j:=by rw[Ap,akx];exact Fo F
  simp[A,D]
 have back:∀k u,((List.range (ys.length*aA t)).map λk=>f (k/aA t) (k % aA t))[k]?=some u->∃r j,r<ys.length/\j<aA t/\k=r*aA t+j/\u=f r j:=λk u e=>by
  rw[ir] at e
  have x:k<ys.length*aA t:=by
   rcases CK k (ys.length*aA t) with h|h
   ·exact h
   ·rw[pz (by simpa using h)] at e;simp at e
  rw[Fm x] at e;simp only[jA,aQ] at e;exact⟨k/aA t,k % aA t,aay (by rw[Ar];exact x),Uw _ N,by rw[Ar];exact(aaz k (aA t)).symm,e.symm⟩
 refine⟨(List.range (ys.length*aA t)).map λk=>f (k/aA t) (k % aA t),λk u e=>?_,λu Q=>?_,⟨by simp,λr y j tv M F=>?_⟩⟩
 ·obtain⟨r,j,A,D,rfl,rfl⟩:=back k u e;have:=(H r ys[r] j _ (cT A) (cT (by rw[ic];exact D))).1;rw[<-ra];exact this
 ·obtain⟨k,e⟩:=tT Q;obtain⟨r,j,A,D,_,rfl⟩:=back k u e;exact(H r ys[r] j _ (cT A) (cT (by rw[ic];exact D))).2
 ·have A:=(da.1 M).1;have D:j<aA t:=by have:=(da.1 F).1;rwa[ic] at this
  exact⟨f r j,J r j A D,(H r y j tv M F).2,I r y j tv M F⟩
theorem PC{sz:Nat}{y:TypeId}(I:(∃J,P.underlying y=some (.slice J))\/P.underlying y=some .string){b x cap n:Nat}{e:List Value}(A:e.length=n*sz)(F:∀k u,e[k]?=some u->cellAt w b (x+k)=some u)(M:∀u∈e,u.oneCell'=true):
  Src P sz y (.slice (some ⟨b,x,none⟩) n cap) n e w:=by
 have H:∀j,(⟨b,x,none⟩:Addr).add j=⟨b,x+j,none⟩:=λj=>by unfold Addr.add;split<;>simp_all
 exact⟨I,λ_=>rfl,run_firstCells_some w sz n ⟨b,x,none⟩ n cap e A (λj v D=>by rw[H];exact F j v D),run_firstCells_some w.drew sz n ⟨b,x,none⟩ n cap e A (λj v D=>by rw[H];exact F j v D),A,M⟩
theorem Hy{sz:Nat}{e:TypeId}(j:(∃x,P.underlying e=some (.slice x))\/P.underlying e=some .string){va:Option Addr}{cap:Nat}:Src P sz e (.slice va 0 cap) 0 [] w:=by
 cases va with
 |none=>exact⟨j,λ_=>rfl,run_firstCells_none w sz 0 0 cap,run_firstCells_none w.drew sz 0 0 cap,by simp,λ_ h=>by cases h⟩
 |some u=>exact⟨j,λ_=>rfl,run_firstCells_some w sz 0 u 0 cap [] (by simp) (by simp),run_firstCells_some w.drew sz 0 u 0 cap [] (by simp) (by simp),by simp,λ_ h=>by cases h⟩
theorem mW.nil{c:Rc}{d:Bool}{t:Ty}:mW c d t ([]:List (El t)) []:=⟨by simp,λr y j tv e=>by simp at e⟩
theorem apA(h:Rel C E s g w)(l:cD nt g a)(hg:∀i,fJ (C.gl i)=true){y:Operand}(U:dW nt y=true){t:Ty}{tx:TypeId}(lj:(∃e',P.underlying tx=some (.slice e'))\/P.underlying tx=some .string){K:Bool->List (El t)->TS->Option R}(A:nP C t (aU C s y) s K=some r):
  ∃d ys I γ' D,K d ys I=some r/\Rel C E I {g with γ:=γ'} w/\Src P (aA t) tx (a.eval y) ys.length D w/\mW (Gs.rc C {g with γ:=γ'} w) d t ys D/\FK (bZ s y) g.γ γ'/\dL I s:=by
 have H:=iS h l U;have bJ:∀{d}{ys:List (El t)}{u:Value}{I γ'},u=a.eval y->Rel C E I {g with γ:=γ'} w->(∃m,Rd (Gs.rc C {g with γ:=γ'} w) m (.bJ t ys) u)->d=flat t\/d=false->FK (bZ s y) g.γ γ'->dL I s->K d ys I=some r->
   ∃d ys I γ' D,K d ys I=some r/\Rel C E I {g with γ:=γ'} w/\Src P (aA t) tx (a.eval y) ys.length D w/\mW (Gs.rc C {g with γ:=γ'} w) d t ys D/\FK (bZ s y) g.γ γ'/\dL I s:=by
  intro d ys u I γ' hu ab ⟨m,hr⟩ hd hf ZF A
  have Nl:∀y:El t,enc d t y=enc false t y:=λy=>by
   rcases hd with rfl|rfl
   ·exact Xu t y
   ·rfl
  rcases hr.ub with⟨rfl,va,cap,N⟩|⟨b,off,cap,f,N,F,ln,hc,pZ⟩
  ·exact⟨d,[],I,γ',[],A,ab,by rw[<-hu,N];exact Hy lj,.nil,hf,ZF⟩
  ·obtain⟨D,Y,h2,h3⟩:=QX (c:=Gs.rc C {g with γ:=γ'} w) (w:=w) (d:=d) (b:=b) (off:=off) (ys:=ys) (f:=f) (λr y j tv U M=>hc r y j tv U (by rwa[Nl] at M)) (λr y j tv U M=>(pZ r y j tv U (by rwa[Nl] at M)).lift _);exact⟨d,ys,I,γ',D,A,ab,by rw[<-hu,N];exact PC lj h3.len Y h2,h3,hf,ZF⟩
 have aM:flat t=true->∀{d}{ys:List (El t)}{u:Value}{m},u=a.eval y->Rd (g.rc C w) m (.own d t ys) u->K true ys s=some r->∃d ys I γ' D,K d ys I=some r/\Rel C E I {g with γ:=γ'} w/\Src P (aA t) tx (a.eval y) ys.length D w/\mW (Gs.rc C {g with γ:=γ'} w) d t ys D/\FK (bZ s y) g.γ γ'/\dL I s:=by
  intro Q d ys u m hu hr A
  rcases hr.mR with⟨rfl,va,N⟩|⟨q,p,b,off,cap,cs,e,fr,f,hm,N,F,ln,hh,lH,hs,hc,pZ⟩
  ·exact⟨true,[],s,g.γ,[],A,h,by rw[<-hu,N];exact Hy lj,.nil,.refl _,.refl _⟩
  ·obtain⟨D,Y,h2,h3⟩:=QX (c:=g.rc C w) (w:=w) (d:=true) (b:=b) (off:=off) (ys:=ys) (f:=f) (λr y j tv U M=>hc r y j tv U (by rwa[oS Q true d] at M)) (λr y j tv U M=>(pZ r y j tv U (by rwa[oS Q true d] at M)).any (fg M) (vd (x:=y) (j:=j) (by rwa[oS Q true false] at M)) _);exact⟨true,ys,s,g.γ,D,A,h,by rw[<-hu,N];exact PC lj h3.len Y h2,h3,.refl _,.refl _⟩
 unfold nP at A;split at A
 ·rename_i Z ys S;obtain⟨e,A⟩:=pB A;subst e;rw[S] at H;exact bJ rfl h ⟨_,H⟩ (.inl rfl) (.refl _) (.refl _) A
 ·rename_i Z ys S;obtain⟨e,A⟩:=pB A;subst e;rw[S] at H;exact bJ rfl h ⟨_,H.DT⟩ (.inl rfl) (.refl _) (.refl _) A
 ·rename_i S;rw[S] at H;have he:a.eval y=.slice none 0 0:=by generalize iX y=m at H;generalize a.eval y=u at H;cases H;rfl
  exact⟨true,[],s,g.γ,[],A,h,by rw[he];exact Hy lj,.nil,.refl _,.refl _⟩
 ·rename_i S;rw[S] at H;obtain⟨va,he⟩:∃va,a.eval y=.slice va 0 0:=by generalize iX y=m at H;generalize a.eval y=u at H;cases H;exact⟨_,rfl⟩
  exact⟨true,[],s,g.γ,[],A,h,by rw[he];exact Hy lj,.nil,.refl _,.refl _⟩
 ·rename_i b S;obtain⟨e,A⟩:=pB A;subst e;rw[S] at H;have he:=H.pK;have jV:(ki rfl (show List (El (.int .u8)) from bB b)).length=(ByteArray.mk ⟨b⟩).size:=by show(bB b).length=_;simp[bB];rfl
  refine⟨true,_,s,g.γ,byteCells ⟨⟨b⟩⟩,A,h,?_,⟨?_,?_⟩,.refl _,.refl _⟩
  ·rw[he,jV];exact⟨lj,λ_=>rfl,firstCells_string ⟨⟨b⟩⟩ w,firstCells_string ⟨⟨b⟩⟩ w.drew,by rw[byteCells_length];simp[aA],λu hu=>by
    obtain⟨_,_,rfl⟩:=gQ.1 hu
    rfl⟩
  ·rw[jV,byteCells_length];simp[aA]
  ·intro r z j tv hz M;have zO:(b.map λc=>(c.toNat:Int))[r]?=some (show Int from z):=hz;rw[ir] at zO;obtain⟨c,hc,zO⟩:=CG.1 zO;cases j with
   |zero=>
    simp[enc] at M;subst M;refine⟨.int .u8 (show Int from z),?_,rfl,.i _ _ _⟩;rw[show r*aA (.int .u8)+0=r by simp[aA]];simp only[byteCells,ir];rw[hc];simp[<-zO]
   |succ j=>simp[enc] at M
 ·rename_i p t0 S;rw[S] at H;have bL:(g.rc C w).va p=some (a.eval y):=by generalize iX y=m at H;cases H;assumption
  cases Q:flat t with
  |true=>
   rw[Q,aF] at A;obtain⟨tv,qP,A⟩:=ry A;have F:=sJ h bL qP;split at A
   ·obtain⟨e,A⟩:=pB A;subst e;rcases F with F|F
    ·simp at F
    exact aM Q rfl F A
   ·obtain⟨e,A⟩:=pB A;subst e;rcases F with F|F
    ·simp at F
    exact bJ rfl h ⟨_,F⟩ (.inl Q.symm) (.refl _) (.refl _) A
   ·simp at A
  |false=>
   rw[Q,aH] at A;have hF:tw (g.rc C w) (.aw 1,[]) (aU C s y) (a.eval y):=by rw[S];exact(H.anyM rfl _).M7
   obtain⟨bP,I,γ',Y,h2,h3,h4,h5,h6⟩:=R7 h hF A;have jk:FK (bZ s y) g.γ γ':=h5.mono (λq⟨p',hp,hq⟩=>by rw[<-hq];exact y5 (λi=>(h.l9 i).1) hp);split at Y
   ·rename_i d Z ys;obtain⟨e,Y⟩:=pB Y;subst e;rcases h3.mR with⟨rfl,va,N⟩|⟨q,π,b,off,cap,cs,e,fr,f,hm,N,F,ln,hh,lH,hs,hc,pZ⟩
    ·exact⟨d,[],I,γ',[],Y,h2,by rw[N];exact Hy lj,.nil,jk,h6⟩
    ·simp only[aQ,cZ] at hm;obtain⟨rfl,rfl⟩:=hm;obtain⟨D,k1,k2,k3⟩:=QX (c:=Gs.rc C {g with γ:=γ'} w) (w:=w) (d:=d) (b:=b) (off:=off) (ys:=ys) (f:=f) hc pZ;exact⟨d,ys,I,γ',D,Y,h2,by rw[N];exact PC lj k3.len k1 k2,k3,jk,h6⟩
   ·obtain⟨e,Y⟩:=pB Y;subst e;exact bJ rfl h2 ⟨_,h3⟩ (.inr rfl) jk h6 Y
   ·simp at Y
 ·rename_i p t0 lo hi S;rw[S] at H;obtain⟨aa,len,cap,a',J,cI,bL,pg,h2,h3,h4,h5,h6,h7⟩:∃aa len cap a' J,VO (g.rc C w) p/\(g.rc C w).va p=some (.slice aa len cap)/\a.eval y=.slice a' (hi.toNat-lo.toNat) J/\0<=lo/\lo<=hi/\hi<=(len:Int)/\
    (J=0\/∃b o,aa=some ⟨b,o,none⟩/\a'=some ⟨b,o+lo.toNat*aA t0,none⟩)/\hi.toNat-lo.toNat<=J/\J+lo.toNat<=cap:=by
   generalize iX y=m at H
   generalize a.eval y=u at H
   cases H;exact⟨_,_,_,_,_,by assumption,by assumption,rfl,by assumption,by assumption,by assumption,by assumption,by assumption,by assumption⟩
  cases Q:flat t with
  |true=>
   rw[Q,aF] at A;obtain⟨tv,qP,A⟩:=ry A;have F:=sJ h bL qP;split at A
   ·rename_i d Z ys;obtain⟨ht,cB⟩:=bQ.1 A;have ht:=ef ht;clear A;subst ht;obtain⟨zs,ad,A⟩:=dw.1 cB;obtain⟨⟨_,_,h9⟩,rfl⟩:=wW.1 ad;obtain⟨e,A⟩:=pB A;subst e;rcases F with F|F
    ·simp at F
    have EL:((ys.drop lo.toNat).take (hi.toNat-lo.toNat)).length=hi.toNat-lo.toNat:=by simp;omega
    by_cases am:hi.toNat-lo.toNat=0
    ·have ao:(ys.drop lo.toNat).take (hi.toNat-lo.toNat)=[]:=by rw[am];rfl
     refine⟨true,_,s,g.γ,[],A,h,?_,?_,.refl _,.refl _⟩
     ·show Src P _ tx _ ((ys.drop lo.toNat).take (hi.toNat-lo.toNat)).length [] w;rw[EL,pg,am];exact Hy lj
     ·show mW _ true Z ((ys.drop lo.toNat).take (hi.toNat-lo.toNat)) [];rw[ao];exact .nil
    ·rcases h5 with h5|⟨b,off,rfl,rfl⟩
     ·omega
     rcases F.mR with⟨rfl,va,N⟩|⟨q,π,b',Sr,Mo,cs,e,fr,f,hm,N,tE,ln,hh,lH,hs,hc,pZ⟩
     ·simp at h9;omega
     simp only[Value.slice.injEq,aQ,Addr.mk.injEq,jI] at N;obtain⟨⟨rfl,rfl⟩,rfl,rfl⟩:=N;have ap:∀(r:Nat)(x:El Z),((ys.drop lo.toNat).take (hi.toNat-lo.toNat))[r]?=some x->ys[lo.toNat+r]?=some x:=λr x hx=>by
      rw[q8] at hx
      split at hx
      ·rwa[An] at hx
      ·simp at hx
     obtain⟨D,k1,k2,k3⟩:=QX (c:=g.rc C w) (w:=w) (d:=true) (b:=b) (off:=off+lo.toNat*aA Z) (ys:=(ys.drop lo.toNat).take (hi.toNat-lo.toNat)) (f:=λr j=>f (lo.toNat+r) j)
      (λr y j tv U M=>by
        have:=hc _ y j tv (ap r y U) (by rwa[oS Q true d] at M)
        rw[jY] at this
        rw[show off+lo.toNat*aA Z+r*aA Z+j=off+(lo.toNat*aA Z+r*aA Z)+j by omega]
        exact this)
      (λr y j tv U M=>(pZ _ y j tv (ap r y U) (by rwa[oS Q true d] at M)).any (fg M) (vd (x:=y) (j:=j) (by rwa[oS Q true false] at M)) _);refine⟨true,_,s,g.γ,D,A,h,?_,k3,.refl _,.refl _⟩;have eg:=PC (P:=P) (w:=w) (sz:=aA Z) (cap:=J) lj k3.len k1 k2;rw[EL] at eg;show Src P _ tx _ ((ys.drop lo.toNat).take (hi.toNat-lo.toNat)).length D w;rw[pg,EL];exact eg
   ·rename_i Z ys;obtain⟨ht,cB⟩:=bQ.1 A;have ht:=ef ht;clear A;subst ht;obtain⟨zs,ad,A⟩:=dw.1 cB;obtain⟨⟨_,_,h9⟩,rfl⟩:=wW.1 ad;obtain⟨e,A⟩:=pB A;subst e;rcases F with F|F
    ·simp at F
    exact bJ pg.symm h ⟨none,Rd.Lb F h2 h3 h9 h5 h6⟩ (.inl Q.symm) (.refl _) (.refl _) A
   ·simp at A
  |false=>
   rw[Q,aH] at A;have hF:tw (g.rc C w) (.aw 1,[]) (aU C s y) (a.eval y):=by rw[S];exact(H.anyM rfl _).M7
   obtain⟨bP,I,γ',k1,k2,k3,k4,k5,k6⟩:=R7 h hF A;have jk:FK (bZ s y) g.γ γ':=k5.mono (λq⟨p',hp,hq⟩=>by rw[<-hq];exact y5 (λi=>(h.l9 i).1) hp);split at k1
   ·obtain⟨e,k1⟩:=pB k1;subst e;exact bJ rfl k2 ⟨_,k3⟩ (.inr rfl) jk k6 k1
   ·simp at k1
 ·simp at A
end
end
section
theorem alQ{t:Ty}(n:Nat)(f:Nat->Nat->Value):∃e:List Value,e.length=n*aA t/\(∀r j,r<n->j<aA t->e[r*aA t+j]?=some (f r j))/\∀k u,e[k]?=some u->∃r j,r<n/\j<aA t/\k=r*aA t+j/\u=f r j:=by
 have A:=QM t;refine⟨(List.range (n*aA t)).map λk=>f (k/aA t) (k % aA t),by simp,λr j F D=>?_,λk u y=>?_⟩
 ·have x:r*aA t+j<n*aA t:=by
    have:(r+1)*aA t<=n*aA t:=od _ F
    rw[jY,sA] at this
    omega
  rw[ir,Fm x];have H:(r*aA t+j)/aA t=r:=by rw[Ap,ayC _ _ A,aax D,iu]
  have I:(r*aA t+j) % aA t=j:=by rw[Ap,akx];exact Fo D
  simp[H,I]
 ·rw[ir] at y;have x:k<n*aA t:=by
   rcases CK k (n*aA t) with h|h
   ·exact h
   ·rw[pz (by simpa using h)] at y;simp at y
  rw[Fm x] at y;simp only[jA,aQ] at y;exact⟨k/aA t,k % aA t,aay (by rw[Ar];exact x),Uw _ A,by rw[Ar];exact(aaz k (aA t)).symm,y.symm⟩
section
variable{P:Program}{C:Cx}{E:Env}{nt n:Nat}{o:Oper}{s s1:TS}{g g1:Gs}{a:Act}{w w1:World}{R:Type}{r:R}{γ1:Nat->G}{tv:TV}{v:Value}
theorem WK{t:Ty}{A:List (El t)}{D:Bool}{b y cap:Nat}{f:Nat->Nat->Value}{M:Nat->Nat->Option Gp}{c:Rc}(J:∀(r:Nat)x(j:Nat)tv,A[r]?=some x->(enc D t x)[j]?=some tv->cellAt w b (y+r*aA t+j)=some (f r j)/\(f r j).oneCell'=true)
  (Q:∀(r:Nat)x(j:Nat)tv,A[r]?=some x->(enc D t x)[j]?=some tv->Rd c (M r (cj t j)) tv (f r j)):∃e:List Value,e.length=A.length*aA t/\(Builtin.firstCells (aA t) A.length (.slice (some ⟨b,y,none⟩) A.length cap)).run P w.drew=.ok e.toArray w.drew/\
    ∀(r:Nat)x(j:Nat)tv,A[r]?=some x->(enc D t x)[j]?=some tv->∃u,e[r*aA t+j]?=some u/\u.oneCell'=true/\Rd c (M r (cj t j)) tv u:=by
 obtain⟨e,N,S,U⟩:=alQ (t:=t) A.length f;have Y:∀j,(⟨b,y,none⟩:Addr).add j=⟨b,y+j,none⟩:=λj=>by unfold Addr.add;split<;>simp_all
 refine⟨e,N,run_firstCells_some w.drew (aA t) A.length ⟨b,y,none⟩ A.length cap e N (λk u Z=>?_),λr x j tv hx F=>?_⟩
 ·obtain⟨r,j,H,I,rfl,rfl⟩:=U k u Z;rw[Y];have:=(J r A[r] j _ (cT H) (cT (by rw[ic];exact I))).1;rw[<-ra];exact this
 ·have H:=(da.1 hx).1;have I:j<aA t:=by have:=(da.1 F).1;rwa[ic] at this
  exact⟨f r j,S r j H I,(J r x j tv hx F).2,Q r x j tv hx F⟩
theorem mW.fk{Z:Rt->Prop}{d:Bool}{t:Ty}{x:List (El t)}{news:List Value}{e:Nat->G}(h:mW (g.rc C w) d t x news)(F:FK Z g.γ e)(hz:¬ Z (.aw 1)):mW (Gs.rc C {g with γ:=e} w) d t x news:=
 ⟨h.len,λr y j tv H A=>by
   obtain⟨u,I,J,M⟩:=h.rd r y j tv H A
   exact⟨u,I,J,M.B9 (by simp[eE,fg A]) F (λq p D=>by simp only[aQ,cZ] at D;rw[<-D.1];exact hz)⟩⟩
theorem aes(h:Rel C E s {g with γ:=γ1} w){d D:Bool}{t:Ty}{I:List (El t)}{e:List Value}(x:mW (Gs.rc C {g with γ:=γ1} w) d t I e)(Q:D=true->flat t=true\/d=true)(hF:flat t=true->D=true):
  ∃γ2,Rel C E s {g with γ:=γ2} w/\mW (Gs.rc C {g with γ:=γ2} w) D t I e/\FK (λq=>q=.aw 1) γ1 γ2:=by
 cases D with
 |true=>
  refine⟨γ1,h,⟨x.len,λr y j tv A F=>x.rd r y j tv A ?_⟩,.refl _⟩;rcases Q rfl with S|U
  ·rwa[oS S true d] at F
  ·rwa[U]
 |false=>
  have J:=FK.ku (γ:=γ1) (q1:=.aw 1) (p1:=[]) Dw;refine⟨_,h.sR (g:={g with γ:=γ1}) (J.mono (λq Y=>⟨1,Y⟩)),⟨x.len,λr y j tv A F=>?_⟩,J⟩;obtain⟨Z,M,rfl⟩:=JK (d:=d) F;obtain⟨u,h1,h2,h3⟩:=x.rd r y j Z A M;refine⟨u,h1,h2,(Rd.ku (c':=Gs.rc C {g with γ:=mC γ1 (.aw 1) []} w) h3 (fg M) (λb H=>⟨Ht H,rfl⟩) (λq p N b π H=>?_)).lift _⟩;simp only[aQ,cZ] at N;obtain⟨rfl,rfl⟩:=N;exact⟨QR (p1:=[]) (π:=[((r:Int),cj t j)]++π) (by have dS:γ1 b=_:=H;simpa using dS),rfl⟩
theorem apB(h:Rel C E s {g with γ:=γ1} w){d D:Bool}{t:Ty}{x:List (El t)}{y:Value}(hx:Rd (Gs.rc C {g with γ:=γ1} w) (some (.aw 0,[])) (.own d t x) y)(F:D=true->flat t=true\/d=true)(H:flat t=true->D=true):
  ∃γ2,Rel C E s {g with γ:=γ2} w/\Rd (Gs.rc C {g with γ:=γ2} w) (some (.aw 0,[])) (.own D t x) y/\FK (λq=>q=.aw 0) γ1 γ2:=by
 cases D with
 |true=>
  refine⟨γ1,h,?_,.refl _⟩;rcases F rfl with u|I
  ·exact hx.G6 u
  ·rwa[I] at hx
 |false=>
  have A:=FK.kJ (γ:=γ1) (q1:=.aw 0) (p1:=[]) Dw;have J:flat t=false:=by cases u:flat t with|false=>rfl|true=>exact absurd (H u) (by simp)
  refine⟨_,h.sR (g:={g with γ:=γ1}) (A.mono (λq M=>⟨0,M⟩)),?_,A⟩;have:=Rd.yW (c':=Gs.rc C {g with γ:=kJ γ1 (.aw 0) []} w) hx (λb e=>⟨Hu e,rfl⟩) (λb t e=>⟨Py e,rfl⟩) (λb i j Q N e=>⟨Hv (p1:=[]) N e,rfl⟩);rwa[J] at this
structure St(P:Program)(tt tx:TypeId)(t:Ty)(et:TypeId)(i:TypeInfo)(z:Value):Prop where
 ut:P.underlying tt=some (.slice et)
 hi:P.info? et=some i
 hz:i.zero=some z
 sz:i.size=aA t
 zs:z.cells.size=aA t
 kd:(∃e',P.underlying tx=some (.slice e'))\/P.underlying tx=some .string
theorem Ld(h:Rel C E s {g with γ:=γ1} w){D:Bool}{t:Ty}{xs y:List (El t)}{u:List Value}{S ty H Q:TypeId}{i:TypeInfo}{z:Value}{U I:Value}(T:St P Q H t S i z)(hx:Rd (Gs.rc C {g with γ:=γ1} w) (some (.aw 0,[])) (.own D t xs) U)
  (src:Src P (aA t) H I y.length u w)(J:mW (Gs.rc C {g with γ:=γ1} w) D t y u)(Y:2*(xs.length+y.length)*i.bytes<=2^48)(Z:xs.length+y.length<=2^62):
  ∃v w' A,(Builtin.append_ #[Q,H] ty #[U,I]).run P w=.ok v w'/\Rel C E s {g with γ:=A} w'/\Rd (Gs.rc C {g with γ:=A} w') (some (.aw 0,[])) (.own D t (xs++y)) v/\bw (λq _=>∃n,q=.aw n) γ1 w A w':=by
 have N:Src P i.size H I y.length u w:=by rw[T.sz];exact src
 rcases hx.mR with⟨rfl,va,rfl⟩|⟨q,π,b,aa,cap,cs,e,fr,f,hm,rfl,hl,eO,hh,hu,hs,hc,hr⟩
 ·by_cases hn:y.length=0
  ·have zM:y=[]:=Us hn;subst zM;have Ec:u=[]:=Us (by rw[J.len];simp);subst Ec;exact⟨_,w,γ1,run_append_nothing w Q H ty S i T.ut T.hi va 0 0 (iI _) I N,h,.j6 _ _ _ _,.refl _ h.aC.new⟩
  ·refine KJ (olds:=[]) (xs:=[]) h T.ut T.hi T.hz T.sz T.zs (by simp) ?_ N (λr x j tv hx=>by simp at hx) J (by simp;omega) Y Z;cases va with
   |none=>exact run_firstCells_none w.drew i.size 0 0 0
   |some ad=>exact run_firstCells_some w.drew i.size 0 ad 0 0 [] (by simp) (by simp)
 ·simp only[aQ,cZ] at hm;obtain⟨rfl,rfl⟩:=hm
  by_cases F:xs.length+y.length<=cap
  ·exact anN h T.ut T.hi T.sz N hl eO hh hu hs hc hr J F
  ·obtain⟨olds,h1,h2,h3⟩:=WK (P:=P) (D:=D) (cap:=cap) (M:=λr j=>some (.aw 0,[((r:Int),j)])) hc hr;exact KJ h T.ut T.hi T.hz T.sz T.zs h1 (by rw[T.sz];exact h2) N h3 J (by omega) Y Z
end
end
section
theorem afD:∀{p p':Pl},gp p=gp p'->p=p'
 |.slot k,.slot e,h=>by simp[gp] at h;rw[h]
 |.cell k c,.cell e u,h=>by simp[gp] at h;rw[h.1,h.2]
 |.slot _,.cell _ _,h=>by simp[gp] at h
 |.cell _ _,.slot _,h=>by simp[gp] at h
 |.slot _,.sub _ _ _ _,h=>by simp[gp] at h
 |.sub _ _ _ _,.slot _,h=>by simp[gp] at h
 |.cell k c,.sub p t r j,h=>by
  cases p<;>simp[gp] at h;have:=congrArg List.length h.2;simp at this
 |.sub p t r j,.cell k c,h=>by
  cases p<;>simp[gp] at h;have:=congrArg List.length h.2;simp at this
 |.sub p t r c,.sub p' E F u,h=>by
  simp only[gp,cZ] at h;obtain⟨x,y⟩:=h;have A:=List.append_inj' y rfl;obtain⟨D,a⟩:=A;simp only[nh,cZ,jI] at a;obtain⟨rfl,h6⟩:=a;obtain⟨rfl,rfl⟩:=Rz h6;rw[afD (p:=p) (p':=p') (Jd x D)]
theorem aq6{t t':Ty}(h:tg t=tg t'):t=t':=acT (by simpa[tg] using h)
theorem X8{p a:Pl}{t t':Ty}(j:(gp p).1=(gp a).1)(u:(gp p).2++[tg t]=(gp a).2++[tg t']):p=a/\t=t':=by
 obtain⟨x,e⟩:=List.append_inj' u rfl;simp only[nh,jI] at e;exact⟨afD (Jd j x),aq6 e⟩
section
variable{C:Cx}{g:Gs}{w:World}
theorem Xv{p:Pl}{t:Ty}{b a len cap k0:Nat}{vals:List Value}{R:Array Value}{e:TypeId}{fr:Nat×Nat}(x:g.γ b=.at (gp p).1 ((gp p).2++[tg t]))(D:(g.rc C w).va p=some (.slice (some ⟨b,a,none⟩) len cap))(E:w.heap[b]?=some (.cells R e fr))(S:a+len*aA t<=k0):
  ∀(y:Pl),VO (g.rc C w) y->(g.rc C (w.setCells b k0 vals)).va y=(g.rc C w).va y/\VO (g.rc C (w.setCells b k0 vals)) y
 |.slot k,_=>⟨rfl,trivial⟩
 |.cell k c,u=>by
  simp only[VO,Gs.rc] at u;have U:g.bx k≠b:=λe=>by rw[e,x] at u;simp at u
  exact⟨mN ((kR b vals k0 w).other _ U),u⟩
 |.sub Y t1 r c,u=>by
  obtain⟨Z,F⟩:=u;obtain⟨H,h2⟩:=Xv x D E S Y Z;refine⟨?_,h2,λb1 I J M N=>F b1 I J M (H ▸N)⟩;simp only[Gs.rc] at H D F⊢;simp only[va,H];split
  ·rename_i b1 I J M A;split
   ·rename_i ZH
    by_cases Q:b1=b
    ·subst Q;rcases F b1 I J M A with j|j
     ·rw[x] at j;simp at j
     ·rw[x] at j;simp only[G.at.injEq] at j;obtain⟨rfl,rfl⟩:=X8 j.1 j.2;rw[D] at A;simp only[aQ,Value.slice.injEq,Addr.mk.injEq,jI,Am] at A;obtain⟨rfl,rfl,rfl⟩:=A;obtain⟨gy,k1,k2,k3,k4⟩:=(kR b1 vals k0 w).this _ _ _ E;have P:(r.toNat+1)*aA t<=len*aA t:=od _ (by omega);rw[jY,sA] at P;simp only[cellAt,World.cell?,k1,E];simp[k4 (a+r.toNat*aA t+c) (by omega)]
    ·exact mN ((kR b vals k0 w).other _ Q)
   ·rfl
  ·rfl
theorem anO{p:Pl}{t:Ty}{b j len cap k0:Nat}{vals:List Value}{J:Array Value}{e:TypeId}{fr:Nat×Nat}(M:g.γ b=.at (gp p).1 ((gp p).2++[tg t]))(N:(g.rc C w).va p=some (.slice (some ⟨b,j,none⟩) len cap))(E:w.heap[b]?=some (.cells J e fr))(Q:j+len*aA t<=k0)
  {p':Pl}{t0:Ty}{u o' cap' len':Nat}{x:Array Value}{F:TypeId}{H:Nat×Nat}(a:g.γ u=.at (gp p').1 ((gp p').2++[tg t0]))(A:(g.rc C w).va p'=some (.slice (some ⟨u,o',none⟩) len' cap'))(y:w.heap[u]?=some (.cells x F H)):
  ∃D,(w.setCells b k0 vals).heap[u]?=some (.cells D F H)/\D.size=x.size/\∀k,k<o'+len'*aA t0->D[k]?=x[k]?:=by
 obtain⟨P,k1,k2,k3,k4⟩:=(kR b vals k0 w).this _ _ _ E
 by_cases I:u=b
 ·subst I;rw[M] at a;simp only[G.at.injEq] at a;obtain⟨rfl,rfl⟩:=X8 a.1 a.2;rw[N] at A;simp only[aQ,Value.slice.injEq,Addr.mk.injEq,jI,Am] at A;obtain⟨rfl,rfl,rfl⟩:=A;rw[E] at y;simp only[aQ,Obj.cells.injEq] at y;obtain⟨rfl,rfl,rfl⟩:=y;exact⟨P,k1,k2,λk R=>k4 k (by omega)⟩
 ·exact⟨x,((kR b vals k0 w).other _ I).trans y,rfl,λ_ _=>rfl⟩
theorem Rd.Su{p:Pl}{t:Ty}{b aa len cap k0:Nat}{vals:List Value}{cs:Array Value}{e:TypeId}{fr:Nat×Nat}(hn:∀b,w.heap.size<=b->g.γ b=.fr)(hb:g.γ b=.at (gp p).1 ((gp p).2++[tg t]))(bL:(g.rc C w).va p=some (.slice (some ⟨b,aa,none⟩) len cap))(hh:w.heap[b]?=some (.cells cs e fr))(hk:aa+len*aA t<=k0)
  {m:Option Gp}{a:TV}{v:Value}(h:Rd (g.rc C w) m a v):∀(D:Pl),m=some (gp D)->j1 a=true->(g.rc C w).va D=some v->VO (g.rc C w) D->Rd (g.rc C (w.setCells b k0 vals)) m a v:=by
 have a7:=A6 (kR b vals k0 w) hn hb;obtain⟨gy,k1,k2,k3,k4⟩:=(kR b vals k0 w).this _ _ _ hh;have fz:∀{m:Option Gp}{a:TV}{v:Value},Rd (g.rc C w) m a v->bC a=true->iB a=false->Rd (g.rc C (w.setCells b k0 vals)) m a v:=λ{m a v}h hp ho=>
  ((h.any hp ho none).same (c':=g.rc C (w.setCells b k0 vals)) (λb hb=>a7.im b hb) (λq p he=>by simp at he) (λi hi=>absurd hi (lQ hp i)) (λp Z=>absurd Z (fH hp p)) (λp Z=>absurd Z.mv (fH hp p))).lift m
 have blk:∀{D:Pl}{t0:Ty}{y o' A I:Nat}{R:Array Value}{J:TypeId}{M:Nat×Nat},g.γ y=.at (gp D).1 ((gp D).2++[tg t0])->(g.rc C w).va D=some (.slice (some ⟨y,o',none⟩) I A)->w.heap[y]?=some (.cells R J M)->
   ∃S,(w.setCells b k0 vals).heap[y]?=some (.cells S J M)/\S.size=R.size/\∀k,k<o'+I*aA t0->S[k]?=R[k]?:=by
  intro D t0 y o' A I R J M u N Q
  by_cases Ce:y=b
  ·subst Ce;rw[hb] at u;simp only[G.at.injEq] at u;obtain⟨rfl,rfl⟩:=X8 u.1 u.2;rw[bL] at N;simp only[aQ,Value.slice.injEq,Addr.mk.injEq,jI,Am] at N;obtain⟨rfl,rfl,rfl⟩:=N;rw[hh] at Q;simp only[aQ,Obj.cells.injEq] at Q;obtain⟨rfl,rfl,rfl⟩:=Q;exact⟨gy,k1,k2,λk eY=>k4 k (by omega)⟩
  ·exact⟨R,((kR b vals k0 w).other _ Ce).trans Q,rfl,λ_ _=>rfl⟩
 induction h with
 |kY q π d t0 F y o' A R J M f hl u Q hu hs hc hr ih=>
  intro D hm hT N YO;have ER:=gB hm;have Z:q=(gp D).1:=by rw[<-ER]
  have ZI:π=(gp D).2:=by rw[<-ER]
  clear hm ER;subst Z;subst ZI;obtain⟨S,m1,m2,m3⟩:=blk u N Q;have P:∀(r:Nat)x(j:Nat)a,F[r]?=some x->(enc d t0 x)[j]?=some a->r<F.length/\j<aA t0:=λr x j a hx E=>⟨(da.1 hx).1,by have:=(da.1 E).1;rwa[ic] at this⟩;refine .kY _ _ _ _ _ _ _ _ S J M f hl u m1 (by rw[m2];exact hu) (by rw[m2];exact hs) (λr x j a hx E=>?_) (λr x j a hx E=>?_)
  ·obtain⟨U,Y⟩:=P r x j a hx E;obtain⟨h3,h4⟩:=hc r x j a hx E;have h5:(r+1)*aA t0<=F.length*aA t0:=od _ U;rw[jY,sA] at h5;refine⟨?_,h4⟩;have rY:w.heap[y]?=some (.cells R J M):=Q;have wh:cellAt w y (o'+r*aA t0+j)=some (f r j):=h3;have ZJ:(w.setCells b k0 vals).heap[y]?=some (.cells S J M):=m1;show cellAt (w.setCells b k0 vals) y _=_;simp only[cellAt,World.cell?,rY,ZJ] at wh⊢;simpa[m3 _ (show o'+r*aA t0+j<o'+F.length*aA t0 by omega)] using wh
  ·obtain⟨U,Y⟩:=P r x j a hx E;refine ih r x j a hx E (.sub D t0 (r:Int) j) rfl (uU (fg E)) ?_ ⟨YO,λb2 o2 ab Ia H=>?_⟩
   ·have pn:va C.vs g.tm g.bx w D=some (.slice (some ⟨y,o',none⟩) F.length A):=N;simp only[Gs.rc,va,pn];rw[aD ⟨by omega,by omega,Y⟩];have h9:cellAt w y (o'+r*aA t0+j)=some (f r j):=(hc r x j a hx E).1;simpa using h9
   ·rw[N] at H;simp only[aQ,Value.slice.injEq,Addr.mk.injEq,jI] at H;obtain⟨⟨rfl,_⟩,_⟩:=H;exact .inr u
 |gJ q π t0 F r0 c0 y o' A R J M f hl u Q hu hs hc hr ih=>
  intro D hm hT N YO;have ER:=gB hm;have Z:q=(gp D).1:=by rw[<-ER]
  have ZI:π=(gp D).2:=by rw[<-ER]
  clear hm ER;subst Z;subst ZI;obtain⟨S,m1,m2,m3⟩:=blk u N Q;have P:∀(r:Nat)x(j:Nat)a,F[r]?=some x->(enc true t0 x)[j]?=some a->r<F.length/\j<aA t0:=λr x j a hx E=>⟨(da.1 hx).1,by have:=(da.1 E).1;rwa[ic] at this⟩;refine .gJ _ _ _ _ _ _ _ _ _ S J M f hl u m1 (by rw[m2];exact hu) (by rw[m2];exact hs) (λr x j a hx E=>?_) (λr x j a hx E bS=>?_)
  ·obtain⟨U,Y⟩:=P r x j a hx E;obtain⟨h3,h4⟩:=hc r x j a hx E;have h5:(r+1)*aA t0<=F.length*aA t0:=od _ U;rw[jY,sA] at h5;refine⟨?_,h4⟩;have rY:w.heap[y]?=some (.cells R J M):=Q;have wh:cellAt w y (o'+r*aA t0+j)=some (f r j):=h3;have ZJ:(w.setCells b k0 vals).heap[y]?=some (.cells S J M):=m1;show cellAt (w.setCells b k0 vals) y _=_;simp only[cellAt,World.cell?,rY,ZJ] at wh⊢;simpa[m3 _ (show o'+r*aA t0+j<o'+F.length*aA t0 by omega)] using wh
  ·obtain⟨U,Y⟩:=P r x j a hx E;refine ih r x j a hx E bS (.sub D t0 (r:Int) j) rfl (uU (fg E)) ?_ ⟨YO,λb2 o2 ab Ia H=>?_⟩
   ·have pn:va C.vs g.tm g.bx w D=some (.slice (some ⟨y,o',none⟩) F.length A):=N;simp only[Gs.rc,va,pn];rw[aD ⟨by omega,by omega,Y⟩];have h9:cellAt w y (o'+r*aA t0+j)=some (f r j):=(hc r x j a hx E).1;simpa using h9
   ·rw[N] at H;simp only[aQ,Value.slice.injEq,Addr.mk.injEq,jI] at H;obtain⟨⟨rfl,_⟩,_⟩:=H;exact .inr u
 |un=>intros;exact .un _ _
 |j6=>intros;exact .j6 _ _ _ _
 |b=>intros;exact .b _ _
 |i=>intros;exact .i _ _ _
 |s=>intros;exact .s _ _
 |nil=>intros;exact .nil _
 |gU=>intros;exact .gU _ _
 |lE=>intros;exact .lE _ _ _ _
 |pP m t F b o cap f U Y h3 h4=>intros;exact fz (.pP m t F b o cap f U Y h3 h4) rfl rfl
 |sZ=>intros;exact .sZ _ _ _
 |s7 m t F b o f U Y h3=>intros;exact fz (.s7 m t F b o f U Y h3) rfl rfl
 |_=>intro D hm hT;simp[j1,eE,bC] at hT
theorem Rel.Su{E:Env}{s:TS}(h:Rel C E s g w){p:Pl}{t:Ty}{b I len cap k0:Nat}{vals:List Value}{cs:Array Value}{e:TypeId}{fr:Nat×Nat}(j7:p.jP=true)(a:g.γ b=.at (gp p).1 ((gp p).2++[tg t]))(F:(g.rc C w).va p=some (.slice (some ⟨b,I,none⟩) len cap))(M:w.heap[b]?=some (.cells cs e fr))(N:I+len*aA t<=k0)
  (IG:∀j q,MP q (s.slot j)->(gp q).1≠(gp p).1):Rel C E s g (w.setCells b k0 vals):=by
 have Y:=A6 (kR b vals k0 w) h.aC.new a;have P:=Xv (C:=C) (vals:=vals) a F M N;have Z:∀k,g.γ (g.bx k)=.at (.box k) []->(w.setCells b k0 vals).heap[g.bx k]?=w.heap[g.bx k]?:=λk eY=>(kR b vals k0 w).other _ (λe=>by rw[e,a] at eY;simp at eY);refine h.pf (g':=g) Y (λk=>?_) (λk=>?_)
 ·by_cases J:(gp p).1=.slot k
  ·left
   have qO:=R9 F (A3.2 J);obtain⟨a0,l0,c0,en⟩:=VR F (A3.2 J) j7;have h0:=h.eK k;have aa:j1 (s.slot k)=true\/fJ (s.slot k)=true:=by
    rw[en] at h0
    cases hs:s.slot k<;>first|exact .inr rfl|exact .inl rfl|(rw[hs] at h0;cases h0)
   rcases aa with hc|ha
   ·exact h0.Su h.aC.new a F M N (.slot k) rfl hc (by simp only[Gs.rc,va];rw[aD qO]) trivial
   ·refine((h0.anyM ha none).same (c':=g.rc C (w.setCells b k0 vals)) (λb a=>Y.im b a) (λq p he=>by simp at he) (λ_ _=>rfl) (λq y=>⟨(P q (h0.xv y)).1,λcI=>(P q cI).2⟩) (λq y b' π dS=>Y.at' b' _ _ dS (λhx=>IG k q y hx.1))).anyM ha _
  ·exact .inr ⟨rfl,rfl,λπ hx=>J hx.1.symm,λ_ _=>rfl,λq y=>⟨(P q ((h.eK k).xv y)).1,λcI=>(P q cI).2⟩,λq y π hx=>IG k q y hx.1⟩
 ·by_cases J:(gp p).1=.box k
  ·left
   have h0:=h.boxes k;cases ZK:s.box k with
   |none=>trivial
   |cells qQ=>
    rw[ZK] at h0;obtain⟨vs,Q,R,A,H,u,D,S,h6⟩:=h0;refine⟨vs,Q,R,(Z k u).trans A,H,u,D,S,λj tv v U hv=>⟨(h6 j tv v U hv).1,(h6 j tv v U hv).2.Su h.aC.new a F M N (.cell k j) rfl (S tv (dH U)) ?_ u⟩⟩;have ph:w.heap[g.bx k]?=some (.cells vs Q R):=A;simp[Gs.rc,va,cellAt,World.cell?,ph,hv]
   |vec t0 xs=>
    rw[ZK] at h0;obtain⟨vs,Q,R,A,H,u,D,S⟩:=h0;exact⟨vs,Q,R,(Z k u).trans A,H,u,D,S⟩
   |iG x=>
    rw[ZK] at h0;obtain⟨p0,v0,A,H,u,D⟩:=h0;refine⟨p0,v0,(Z k H).trans A,H,u,λhl=>?_⟩;rcases D hl with D|⟨g',cap',ab,rfl,e2,e3,e4,e5,e6,e7,e8⟩
    ·exact .inl D
    ·have ph:w.heap[g.bx k]?=some (.cells #[p0,.slice (some ⟨g',0,none⟩) x.length cap'] LY (0,0)):=A;obtain⟨kP,f1,f2,f3⟩:=anO (vals:=vals) a F M N (p':=.cell k 1) (t0:=.int .u8) (o':=0) (len':=x.length) (cap':=cap') e2 (by simp[Gs.rc,va,cellAt,World.cell?,ph]) e3;refine .inr ⟨g',cap',kP,rfl,e2,f1,e4,e5,e6,f2.trans e7,?_⟩;rw[<-e8];apply akE;intro j;rw[q8,q8];split
     ·rename_i U;have:=f3 j (by simp[aA];omega);simpa using this
     ·rfl
  ·exact .inr ⟨rfl,rfl,λπ hx=>J hx.1.symm⟩
end
end
section
theorem PD{u:Type}{e:Nat}{a b c:List u}(h:aN e a b=some c):c=a++b/\2*(a.length+b.length)*e<=2^48/\a.length+b.length<=2^62:=by
 unfold aN at h;split at h
 ·rename_i j;simp only[aQ] at h;exact⟨h.symm,j.1,j.2⟩
 ·simp at h
theorem abx:∀{p q:Pl},p.jK q=true↔(gp q).1=(gp p).1
 |.slot k,q=>by simpa[Pl.jK,gp] using Bd (p:=q) (k:=k)
 |.cell k c,q=>by simpa[Pl.jK,gp] using yR (p:=q) (k:=k)
 |.sub p _ _ _,q=>by simpa[Pl.jK,gp] using abx (p:=p) (q:=q)
section
variable{P:Program}{C:Cx}{E:Env}{nt n:Nat}{o:Oper}{s s1:TS}{g g1:Gs}{a:Act}{w w1:World}{R:Type}{r:R}{γ1:Nat->G}{tv:TV}{v:Value}{K:TS->Option R}{X:Rt->aZ->Prop}{nb:Nat->Prop}
theorem apC(hC:eW P C){t j:Nat}{e:Ty}{sz cF:Nat}(y:C.aR t=.sl e sz cF)(A:(∃D,P.underlying j=some (.slice D))\/P.underlying j=some .string):∃u i z,St P t j e u i z/\i.bytes=cF:=by
 obtain⟨u,F,H,_,I⟩:=zg (hC.ty t) y;obtain⟨J,Q,hz,x,_⟩:=uW H;obtain⟨i,z,hi,M,N⟩:=PB hz;refine⟨u,i,z,⟨F,hi,M,by rw[<-J];simp[Program.cellsOf,hi],?_,A⟩,by rw[<-I];simp[Program.bytesOf,hi]⟩;rw[N] at x;have:=(HL (c:=⟨default,λ_=>.fr,λ_=>0,λ_=>none⟩) (m:=λ_=>none) x).1;rw[ic] at this;simpa using this
theorem QY(l:cD nt g a)(I:gN nt o.dst){x y:Operand}{t F:Nat}(J:o.op=.call ⟨.builtin .append,#[x,y],#[t,F]⟩){H:TS}{γ2:Nat->G}{D:Bool}{e:Ty}{zs:List (El e)}{Z:Rt->Prop}(M:FK Z g.γ γ2)(N:∀b,w.heap.size<=b->g.γ b=.fr)
  (h:∃v u j,(Builtin.append_ #[t,F] o.type #[a.eval x,a.eval y]).run P w=.ok v u/\Rel C E H {g with γ:=j} u/\Rd (Gs.rc C {g with γ:=j} u) (some (.aw 0,[])) (.own D e zs) v/\bw (λq _=>∃n,q=.aw n) γ2 w j u)(Q:K (cz C H o.dst (.own D e zs))=some r):lV P C E nt o g a w K r Z X nb:=by
 obtain⟨v,u,j,S,U,Y,h4⟩:=h;refine G7 (n:=0) U rfl (λ_ _=>rfl) (((M.fK N).trans h4).mono (λq p hx=>.inl ?_)) l I Y (by simp[execOp,J,resolve,invoke,builtin,S]) Q;rcases hx with⟨hx,A⟩|⟨n,hx⟩
 ·exact⟨.inl hx,A⟩
 ·exact⟨.inr ⟨n,hx⟩,λA=>by rw[hx] at A;simp[lU] at A⟩
theorem amA(hC:eW P C)(h:Rel C E s g w)(l:cD nt g a)(hd:gN nt o.dst){x y:Operand}{t tx:Nat}(ho:o.op=.call ⟨.builtin .append,#[x,y],#[t,tx]⟩)(hx:dW nt x=true)(hy:dW nt y=true)(lj:(∃e',P.underlying tx=some (.slice e'))\/P.underlying tx=some .string)
  (A:Ev.step C o s K=some r):lV P C E nt o g a w K r (λq=>bZ s x q\/bZ s y q\/∃n,q=.aw n) X nb:=by
 simp only[Ev.step,ho] at A;split at A
 ·rename_i e sz cF bY;obtain⟨et,i,z,T,qL⟩:=apC hC bY lj;have Y:=iS h l hx;unfold B2 at A;obtain⟨d,ys,s1,γ1,news,A,h1,src,lJ,a3,ZF⟩:=apA h l hC.gl hy lj A;have L2:FK (λq=>bZ s x q\/bZ s y q\/∃n,q=.aw n) g.γ γ1:=a3.mono (λq J=>.inr (.inl J));split at A
  ·rename_i p t0 jj;rw[jj] at Y;have bL:(g.rc C w).va p=some (a.eval x):=by generalize iX x=m at Y;cases Y;assumption
   have Mu:(Gs.rc C {g with γ:=γ1} w).va p=some (a.eval x):=bL;obtain⟨tv,qP,A⟩:=ry A;have hl:=sJ h1 Mu qP;split at A
   ·rename_i d' t' xs;obtain⟨ZL,A⟩:=pB A;subst ZL;obtain⟨zs,Q,A⟩:=dw.1 A;obtain⟨rfl,Z,p8⟩:=PD Q;rcases hl with hl|hl
    ·simp at hl
    cases j7:p.jP with
    |true=>
     rw[j7,aF] at A;obtain⟨gz,A⟩:=bQ.1 A;have h2:=h1.fE p.jK;have zv:VO (Gs.rc C {g with γ:=γ1} w) p:=by
      rcases xd h1 qP with h9|⟨_,_,_,h9⟩
      ·simp at h9
      ·exact h9
     have Bv:bZ s x (gp p).1:=y5 (λi=>(h.l9 i).1) (by rw[jj];exact .vw _);have IG:∀j q,MP q ((s1.fE p.jK).slot j)->(gp q).1≠(gp p).1:=λj q J he=>by
      rw[Dp] at J
      have:=Vl J
      rw[abx.2 he] at this
      simp at this
     have Sv:∀(x:El t')(j:Nat)(tv:TV),(enc true t' x)[j]?=some tv->iB tv=false/\bC tv=true:=λx j tv H=>⟨vd (x:=x) (j:=j) (by rwa[oS gz true false] at H),fg H⟩;have ab:∀{v w' I},(Builtin.append_ #[t,tx] o.type #[a.eval x,a.eval y]).run P w=.ok v w'->Rel C E (s1.fE p.jK) {g with γ:=I} w'->VO (Gs.rc C {g with γ:=I} w') p->(Gs.rc C {g with γ:=I} w').va p=some (a.eval x)->Rd (Gs.rc C {g with γ:=I} w') (some (gp p)) (.own true t' (ki rfl xs++ys)) v->bw (λq π=>(q=(gp p).1/\¬ lU q π)\/∃n,q=.aw n) γ1 w I w'->
       lV P C E nt o g a w K r (λq=>bZ s x q\/bZ s y q\/∃n,q=.aw n) X nb:=by
      intro v w' I U m2 m3 m4 m5 m6
      refine G7 (g1:={g with γ:=I}) (n:=0) m2 rfl (λ_ _=>rfl) (((L2.fK h.aC.new).trans m6).mono (λq π hx=>.inl ?_)) l hd (.pa _ _ _ _ _ _ j7 m3 m4 m5) (by simp[execOp,ho,resolve,invoke,builtin,U]) A
      rcases hx with⟨hx,dS⟩|(⟨hx,dS⟩|⟨n,hx⟩)
      ·exact⟨.inl hx,dS⟩
      ·exact⟨.inl (.inl (by rw[hx];exact Bv)),dS⟩
      ·exact⟨.inr ⟨n,hx⟩,λdS=>by rw[hx] at dS;simp[lU] at dS⟩
     have vE:Src P i.size tx (a.eval y) ys.length news w:=by rw[T.sz];exact src
     have YP:mW (Gs.rc C {g with γ:=γ1} w) true t' ys news:=⟨lJ.len,λr y j tv hy H=>lJ.rd r y j tv hy (by rwa[oS gz true d] at H)⟩;have am:ki rfl xs=xs:=rfl;rw[am] at Z p8;have grow:∀{base:Option Addr}{cap:Nat}{olds:List Value},a.eval x=.slice base xs.length cap->olds.length=xs.length*aA t'->(Builtin.firstCells i.size xs.length (.slice base xs.length cap)).run P w.drew=.ok olds.toArray w.drew->
       (∀(r:Nat)x(j:Nat)tv,xs[r]?=some x->(enc true t' x)[j]?=some tv->∃u,olds[r*aA t'+j]?=some u/\u.oneCell'=true/\Rd (Gs.rc C {g with γ:=γ1} w) (some (.aw 0,[((r:Int),cj t' j)])) tv u)->cap<xs.length+ys.length->lV P C E nt o g a w K r (λq=>bZ s x q\/bZ s y q\/∃n,q=.aw n) X nb:=by
      intro base cap olds N ho a4 gk hg
      obtain⟨v,w',I,U,m2,m3,m4⟩:=KJ (ty:=o.type) h2 T.ut T.hi T.hz T.sz T.zs ho a4 vE gk YP hg (by rw[qL];exact Z) p8
      have jk:=FK.bV (γ:=I) (q1:=.aw 0) (q2:=(gp p).1) (p1:=[]) (p2:=(gp p).2) Dw
      have m5:Rel C E (s1.fE p.jK) {g with γ:=bV I (.aw 0) [] (gp p).1 (gp p).2} w':=m2.sR (g:={g with γ:=I}) (jk.mono (λq J=>⟨0,J⟩))
      have m6:=m3.HU (g:={g with γ:=I}) (q2:=(gp p).1) (p2:=(gp p).2) rfl
      have BR:bw (λq _=>∃n,q=Rt.aw n) γ1 w (bV I (.aw 0) [] (gp p).1 (gp p).2) w':=(m4.trans (jk.fK m2.aC.new)).mono (λq π hx=>by
       rcases hx with hx|⟨hx,_⟩
       ·exact hx
       ·exact⟨0,hx⟩)
      have ao:=Lu (C:=C) (g:={g with γ:=γ1}) BR (λq π hx=>hx) p zv
      exact ab (by rw[N];exact U) m5 ao.2 (ao.1.trans Mu) m6 (BR.mono (λq π hx=>.inr hx))
     rcases hl.mR with⟨rfl,ZM,N⟩|⟨q,π,b,F,cap,cs,e',fr,f,hm,N,Zo,eO,hh,lH,eB,hc,hr⟩
     ·by_cases Nn:ys.length=0
      ·have zM:ys=[]:=Us Nn;subst zM;have Ec:news=[]:=Us (by rw[lJ.len];simp);subst Ec;refine ab (v:=.slice ZM 0 0) (by rw[N];exact run_append_nothing w t tx o.type et i T.ut T.hi ZM 0 0 (iI _) (a.eval y) vE) h2 zv Mu (.j6 _ _ _ _) (.refl _ h1.aC.new)
      ·refine grow (olds:=[]) N (by simp) ?_ (λr x j tv hx=>by simp at hx) (by simp;omega);cases ZM with
       |none=>exact run_firstCells_none w.drew i.size 0 0 0
       |some ad=>exact run_firstCells_some w.drew i.size 0 ad 0 0 [] (by simp) (by simp)
     ·have xV:∀(r:Nat)x(j:Nat)tv,xs[r]?=some x->(enc true t' x)[j]?=some tv->cellAt w b (F+r*aA t'+j)=some (f r j)/\(f r j).oneCell'=true:=λr x j tv hx H=>hc r x j tv hx (by rwa[oS gz true d'] at H);have ap:∀(r:Nat)x(j:Nat)tv,xs[r]?=some x->(enc true t' x)[j]?=some tv->Rd (Gs.rc C {g with γ:=γ1} w) none tv (f r j):=λr x j tv hx H=>(hr r x j tv hx (by rwa[oS gz true d'] at H)).any (Sv x j tv H).2 (Sv x j tv H).1 _
      by_cases S:xs.length+ys.length<=cap
      ·have a5:gp p=(q,π):=gB hm;have Ic:γ1 b=.at (gp p).1 ((gp p).2++[tg t']):=by rw[a5];exact eO
       have zw:(Gs.rc C {g with γ:=γ1} w).va p=some (.slice (some ⟨b,F,none⟩) xs.length cap):=by rw[Mu,N]
       have aM:(xs.length+ys.length)*aA t'<=cap*aA t':=od _ S;rw[jY] at aM;have Lw:∀k,w.cell? ⟨b,k,none⟩=cs[k]?:=λk=>by
        have rY:w.heap[b]?=some (.cells cs e' fr):=hh
        simp[World.cell?,rY]
       have mG:∀k,k<cs.size->w.frozen? ⟨b,k,none⟩=false:=λk A=>by
        have:=lH k A
        have rY:w.heap[b]?=some (.cells cs e' fr):=hh
        simp only[World.frozen?,rY]
        simp only[akD,lP]
        by_cases h1:fr.1<=k
        ·exact .inr (λh2=>this ⟨h1,h2⟩)
        ·exact .inl h1
       have mH:=YP.len;have gh:=run_append_room_src (P:=P) w t tx o.type et i T.ut T.hi b F xs.length cap (a.eval y) ys.length news vE S (λj H=>by rw[Lw,T.sz];rw[jX (by omega)];rfl) (λj H=>mG _ (by rw[T.sz];omega));rw[T.sz] at gh;have pk:=kR b news (F+xs.length*aA t') w;obtain⟨gy,k1,k2,k3,k4⟩:=pk.this _ _ _ hh;have L1:=Rel.Su (g:={g with γ:=γ1}) (vals:=news) h2 j7 Ic zw hh (iI _) IG;have a0:=Xv (C:=C) (g:={g with γ:=γ1}) (vals:=news) Ic zw hh (iI _) p zv;have rZ:=A6 pk h1.aC.new Ic;have gf:∀(r:Nat)x(j:Nat)tv,(xs++ys)[r]?=some x->(enc true t' x)[j]?=some tv->∃u,gy[F+r*aA t'+j]?=some u/\u.oneCell'=true/\Rd (Gs.rc C {g with γ:=γ1} w) none tv u:=λr x j tv hx H=>by
        have Nf:j<aA t':=by have:=(da.1 H).1;rwa[ic] at this
        by_cases qM:r<xs.length
        ·rw[rb qM] at hx;obtain⟨U,m2⟩:=xV r x j tv hx H;have ZD:(r+1)*aA t'<=xs.length*aA t':=od _ qM;rw[jY,sA] at ZD;refine⟨f r j,?_,m2,ap r x j tv hx H⟩;rw[k4 _ (by omega)];have:cellAt w b (F+r*aA t'+j)=cs[F+r*aA t'+j]?:=Lw _;rw[<-this];exact U
        ·rw[sB (by omega)] at hx;have be:=(da.1 hx).1;obtain⟨u,n1,n2,n3⟩:=YP.rd (r-xs.length) x j tv hx H;have a6:=(da.1 n1).1;refine⟨u,?_,n2,n3.any (Sv x j tv H).2 (Sv x j tv H).1 _⟩;have:=k3 ((r-xs.length)*aA t'+j) a6 (by omega);rw[show F+xs.length*aA t'+((r-xs.length)*aA t'+j)=F+r*aA t'+j by
          have:r*aA t'=xs.length*aA t'+(r-xs.length)*aA t':=by rw[<-jY];congr 1;omega
          omega] at this;rw[this];exact n1
       have aa:=Rd.kY (c:=Gs.rc C {g with γ:=γ1} (w.setCells b (F+xs.length*aA t') news)) (gp p).1 (gp p).2 true t' (xs++ys) b F cap gy e' fr (λr j=>gy[F+r*aA t'+j]?.getD undef) (by simpa using S) Ic k1 (by rw[k2];exact lH) (by rw[k2];exact eB)
        (λr x j tv hx H=>by
          obtain⟨u,U,m2,_⟩:=gf r x j tv hx H
          have ZE:(w.setCells b (F+xs.length*aA t') news).heap[b]?=some (.cells gy e' fr):=k1
          exact⟨by simp[cellAt,World.cell?,Gs.rc,ZE,U],by simp[U,m2]⟩)
        (λr x j tv hx H=>by
          obtain⟨u,U,_,m3⟩:=gf r x j tv hx H
          rw[U]
          have dx:=fg H
          exact(m3.same (c':=Gs.rc C {g with γ:=γ1} (w.setCells b (F+xs.length*aA t') news)) (λb Z=>rZ.im b Z) (λq p he=>by simp at he) (λi hi=>absurd hi (lQ dx i)) (λp iW=>absurd iW (fH dx p)) (λp iW=>absurd iW.mv (fH dx p))).lift _);rw[dG] at aa;have bg:(some ((gp p).1,(gp p).2):Option Gp)=some (gp p):=rfl;refine ab (by rw[N];exact gh) L1 a0.2 (a0.1.trans Mu) aa (rZ.mono (λq' nA hx=>.inl ⟨hx.1,λiH=>?_⟩));have:=iH.2;rw[hx.2] at this;simp at this
      ·obtain⟨olds,U,m2,m3⟩:=WK (P:=P) (w:=w) (D:=true) (cap:=cap) (M:=λr j=>some (.aw 0,[((r:Int),j)])) xV (λr x j tv hx H=>(ap r x j tv hx H).lift _);exact grow N U (by rw[T.sz];exact m2) m3 (by omega)
    |false=>
     rw[j7,aH] at A;obtain⟨s2,γ2,cB,h2,h3,h4,h5⟩:=QS (n:=0) (π0:=[]) h1 p qP rfl hl A;have a7:mW (Gs.rc C {g with γ:=γ2} w) d t' ys news:=lJ.fk (g:={g with γ:=γ1}) h4 (λJ=>jo p 1 J.symm);have a1:(bif flat t' then true else bif d then d' else false)=true->flat t'=true\/d=true/\d'=true:=λhD=>by
      cases hf:flat t' with
      |true=>exact .inl rfl
      |false=>
       rw[hf,aH] at hD
       cases d with
       |true=>exact .inr ⟨rfl,hD⟩
       |false=>simp at hD
     obtain⟨cX,h6,h7,h8⟩:=apB (D:=bif flat t' then true else bif d then d' else false) h2 h3 (λhD=>(a1 hD).imp id (λh=>h.2)) (λhf=>by rw[hf];rfl);have a8:mW (Gs.rc C {g with γ:=cX} w) d t' ys news:=a7.fk (g:={g with γ:=γ2}) h8 (by simp);obtain⟨yb,k1,k2,k3⟩:=aes (D:=bif flat t' then true else bif d then d' else false) h6 a8 (λhD=>(a1 hD).imp id (λh=>h.1)) (λhf=>by rw[hf];rfl);have a9:Rd (Gs.rc C {g with γ:=yb} w) (some (.aw 0,[])) (.own (bif flat t' then true else bif d then d' else false) t' xs) (a.eval x):=h7.B9 (g:={g with γ:=cX}) (by simp[eE,bC]) k3 (λq p he=>by simp only[aQ,cZ] at he;rw[<-he.1];simp);have Bv:bZ s x (gp p).1:=y5 (λi=>(h.l9 i).1) (by rw[jj];exact .vw _);refine QY l hd ho (γ2:=yb) (((L2.trans (h4.mono (λq J=>.inl (by rw[J];exact Bv)))).trans (h8.mono (λq J=>.inr (.inr ⟨0,J⟩)))).trans (k3.mono (λq J=>.inr (.inr ⟨1,J⟩)))) h.aC.new (Ld (ty:=o.type) k1 T a9 src k2 (by rw[qL];exact Z) p8) cB
   ·simp at A
  ·rename_i jj;rw[jj] at Y;have N:a.eval x=.slice none 0 0:=by generalize iX x=m at Y;generalize a.eval x=u at Y;cases Y;rfl
   obtain⟨zs,Q,cB⟩:=dw.1 A;obtain⟨hz,Z,p8⟩:=PD Q;rw[hz] at cB;refine QY l hd ho (γ2:=γ1) L2 h.aC.new (Ld (ty:=o.type) (xs:=[]) h1 T ?_ src lJ (by rw[qL];exact Z) p8) cB;rw[N];exact .j6 _ _ _ _
  ·rename_i jj;rw[jj] at Y;obtain⟨va,N⟩:∃va,a.eval x=.slice va 0 0:=by generalize iX x=m at Y;generalize a.eval x=u at Y;cases Y;exact⟨_,rfl⟩
   obtain⟨zs,Q,cB⟩:=dw.1 A;obtain⟨hz,Z,p8⟩:=PD Q;rw[hz] at cB;refine QY l hd ho (γ2:=γ1) L2 h.aC.new (Ld (ty:=o.type) (xs:=[]) h1 T ?_ src lJ (by rw[qL];exact Z) p8) cB;rw[N];exact .j6 _ _ _ _
  ·rename_i t' xs jj;rw[jj] at Y;obtain⟨ZL,A⟩:=pB A;subst ZL;obtain⟨_,dv,A⟩:=dw.1 A;have dv:(0:Int)<au ys:=ef (nG.1 dv);simp only[au] at dv;obtain⟨zs,Q,A⟩:=dw.1 A;obtain⟨rfl,Z,p8⟩:=PD Q;have am:ki rfl xs=xs:=rfl;obtain⟨yb,k1,k2,k3⟩:=aes (D:=flat t') h1 lJ (λhD=>.inl hD) (λhf=>hf);have a2:FK (λq=>bZ s x q\/bZ s y q\/∃n,q=.aw n) g.γ yb:=L2.trans (k3.mono (λq J=>.inr (.inr ⟨1,J⟩)));have vE:Src P i.size tx (a.eval y) ys.length news w:=by rw[T.sz];exact src
   have nX:Rd (Gs.rc C {g with γ:=yb} w) none (.eM t' xs) (a.eval x):=(Y.anyM rfl none).B9 (by simp[eE,bC]) a2 (λq p he=>by simp at he);rw[am] at Z p8;refine QY l hd ho (γ2:=yb) a2 h.aC.new ?_ A;rcases nX.QP with⟨rfl,va,N⟩|⟨b,F,f,N,ln,hc,hr⟩
   ·rw[N];refine KJ (olds:=[]) (xs:=[]) k1 T.ut T.hi T.hz T.sz T.zs (by simp) ?_ vE (λr x j tv hx=>by simp at hx) k2 (by simp;omega) (by rw[qL];exact Z) p8;cases va with
    |none=>exact run_firstCells_none w.drew i.size 0 0 0
    |some ad=>exact run_firstCells_some w.drew i.size 0 ad 0 0 [] (by simp) (by simp)
   ·rw[N];obtain⟨olds,U,m2,m3⟩:=WK (P:=P) (w:=w) (D:=flat t') (cap:=xs.length) (M:=λr j=>some (.aw 0,[((r:Int),j)])) (c:=Gs.rc C {g with γ:=yb} w) (λr x j tv hx H=>hc r x j tv hx (by rwa[Xu] at H)) (λr x j tv hx H=>(hr r x j tv hx (by rwa[Xu] at H)).lift _);exact KJ k1 T.ut T.hi T.hz T.sz T.zs U (by rw[T.sz];exact m2) vE m3 k2 (by omega) (by rw[qL];exact Z) p8
  ·simp at A
 ·simp at A
end
end
section
section
variable{P:Program}{C:Cx}{E:Env}{nt n:Nat}{o:Oper}{s s1:TS}{g g1:Gs}{a:Act}{w w1:World}{R:Type}{r:R}{γ1:Nat->G}{tv:TV}{v:Value}{K:TS->Option R}{X:Rt->aZ->Prop}{nb:Nat->Prop}
theorem aq7{t:Ty}(D:Ev.fP t=false){j:TV}{y:El t}(M:dec t [j]=some y){c:Rc}{m:Option Gp}{u:Value}(x:Rd c m j u):u=ka t y:=by
 obtain⟨F,H,_,_,_,_⟩:=DY D false y;obtain⟨N,I⟩:=(w7 false M).get;rw[H] at I;have A:=I 0 j F rfl rfl;have J:enc false t y=[F]:=H;cases t<;>simp[Ev.fP] at D<;>simp only[enc,nh,jI] at J<;>subst J
 ·rcases A with rfl|⟨_,_,_,e⟩
  ·exact x.rF
  ·simp[sc] at e
 ·rcases A with rfl|⟨_,_,_,e⟩
  ·exact x.kU
  ·simp[sc] at e
 ·rcases A with rfl|⟨_,_,_,e⟩
  ·exact x.pK
  ·simp[sc] at e
theorem alp(hC:eW P C)(h:Rel C E s g w)(l:cD nt g a)(hd:gN nt o.dst){t:Nat}{parts:Array (Nat×Operand)}(S:o.op=.build t parts)(hx:∀p∈parts.toList,dW nt p.2=true){len:Nat}{e:Ty}(H:C.aR t=.ar len e)(U:Ev.step C o s K=some r):
  gv P C E nt o g a w K r (λq=>(∃p∈parts.toList,bZ s p.2 q)\/∃n,q=.aw n):=by
 simp only[Ev.step,S,H] at U;obtain⟨et,hu,fX,h1,_,I,Nk⟩:=LZ (hC.ty t) H;obtain⟨iY,iM,_⟩:=uW fX;have EM:=(sN (hC.ty t) (by rw[H];rfl)).2.2.2.2;obtain⟨z,Zu,mF,i,hi,zQ⟩:=VT (P:=P) (w:=w) EM;obtain⟨ie,zN,J⟩:=U4 (P:=P) (t:=et) iM;obtain⟨D,F,s',aa,k1,k2,k3,k4,k5,_⟩:=WE hC l (s0:=s) (Z:=λq=>∃p∈parts.toList,bZ s p.2 q) parts.toList (γ:=g.γ) h hx (λp y q hq=>⟨p,y,hq⟩) (.refl _) U;obtain⟨M,gV⟩:=bQ.1 k1;have M:=gr M;have dx:parts.toList.length=len:=by simpa using M
 have EL:z.cells.size=len:=by
  have:=congrArg List.length (WJ (λv hv=>agC I _ v hv) Nk)
  rw[<-mF] at this
  simpa using this
 have N:ie.size=1:=by rw[J,iY,h1]
 obtain⟨kZ,m1,m2,m3,_⟩:=VW (size:=1) a parts.toList (n:=0) (arr:=z.cells) (λi p y=>by
  have ab:=(da.1 y).1
  obtain⟨vs,Q,u⟩:=k4 i p (F[i]'(by omega)) y (cT _)
  exact⟨u.ix,by rw[u.len,Q]⟩) (by rw[EL,dx];simp);have hb:P.built t (parts.map λ(i,x)=>(i,a.eval x)).toList=some kZ:=by
  unfold Program.built
  simp only[hi,hu,zQ,zN,N]
  rw[akB]
  exact m1
 have gh:=run_build (P:=P) w t (parts.map λ(i,x)=>(i,a.eval x)) kZ hb;have vF:kZ=(F.map (ka e)).toArray:=by
  apply Array.ext_getElem?
  intro j
  by_cases hj:j<len
  ·have y:parts.toList[j]?=some (parts.toList[j]'(by omega)):=cT _;have Y:F[j]?=some (F[j]'(by omega)):=cT _;obtain⟨vs,Q,u⟩:=k4 j _ _ y Y;have h9:=m3 j _ 0 y (by omega);simp only[iu,Uu,uQ] at h9
   match vs,Q,u with
   |[Cc],_,u=>
    have ad:(a.eval (parts.toList[j]'(by omega)).2).cells.size=1:=u.len;have A:(a.eval (parts.toList[j]'(by omega)).2).cells[0]?=some ((a.eval (parts.toList[j]'(by omega)).2).cells[0]'(by omega)):=jX _;have gk:=(u.rd 0 Cc _ rfl (by rw[ni];exact A)).1;rw[h9,A,aq7 I u.dc gk];simp[Y]
  ·rw[CI (by omega),CI (by simp;omega)]
 exact uc (n:=0) (v:=.agg kZ) k2 k5 h.aC.new l hd (by rw[vF];exact .vec _ _ _ I) (by simp only[execOp,S];simp[gh]) gV
end
end
def YQ(a:Nat):Option Nat->Bool|some d=>Nat.blt d a|none=>true
theorem amB{a:Nat}{d:Option Nat}(h:YQ a d=true):gN a d:=by
 cases d with
 |none=>trivial
 |some d=>exact(by simpa[YQ,wO] using h:d<a)
def WL(C:Cx)(t:Nat):Bool:=
 match C.aR t with
 |.sl _ _ _=>true
 |.str=>true
 |_=>false
def agD:Option Nat->Bool|none=>true|_=>false
def qn(P:Program)(C:Cx)(a:Nat)(o:Oper):Bool:=
 YQ a o.dst&&o.op.operands.toList.all (dW a)&&
 match o.op with
 |.store _ _ _=>agD o.dst
 |.binOp _ t _ y _=>Mn P C t y
 |.makeInterface t _=>(match C.aR t with|.iG=>false|_=>true)
 |.makeFunc (.func _) first _=>first.toList.isEmpty
 |.call c=>
  match c.callee with
  |.builtin .append=>(match c.args.toList,c.argTypes.toList with|[_,_],[_,e]=>WL C e|_,_=>false)
  |.builtin .len=>(match c.args.toList with|[_]=>true|_=>false)
  |.builtin .min=>(match c.args.toList with|[_,_]=>true|_=>false)
  |.builtin .max=>(match c.args.toList with|[_,_]=>true|_=>false)
  |_=>true
 |_=>true
section
section
variable{P:Program}{C:Cx}{E:Env}{nt n:Nat}{o:Oper}{s s1:TS}{g g1:Gs}{a:Act}{w w1:World}{R:Type}{r:R}{γ1:Nat->G}{tv:TV}{v:Value}{K:TS->Option R}{Z Z':Rt->Prop}{X X':Rt->aZ->Prop}{nb Tt:Nat->Prop}
theorem alg(hC:eW P C){t:Nat}(h:WL C t=true):(∃j,P.underlying t=some (.slice j))\/P.underlying t=some .string:=by
 unfold WL at h;split at h
 ·rename_i e;obtain⟨u,x,_⟩:=zg (hC.ty t) e;exact .inl ⟨u,x⟩
 ·rename_i e;exact .inr (yZ (hC.ty t) e)
 ·simp at h
theorem yH(h:qn P C nt o=true):gN nt o.dst/\∀x∈o.op.operands.toList,dW nt x=true:=by
 simp only[qn,bo,jJ] at h;exact⟨amB h.1.1,h.1.2⟩
theorem Out.mono{X Y:Rt->aZ->Prop}{d:Option Nat}{e:TS}{j:Act}{u:World}{g':Gs}(h:Out C E nt X d nb g w e j u g')(hx:∀q p,X q p->Y q p)(x:∀k,nb k->Tt k):Out C E nt Y d Tt g w e j u g':=⟨h.rel,h.Iy,h.fK.mono hx,h.tm,λk y=>h.bx k λA=>y (x k A)⟩
theorem zt.mono{u Ψ:Act->World->Prop}(h:zt P o a w u)(x:∀e j,u e j->Ψ e j):zt P o a w Ψ:=λnext Q y=>h next Q λe j A=>y e j (x e j A)
theorem lV.mono(h:lV P C E nt o g a w K r Z X nb)(hz:∀q,Z q->Z' q\/∃n,q=.aw n)(hx:∀q p,X q p->X' q p)(u:∀k,nb k->Tt k):lV P C E nt o g a w K r Z' X' Tt:=by
 obtain⟨x,y,A⟩:=h;refine⟨x,y,A.mono λI J⟨D,F⟩=>⟨D,F.mono (λq p j=>?_) u⟩⟩;rcases j with⟨e,H⟩|j
 ·refine .inl ⟨?_,H⟩;rcases e with e|e
  ·exact hz q e
  ·exact .inr e
 ·exact .inr (hx q p j)
def BS(s:TS)(o:Oper)(q:Rt):Prop:=∃x∈o.op.operands.toList,bZ s x q
def ET(C:Cx)(s:TS)(o:Oper)(q:Rt)(p:aZ):Prop:=∃t e x,o.op=.store t e x/\YJ (aU C s e) q p
def ug(o:Oper):Bool:=
 match o.op with
 |.call c=>(match c.callee with|.builtin _=>true|_=>false)
 |_=>true
def oZ(s:TS)(o:Oper)(q:Rt):Prop:=
 match o.op with
 |.move x=>uC x q
 |_=>BS s o q
theorem step_ok(hC:eW P C)(h:Rel C E s g w)(l:cD nt g a)(cL:qn P C nt o=true)(S:ug o=true)(H:Ev.step C o s K=some r):
  lV P C E nt o g a w K r (oZ s o) (ET C s o) (λk=>k∈nS o):=by
 obtain⟨I,hx⟩:=yH cL;have zy:=cL;simp only[qn,bo] at zy;have F:=zy.2;cases u:o.op with
 |move x=>exact((QU hC h l I u (hx x (by simp[u,Op.operands])) H).mono (λq A=>by simp only[oZ,u];exact A)).b
 |assign x=>
  have D:∀x∈o.op.operands.toList,∀q,bZ s x q->oZ s o q:=λx hx q A=>by simp only[oZ,u];exact⟨x,hx,A⟩
  exact((ab5 h l I u (hx x (by simp[u,Op.operands])) hC.gl H).mono (λq A=>D x (by simp[u,Op.operands]) q A.1)).b
 |pick c x y=>
  have D:∀x∈o.op.operands.toList,∀q,bZ s x q->oZ s o q:=λx hx q A=>by simp only[oZ,u];exact⟨x,hx,A⟩
  exact((WB hC h l I u (hx c (by simp[u,Op.operands])) (hx x (by simp[u,Op.operands])) (hx y (by simp[u,Op.operands])) H).mono (λq A=>A.elim (λA=>D x (by simp[u,Op.operands]) q (bZ.z A)) (λA=>D y (by simp[u,Op.operands]) q (bZ.z A)))).b
 |alloc t=>
  have D:∀x∈o.op.operands.toList,∀q,bZ s x q->oZ s o q:=λx hx q A=>by simp only[oZ,u];exact⟨x,hx,A⟩
  exact(anM hC h l I u H).mono (λq A=>.inl A) (λ_ _ A=>A.elim) (λk A=>by simp only[nS,u];rw[A];simp[br])
 |box t x=>
  have D:∀x∈o.op.operands.toList,∀q,bZ s x q->oZ s o q:=λx hx q A=>by simp only[oZ,u];exact⟨x,hx,A⟩
  exact(aq4 hC h l I u (hx x (by simp[u,Op.operands])) H).mono (λq A=>.inl (D x (by simp[u,Op.operands]) q A)) (λ_ _ A=>A.elim) (λk A=>by simp only[nS,u];rw[A];simp[br])
 |build t ps=>
  have D:∀x∈o.op.operands.toList,∀q,bZ s x q->oZ s o q:=λx hx q A=>by simp only[oZ,u];exact⟨x,hx,A⟩
  have jx:∀p∈ps.toList,dW nt p.2=true:=λp Q=>hx p.2 (by simp only[u,Op.operands];exact gQ.2 ⟨p,Q,rfl⟩);have hz:∀q,(∃p∈ps.toList,bZ s p.2 q)->oZ s o q:=λq⟨p,Q,A⟩=>D p.2 (by simp only[u,Op.operands];exact gQ.2 ⟨p,Q,rfl⟩) q A;cases ht:C.aR t with
  |st t' m fs=>exact((alo hC h l I u jx ht H).mono hz).b
  |ar len e=>exact(alp hC h l I u jx ht H).b.mono (λq A=>A.imp (hz q) id) (λ_ _ A=>A) (λ_ A=>A)
  |_=>simp[Ev.step,u,ht] at H
 |buildSlice t n ps=>
  have D:∀x∈o.op.operands.toList,∀q,bZ s x q->oZ s o q:=λx hx q A=>by simp only[oZ,u];exact⟨x,hx,A⟩
  have jx:∀p∈ps.toList,dW nt p.2=true:=λp Q=>hx p.2 (by simp only[u,Op.operands];exact gQ.2 ⟨p,Q,rfl⟩);exact(ak9 hC h l I u jx H).mono (λq⟨p,Q,A⟩=>.inl (D p.2 (by simp only[u,Op.operands];exact gQ.2 ⟨p,Q,rfl⟩) q A)) (λ_ _ A=>A) (λ_ A=>A)
 |load t x=>
  have D:∀x∈o.op.operands.toList,∀q,bZ s x q->oZ s o q:=λx hx q A=>by simp only[oZ,u];exact⟨x,hx,A⟩
  exact(aen hC h l I u (hx x (by simp[u,Op.operands])) H).b
 |store t ad x=>
  have D:∀x∈o.op.operands.toList,∀q,bZ s x q->oZ s o q:=λx hx q A=>by simp only[oZ,u];exact⟨x,hx,A⟩
  rw[u] at F;have aa:o.dst=none:=by
   cases wc:o.dst with
   |none=>rfl
   |some d=>rw[wc] at F;simp[agD] at F
  exact(anL hC h l aa u (hx ad (by simp[u,Op.operands])) (hx x (by simp[u,Op.operands])) H).mono (λq A=>.inl (A.elim (D x (by simp[u,Op.operands]) q) (D ad (by simp[u,Op.operands]) q))) (λq p A=>⟨t,ad,x,u,A⟩) (λ_ A=>A)
 |nilCheck x=>
  have D:∀x∈o.op.operands.toList,∀q,bZ s x q->oZ s o q:=λx hx q A=>by simp only[oZ,u];exact⟨x,hx,A⟩
  exact(aa6 h l I u (hx x (by simp[u,Op.operands])) H).b
 |binOp op t x y t'=>
  have D:∀x∈o.op.operands.toList,∀q,bZ s x q->oZ s o q:=λx hx q A=>by simp only[oZ,u];exact⟨x,hx,A⟩
  rw[u] at F;exact(ac3 hC h l I u (hx x (by simp[u,Op.operands])) (hx y (by simp[u,Op.operands])) F H).b
 |unOp op t x=>
  have D:∀x∈o.op.operands.toList,∀q,bZ s x q->oZ s o q:=λx hx q A=>by simp only[oZ,u];exact⟨x,hx,A⟩
  exact(ael h l I u (hx x (by simp[u,Op.operands])) H).b
 |convert t t' x=>
  have D:∀x∈o.op.operands.toList,∀q,bZ s x q->oZ s o q:=λx hx q A=>by simp only[oZ,u];exact⟨x,hx,A⟩
  exact alP hC h l I u (hx x (by simp[u,Op.operands])) H
 |makeInterface t x=>
  have D:∀x∈o.op.operands.toList,∀q,bZ s x q->oZ s o q:=λx hx q A=>by simp only[oZ,u];exact⟨x,hx,A⟩
  rw[u] at F;exact(aaW hC h l I u H (λU=>by simp[U] at F)).b
 |makeFunc f first cap=>
  have D:∀x∈o.op.operands.toList,∀q,bZ s x q->oZ s o q:=λx hx q A=>by simp only[oZ,u];exact⟨x,hx,A⟩
  cases f with
  |func fi=>
   rw[u] at F;have hf:first=#[]:=by simpa using F
   exact(aa7 h l I u hf (λz hz=>hx z (by simp only[u,Op.operands,On];exact cU.2 (.inr hz))) H).b
  |_=>simp[Ev.step,u] at H
 |makeSlice t x y=>
  have D:∀x∈o.op.operands.toList,∀q,bZ s x q->oZ s o q:=λx hx q A=>by simp only[oZ,u];exact⟨x,hx,A⟩
  exact alf hC h l I u (hx x (by simp[u,Op.operands])) (hx y (by simp[u,Op.operands])) H
 |slice t x lo hi mx=>
  have D:∀x∈o.op.operands.toList,∀q,bZ s x q->oZ s o q:=λx hx q A=>by simp only[oZ,u];exact⟨x,hx,A⟩
  have U:∀z:Option Operand,(∀y,z=some y->y∈o.op.operands.toList)->Ib nt z=true:=λz hz=>by
   cases z with
   |none=>rfl
   |some y=>exact hx y (hz y rfl)
  exact(ac6 hC h l I u (hx x (by simp[u,Op.operands])) (U lo λy Y=>by simp[u,Op.operands,Y]) (U hi λy Y=>by simp[u,Op.operands,Y]) (U mx λy Y=>by simp[u,Op.operands,Y]) H).b
 |fieldAddr t x j=>
  have D:∀x∈o.op.operands.toList,∀q,bZ s x q->oZ s o q:=λx hx q A=>by simp only[oZ,u];exact⟨x,hx,A⟩
  exact(aaZ hC h l I u (hx x (by simp[u,Op.operands])) H).b
 |field t x j=>
  have D:∀x∈o.op.operands.toList,∀q,bZ s x q->oZ s o q:=λx hx q A=>by simp only[oZ,u];exact⟨x,hx,A⟩
  exact((anG hC h l I u (hx x (by simp[u,Op.operands])) H).mono (λq A=>D x (by simp[u,Op.operands]) q (bZ.z A))).b
 |indexAddr t x i=>
  have D:∀x∈o.op.operands.toList,∀q,bZ s x q->oZ s o q:=λx hx q A=>by simp only[oZ,u];exact⟨x,hx,A⟩
  exact(aa0 hC h l I u (hx x (by simp[u,Op.operands])) (hx i (by simp[u,Op.operands])) H).b
 |index t x i=>
  have D:∀x∈o.op.operands.toList,∀q,bZ s x q->oZ s o q:=λx hx q A=>by simp only[oZ,u];exact⟨x,hx,A⟩
  exact(ac4 hC h l I u (hx x (by simp[u,Op.operands])) (hx i (by simp[u,Op.operands])) H).b
 |extract x i=>
  have D:∀x∈o.op.operands.toList,∀q,bZ s x q->oZ s o q:=λx hx q A=>by simp only[oZ,u];exact⟨x,hx,A⟩
  cases x with
  |tmp k=>exact((abv h l I u (hx _ (by simp[u,Op.operands])) H).mono (λq A=>D _ (by simp[u,Op.operands]) q (bZ.z A.1))).b
  |_=>simp[Ev.step,u] at H
 |call c=>
  have D:∀x∈o.op.operands.toList,∀q,bZ s x q->oZ s o q:=λx hx q A=>by simp only[oZ,u];exact⟨x,hx,A⟩
  obtain⟨N,args,zU⟩:=c;cases N with
  |value f=>simp[ug,u] at S
  |invoke f m=>simp[ug,u] at S
  |builtin b=>
   rw[u] at F;have J:∀x∈args.toList,dW nt x=true:=λx r9=>hx x (by simp[u,Op.operands,Call.operands];simpa using r9);have M:∀x∈args.toList,x∈o.op.operands.toList:=λx r9=>by simp[u,Op.operands,Call.operands];simpa using r9
   obtain⟨args⟩:=args;obtain⟨zU⟩:=zU;cases b with
   |len=>
    match args,zU,u,F,J,M with
    |[x],t::ts,u,F,J,M=>exact(afA hC h l I u (J x (by simp)) H).b
    |[],_,u,F,_,_=>simp at F
    |_::_::_,_,u,F,_,_=>simp at F
    |[_],[],u,F,_,_=>simp[Ev.step,u] at H
   |append=>
    match args,zU,u,F,J,M with
    |[x,y],[t,tx],u,F,J,M=>
     exact(amA hC h l I u (J x (by simp)) (J y (by simp)) (alg hC (by simpa using F)) H).mono (λq A=>by
      rcases A with A|A|A
      ·exact .inl (D x (M x (by simp)) q A)
      ·exact .inl (D y (M y (by simp)) q A)
      ·exact .inr A) (λ_ _ A=>A) (λ_ A=>A)
    |[],_,u,F,_,_=>simp at F
    |[_],_,u,F,_,_=>simp at F
    |_::_::_::_,_,u,F,_,_=>simp at F
    |[_,_],[],u,F,_,_=>simp at F
    |[_,_],[_],u,F,_,_=>simp at F
    |[_,_],_::_::_::_,u,F,_,_=>simp at F
   |min=>
    match args,u,F,J,M with
    |[x,y],u,F,J,M=>exact(afy h l I u (J x (by simp)) (J y (by simp)) H).b
    |[],u,F,_,_=>simp at F
    |[_],u,F,_,_=>simp at F
    |_::_::_::_,u,F,_,_=>simp at F
   |max=>
    match args,u,F,J,M with
    |[x,y],u,F,J,M=>exact(afz h l I u (J x (by simp)) (J y (by simp)) H).b
    |[],u,F,_,_=>simp at F
    |[_],u,F,_,_=>simp at F
    |_::_::_::_,u,F,_,_=>simp at F
   |_=>simp[Ev.step,u] at H
 |_=>simp[Ev.step,u] at H
end
end
section
section
variable{C:Cx}{s:TS}
theorem fh{a e γ:Type}(o:Option a)(f:a->Option e)(K:e->Option γ):(ae o f).bind K=ae o λx=>(f x).bind K:=by cases o<;>rfl
theorem dQ{a R:Type}(b:Bool)(x y:Option a)(K:a->Option R):(bif b then x else y).bind K=bif b then x.bind K else y.bind K:=by cases b<;>rfl
theorem asI{a R:Type}(b:Bool)(x y:Option a)(K:a->Option R):(xQ b x y).bind K=xQ b (x.bind K) (y.bind K):=by cases b<;>rfl
theorem dY{a R:Type}(K:a->Option R):(none:Option a).bind K=none:=rfl
theorem Lx{e R:Type}(a:e)(K:e->Option R):(some a).bind K=K a:=rfl
theorem pH{a R:Type}(p:Pl)(e:TV->Option a)(K:a->Option R):(ko C s p e).bind K=ko C s p λx=>(e x).bind K:=by
 rw[yS,yS];cases fo C s p<;>rfl
theorem Xw{a R:Type}(p:Pl)(e:TS->Option a)(K:a->Option R):(oB s p e).bind K=oB s p λx=>(e x).bind K:=by
 cases p with
 |slot k=>rfl
 |cell k c=>simp only[oB];cases s.box k<;>rfl
 |sub p t i c=>
  cases p with
  |slot k=>
   simp only[oB];cases s.slot k with
   |own d u y=>cases d<;>first|rfl|simp only[dQ,dY]
   |_=>rfl
  |cell k j=>
   simp only[oB];cases s.box k with
   |cells A=>
    simp only[];cases nth A j with
    |own d u y=>cases d<;>first|rfl|simp only[dQ,dY]
    |_=>rfl
   |_=>rfl
  |sub _ _ _ _=>rfl
theorem afE{e R:Type}:∀(p:Pl)(a:TS->Option e)(K:e->Option R),(xE s p a).bind K=xE s p λx=>(a x).bind K
 |.slot k,_,_=>rfl
 |.cell k c,_,_=>by simp only[xE];cases s.box k<;>rfl
 |.sub p _ _ _,a,K=>by simp only[xE];exact afE p a K
theorem afF{e R:Type}(p:Pl)(a:TS->Option e)(K:e->Option R):(vA s p a).bind K=vA s p λx=>(a x).bind K:=by
 cases p with
 |slot k=>rfl
 |cell k c=>simp only[vA];cases s.box k<;>rfl
 |sub p _ _ _=>simp only[vA];exact afE p a K
theorem Sw{e R:Type}(m:Bool->Pl->Bool)(v:TV)(j:TV->TS->Option e)(K:e->Option R):(cv C m v s j).bind K=cv C m v s λa b=>(j a b).bind K:=by
 cases v with
 |vw p t=>
  simp only[cv,pH]
  congr 1;funext x
  cases x with
  |own d t u=>simp only[];cases m true p<;>simp only[afF,Xw]
  |_=>rfl
 |sl p t0 lo hi=>
  simp only[cv,pH]
  congr 1;funext x
  cases x with
  |own d t u=>
   simp only[dQ,dY]
   congr 1
   cases m false p<;>simp only[afF,Xw,fh]
  |bJ t u=>simp only[dQ,dY,fh]
  |_=>rfl
 |_=>rfl
theorem HW{j R:Type}(m:Bool->Pl->Bool):∀(vs:List TV)(s:TS)(e:List TV->TS->Option j)(K:j->Option R),(rU C m vs s e).bind K=rU C m vs s λa b=>(e a b).bind K
 |[],s,e,K=>rfl
 |v::vs,s,e,K=>by
  simp only[rU,Sw]
  congr 1;funext x u
  exact HW m vs u _ K
theorem Xx{e R:Type}:∀(p:Pl)(f:TV->(TV->Option e)->Option e)(j:TV->(TV->Option R)->Option R)(a:TS->Option e)(K:e->Option R),(∀v(k:TV->Option e),(f v k).bind K=j v λx=>(k x).bind K)->(uu C s p f a).bind K=uu C s p j λx=>(a x).bind K
 |.slot k,f,j,a,K,u=>by simp only[uu,dQ,dY,u]
 |.cell k c,f,j,a,K,u=>by
  simp only[uu];cases s.box k with
  |cells D=>simp only[u]
  |_=>rfl
 |.sub p t i c,f,j,a,K,u=>by
  simp only[uu];refine Xx p _ _ a K λv k=>?_;cases v with
  |own d y E=>
   cases d with
   |false=>rfl
   |true=>
    simp only[dQ,dY,fh,u]
    congr 1
    congr 1
    funext x
    congr 1
    funext A;cases sL A<;>first|rfl|(cases dec y (lY (enc true y x) c A)<;>rfl)
  |_=>rfl
theorem pE{e R:Type}{t a:Ty}{xs:List (El t)}(j:List (El a)->Option e)(K:e->Option R):(castLT t a xs j).bind K=castLT t a xs λx=>(j x).bind K:=by
 unfold castLT;split<;>rfl
theorem Bz{a R:Type}{t:Ty}{vs:List TV}(e:El t->Option a)(K:a->Option R):(one? t vs e).bind K=one? t vs λx=>(e x).bind K:=by
 unfold one?;cases dec t vs<;>rfl
theorem asJ{a R:Type}(n:Nat)(ag:Bool)(p:TV)(e:TV->Option a)(K:a->Option R):(xS C s n ag p e).bind K=xS C s n ag p λx=>(e x).bind K:=by
 cases p with
 |ptr k c=>simp only[xS];cases s.box k<;>first|rfl|simp only[dQ,dY,fh]
 |pe k i=>simp only[xS];cases s.box k<;>first|rfl|simp only[dQ,dY,fh]
 |ep p t i c=>simp only[xS,pH];congr 1;funext x;cases x<;>first|rfl|simp only[dQ,dY,fh]
 |ip j c=>simp only[xS,dQ,dY]
 |iv t u=>simp only[xS,dQ,dY,fh]
 |_=>rfl
theorem afG{a R:Type}(p:TV)(n:Nat)(e:TV->Option a)(K:a->Option R):(uv p n e).bind K=uv p n λx=>(e x).bind K:=by
 cases p<;>first|rfl|simp only[uv,dQ,dY]
theorem asK{a R:Type}(e:Ty)(len:Nat)(x ix:TV)(j:TV->Option a)(K:a->Option R):(xT C s e len x ix j).bind K=xT C s e len x ix λx=>(j x).bind K:=by
 cases ix with
 |i k n=>
  cases x with
  |vw p t=>simp only[xT,pH];congr 1;funext x;cases x<;>first|rfl|simp only[dQ,dY,fh]
  |sl p t lo hi=>simp only[xT,pH];congr 1;funext x;cases x<;>first|rfl|simp only[dQ,dY,fh]
  |ptr k c=>simp only[xT];cases s.box k<;>first|rfl|simp only[dQ,dY,fh]
  |bJ t u=>simp only[xT,fh]
  |eM t u=>simp only[xT,fh]
  |iv t u=>simp only[xT,fh]
  |_=>rfl
 |_=>rfl
theorem asM{e R:Type}(op:BinOp)(k:IntKind)(a c:Int)(j:TV->Option e)(K:e->Option R):(EH op k a c j).bind K=EH op k a c λx=>(j x).bind K:=by
 cases op<;>first|rfl|simp only[EH,fh]
theorem asN{e R:Type}(op:BinOp)(x y:TV)(j:TV->Option e)(K:e->Option R):(Iv op x y j).bind K=Iv op x y λx=>(j x).bind K:=by
 unfold Iv;split
 ·simp only[dQ,asM,dY]
 ·cases op<;>first|rfl|simp only[fh]
 ·cases op<;>rfl
 ·cases op<;>rfl
 ·rename_i a c;cases op<;>(try rfl)<;>(cases jS a c<;>rfl)
 ·rfl
theorem asO{a R:Type}(op:UnOp)(x:TV)(e:TV->Option a)(K:a->Option R):(Tb op x e).bind K=Tb op x λx=>(e x).bind K:=by
 cases op<;>cases x<;>rfl
theorem aq8{a R:Type}(x:TV)(e:Int->Option a)(K:a->Option R):(Mg C s x e).bind K=Mg C s x λx=>(e x).bind K:=by
 cases x with
 |vw p t=>simp only[Mg,pH];congr 1;funext x;cases x<;>rfl
 |_=>rfl
theorem afH{a R:Type}{t:Ty}(e:List (El t))(l h m:Int)(j:TV->Option a)(K:a->Option R):(Eo e l h m j).bind K=Eo e l h m λx=>(j x).bind K:=by
 simp only[Eo,fh]
theorem asP{j R:Type}(x:TV)(lo hi mx:Option Operand)(u:TV->Option j)(K:j->Option R):(vN C s x lo hi mx u).bind K=vN C s x lo hi mx λx=>(u x).bind K:=by
 cases x with
 |s a=>simp only[vN];split<;>first|rfl|simp only[fh]
 |bJ t e=>
  simp only[vN];split
  ·simp only[fh]
  ·split<;>first|rfl|exact afH _ _ _ _ _ _
  ·rfl
 |eM t e=>
  simp only[vN];split
  ·simp only[fh]
  ·split<;>first|rfl|exact afH _ _ _ _ _ _
  ·rfl
 |vw p t=>
  simp only[vN,pH];congr 1;funext x;cases x with
  |own d y e=>
   simp only[dQ,dY]
   congr 1
   split
   ·simp only[fh]
   ·split<;>first|rfl|simp only[fh]
   ·rfl
  |bJ y e=>
   simp only[dQ,dY]
   congr 1
   split
   ·simp only[fh]
   ·rfl
  |_=>rfl
 |sl p t a b=>simp only[vN];split<;>first|rfl|simp only[fh]
 |nil=>
  simp only[vN];split
  ·simp only[fh]
  ·split<;>first|rfl|simp only[fh]
  ·rfl
 |gU=>
  simp only[vN];split
  ·simp only[fh]
  ·split<;>first|rfl|simp only[fh]
  ·rfl
 |_=>rfl
theorem asQ{e R:Type}(n:Nat)(p v:TV)(a:TS->Option e)(K:e->Option R):(M0 C s n p v a).bind K=M0 C s n p v λx=>(a x).bind K:=by
 unfold M0;split
 ·split
  ·rename_i k c;cases s.box k<;>first|rfl|simp only[dQ,dY,fh]
  ·rfl
 ·split
  ·rename_i u A D;simp only[dQ,dY,fh]
   congr 1
   congr 1
   funext y;refine Xx _ _ _ a K λv k=>?_;cases v with
   |own d E F=>
    cases d with
    |false=>rfl
    |true=>simp only[dQ,dY,fh,Bz]
   |_=>rfl
  ·rfl
 ·simp only[dQ,dY,HW]
  congr 1
  congr 1
  funext vs j;cases p with
  |ptr k c=>simp only[];cases j.box k<;>first|rfl|simp only[dQ,dY]
  |pe k i=>simp only[];cases j.box k<;>first|rfl|simp only[Bz,fh]
  |ep p t i c=>
   simp only[];refine Xx p _ _ a K λv k=>?_;cases v<;>first|rfl|simp only[dQ,dY,fh,Bz]
  |_=>rfl
end
end
section
section
variable{C:Cx}{s:TS}
theorem afI{u R:Type}(t:Ty)(y:TV)(j:Bool->List (El t)->TS->Option u)(K:u->Option R):(nP C t y s j).bind K=nP C t y s λd e s=>(j d e s).bind K:=by
 cases y with
 |bJ A e=>simp only[nP,pE]
 |eM A e=>simp only[nP,pE]
 |s a=>exact pE (t:=.int .u8) (xs:=bB a) (λe=>j true e s) K
 |vw p E=>
  simp only[nP,dQ,pH,Sw]
  congr 1
  ·congr 1;funext x;cases x<;>first|rfl|simp only[pE]
  ·congr 1;funext x D;cases x<;>first|rfl|simp only[pE]
 |sl p t0 lo hi=>
  simp only[nP,dQ,pH,Sw]
  congr 1
  ·congr 1;funext x;cases x<;>first|rfl|simp only[dQ,dY,fh,pE]
  ·congr 1;funext x D;cases x<;>first|rfl|simp only[pE]
 |_=>rfl
theorem asR{a R:Type}(t:Ty)(e:Nat)(x y:TV)(j:TV->TS->Option a)(K:a->Option R):(B2 C t e x y s j).bind K=B2 C t e x y s λv s=>(j v s).bind K:=by
 simp only[B2,afI]
 congr 1;funext d A s
 cases x with
 |vw p D=>
  simp only[pH]
  congr 1;funext u
  cases u<;>first|rfl|simp only[pE,fh,dQ,dY,Xw]
 |nil=>simp only[fh]
 |gU=>simp only[fh]
 |eM E F=>simp only[pE,fh]
 |_=>rfl
theorem afJ{e R:Type}(fs:List (Nat×Nat)):∀(ps:List (Nat×Operand))(z:List TV)(s:TS)(a:List TV->TS->Option e)(K:e->Option R),(fill C fs ps z s a).bind K=fill C fs ps z s λvs s=>(a vs s).bind K
 |[],_,_,_,_=>rfl
 |(i,x)::ps,z,s,a,K=>by
  simp only[fill];cases pN fs i with
  |none=>rfl
  |some q=>simp only[dQ,dY,HW,afJ fs ps]
theorem WM{e R:Type}(t:Ty)(sz:Nat):∀(ps:List (Nat×Operand))(n:Nat)(s:TS)(a:Bool->List (El t)->TS->Option e)(K:e->Option R),(Br C t sz ps n s a).bind K=Br C t sz ps n s λd vs s=>(a d vs s).bind K
 |[],_,_,_,_=>rfl
 |(i,x)::ps,n,s,a,K=>by simp only[Br,dQ,dY,HW,Bz,WM t sz ps]
theorem aq9{e R:Type}:∀(a:List Ty)(vs:List TV)(j:tp a->Option e)(K:e->Option R),(lD s a vs j).bind K=lD s a vs λx=>(j x).bind K:=by
 intro a vs j K;induction a generalizing vs e with
 |nil=>cases vs<;>(simp only[lD];try rfl)
 |cons t a u=>
  cases vs with
  |nil=>simp only[lD];rfl
  |cons v vs=>
   cases v with
   |ip y c=>
    cases c with
    |zero=>simp only[lD,Bz,u]
    |succ n=>simp only[lD];rfl
   |ptr k c=>
    cases c with
    |zero=>simp only[lD];cases s.box k<;>first|rfl|simp only[Bz,u]
    |succ n=>simp only[lD];rfl
   |_=>simp only[lD];rfl
theorem apD{a R:Type}(v:TV)(e:TV->Option a)(K:a->Option R):(zc C s v e).bind K=zc C s v λx=>(e x).bind K:=by
 cases v with
 |vw p t=>simp only[zc,pH];congr 1;funext x;cases x<;>rfl
 |sl p t lo hi=>simp only[zc,pH];congr 1;funext x;cases x<;>first|rfl|simp only[dQ,dY,fh]
 |_=>rfl
theorem aet{e R:Type}:∀(vs:List TV)(a:List TV->Option e)(K:e->Option R),(D7 C s vs a).bind K=D7 C s vs λx=>(a x).bind K
 |[],_,_=>rfl
 |v::vs,a,K=>by simp only[D7,apD,aet vs]
theorem ara{e R:Type}(km mv:Bool)(vs:List TV)(j:List TV->TS->Option e)(K:e->Option R):(BN C km mv vs s j).bind K=BN C km mv vs s λa b=>(j a b).bind K:=by
 simp only[BN,dQ,HW,aet]
theorem asS{x R:Type}(km:Bool)(p:bO)(v:TV)(y:p.T->(p.O->TS->TS)->TS->Option x)(K:x->Option R):(arg C km p v s y).bind K=arg C km p v s λa b c=>(y a b c).bind K:=by
 cases p with
 |val q=>
  cases v with
  |vec t e=>simp only[arg];cases q.dec (.vec t e)<;>rfl
  |_=>simp only[arg,ara];congr 1;funext a b;cases q.dec (xG _ a)<;>rfl
 |pb t m D=>
  simp only[arg];split
  ·rename_i k;cases s.box k<;>first|rfl|simp only[dQ,dY,Bz]
  ·rfl
 |pr t=>
  simp only[arg];split
  ·rename_i k t0 i;cases s.slot k with
   |own d j e=>cases d<;>first|rfl|simp only[dQ,dY,pE,fh]
   |_=>rfl
  ·rename_i k c t0 i;cases s.box k with
   |cells u=>
    simp only[];cases nth u c with
    |own d j e=>cases d<;>first|rfl|simp only[dQ,dY,pE,fh]
    |_=>rfl
   |_=>rfl
  ·rfl
 |mu t=>
  simp only[arg];split
  ·rename_i k A;cases s.slot k with
   |own d j e=>cases d<;>first|rfl|simp only[pE]
   |_=>rfl
  ·rename_i k c A;cases s.box k with
   |cells u=>
    simp only[];cases nth u c with
    |own d j e=>cases d<;>first|rfl|simp only[pE]
    |_=>rfl
   |_=>rfl
  ·rfl
 |bd=>
  simp only[arg];split
  ·rename_i k;cases s.box k<;>rfl
  ·rfl
 |rp t=>
  simp only[arg];split
  ·simp only[Bz]
  ·rfl
 |fn g E=>
  simp only[arg];split
  ·simp only[dQ,dY,aq9]
  ·rfl
theorem afK{j R:Type}(km:Bool):∀(ps:List bO)(vs:List TV)(s:TS)(e:qJ ps->(pV ps->TS->TS)->TS->Option j)(K:j->Option R),(args C km ps vs s e).bind K=args C km ps vs s λa b c=>(e a b c).bind K
 |[],[],s,_,_=>rfl
 |[],_::_,s,_,_=>by simp only[args];rfl
 |_::_,[],s,_,_=>by simp only[args];rfl
 |p::ps,v::vs,s,e,K=>by
  simp only[args,dQ,dY,asS]
  congr 1;congr 1;funext x y u
  exact afK km ps vs u _ K
theorem apE{j R:Type}(g:Nat)(vs:List TV)(e:Option Nat)(u:TS->Option j)(K:j->Option R):(HR C g vs s e u).bind K=HR C g vs s e λx=>(u x).bind K:=by
 simp only[HR];cases C.fn g (Bc vs) with
 |none=>rfl
 |some c=>
  simp only[dQ,dY,afK,fh]
  congr 1;congr 1;funext a y A;congr 1;funext x
  cases BO C e c.rs (c.back x).1 (y (c.back x).2 A)<;>rfl
theorem arb{u R:Type}(o:Oper)(A:TS->Option u)(K:u->Option R):(Ev.step C o s A).bind K=Ev.step C o s λx=>(A x).bind K:=by
 unfold Ev.step;cases o.op with
 |move x=>rfl
 |assign x=>
  simp only[];cases aU C s x<;>(cases o.dst<;>first|rfl|simp only[dQ,dY,Sw])
 |pick c a b=>
  simp only[];cases aU C s c<;>first|rfl|simp only[asI]
 |alloc t=>
  simp only[];cases o.dst with
  |none=>rfl
  |some d=>
   simp only[];cases s.box d<;>(try rfl);simp only[];cases C.aR t<;>rfl
 |box t x=>
  simp only[];cases o.dst with
  |none=>rfl
  |some d=>
   simp only[];cases s.box d<;>(try rfl);simp only[];cases aU C s x<;>first|rfl|simp only[HW]
 |build t ps=>
  simp only[];cases C.aR t with
  |st _ _ fs=>simp only[afJ]
  |ar n e=>simp only[WM,dQ,dY]
  |_=>rfl
 |buildSlice t n ps=>
  simp only[];cases C.aR t<;>first|rfl|simp only[dQ,dY,WM]
 |load t a=>simp only[dQ,dY,asJ]
 |store t a x=>simp only[dQ,dY,asQ]
 |nilCheck x=>simp only[afG]
 |binOp op t x y E=>simp only[dQ,dY,asN]
 |unOp op t x=>simp only[asO]
 |fieldAddr t x j=>
  simp only[];cases C.aR t<;>(try rfl);simp only[];rename_i fs;cases pN fs j<;>first|rfl|simp only[afG]
 |indexAddr t x i=>simp only[dQ,dY,asK]
 |index t x i=>
  simp only[dQ,dY]
  congr 1
  split
  ·simp only[fh]
  ·simp only[fh,dQ,dY]
  ·rfl
 |field t x j=>
  simp only[];split
  ·rename_i fs _ _;cases pN fs j<;>first|rfl|simp only[dQ,dY]
  ·rfl
 |extract x i=>
  cases x with
  |tmp k=>
   simp only[];cases s.slot k<;>(try rfl);rename_i vs;simp only[dQ,dY]
   congr 1
   cases BP (nth vs i)<;>rfl
  |_=>rfl
 |convert src D x=>
  simp only[dQ,dY]
  congr 1
  split
  ·rfl
  ·rfl
  ·simp only[fh]
  ·simp only[dQ,dY,pH]
   congr 1;congr 1;funext v
   cases dN (.int .u8) v<;>rfl
  ·simp only[dQ,dY,pH]
   congr 1;congr 1;funext v
   cases dN (.int .u8) v<;>first|rfl|simp only[dQ,dY,fh]
  ·rename_i v _ _ _ _;simp only[dQ,dY]
   congr 1
   cases dN (.int .u8) _<;>rfl
  ·rfl
 |slice t x lo hi mx=>simp only[dQ,dY,asP]
 |makeSlice t l c=>
  simp only[];split
  ·simp only[fh]
  ·rfl
 |makeFunc f first cap=>
  cases f with
  |func g=>simp only[dQ,dY]
  |_=>rfl
 |makeInterface t x=>
  simp only[];cases C.aR t<;>rfl
 |call c=>
  simp only[];cases c.callee with
  |value x=>
   simp only[];cases aU C s x<;>first|rfl|simp only[dQ,dY,apE]
  |invoke r m=>rfl
  |builtin b=>
   simp only[];split
   ·simp only[dQ,dY,aq8]
   ·split
    ·simp only[asR]
    ·rfl
   ·split<;>rfl
   ·split<;>rfl
   ·rfl
 |_=>rfl
theorem anP{R:Type}{r:R}{o:Oper}{K:TS->Option R}(h:Ev.step C o s K=some r):∃a,Ev.step C o s some=some a/\K a=some r:=by
 have e:=arb (C:=C) (s:=s) o some K;simp only[Lx] at e;rw[<-e] at h;cases j:Ev.step C o s some with
 |none=>rw[j] at h;simp at h
 |some a=>rw[j] at h;exact⟨a,rfl,h⟩
end
end
def kp:Fl->aZ->Prop|.l,_=>False|.s,a=>∃x:Int×Nat,a=[x]/\x.2<64|.d,_=>True
def rO:List Fl->Nat->Fl|[],_=>.l|f::_,0=>f|_::fs,j+1=>rO fs j
theorem KK:∀(m:List Fl)(a:List TV)(j:Nat),(jC m a)[j]?=(a[j]?).map (zK (rO m j))
 |[],a,j=>by
  simp only[jC,rO];cases a[j]? with
  |none=>rfl
  |some x=>cases x<;>rfl
 |f::fs,[],j=>by simp[jC]
 |f::fs,c::a,0=>by simp[jC,rO]
 |f::fs,c::a,j+1=>by simp only[jC,rO,akv];exact KK fs a j
theorem KL:∀(m:List Fl)(a:List TV),(jC m a).length=a.length
 |[],a=>rfl
 |f::fs,[]=>rfl
 |f::fs,c::a=>by simp[jC,KL fs a]
theorem aeu:∀{m:List Fl}{cs:List TV}{j:Nat}{e:TV},okF m cs=true->cs[j]?=some e->rM (rO m j) e=true
 |[],cs,j,e,_,_=>by simp[rO,rM]
 |f::fs,[],j,e,_,h=>by simp at h
 |f::fs,c::cs,0,e,a,h=>by
  simp only[okF] at a;simp at h;subst h;simp only[rO];cases u:rM f c with
  |true=>rfl
  |false=>rw[u] at a;simp at a
 |f::fs,c::cs,j+1,e,a,h=>by
  simp only[okF] at a;cases u:rM f c with
  |true=>rw[u,aF] at a;exact aeu (m:=fs) (cs:=cs) a (by simpa using h)
  |false=>rw[u] at a;simp at a
theorem Kj{f:Fl}{a:TV}(h:bC a=true):bC (zK f a)=true:=by
 cases f<;>cases a<;>simp_all [zK,bC]
structure Tn(c c':Rc)(K:aZ->Prop)(q:Rt)(p:aZ)(q':Rt)(p':aZ):Prop where
 dq:∀b π,c.γ b=.at q (p++π)->K π->c'.γ b=.at q' (p'++π)
 ku:∀b π,c.γ b=.at q (p++π)->¬ K π->c'.γ b=.im
 heap:∀b π,c.γ b=.at q (p++π)->c'.w.heap[b]?=c.w.heap[b]?
def kx(c a:Rc):Prop:=∀b,c.γ b=.im->a.γ b=.im/\a.w.heap[b]?=c.w.heap[b]?
theorem Tn.sub{c e:Rc}{K j:aZ->Prop}{q u:Rt}{p p':aZ}(h:Tn c e K q p u p')(x:Int×Nat)(y:∀a,K (x::a)↔j a):Tn c e j q (p++[x]) u (p'++[x]) where
 dq b a hb hK:=by
  have:=h.dq b (x::a) (by simpa using hb) ((y a).2 hK);simpa using this
 ku b a hb hK:=h.ku b (x::a) (by simpa using hb) (λA=>hK ((y a).1 A))
 heap b a hb:=h.heap b (x::a) (by simpa using hb)
theorem Rd.all{c c':Rc}{q a:Rt}{p e:aZ}{j:TV}{v:Value}(h:Rd c (some (q,p)) j v)(u:bC j=true)(E:kx c c')(y:Tn c c' (λ_=>True) q p a e):Rd c' (some (a,e)) j v:=
 h.mono _ E (λH I A=>by
  simp only[aQ,cZ] at A
  obtain⟨rfl,rfl⟩:=A
  exact⟨a,e,rfl,λb C D=>⟨y.dq b C D trivial,y.heap b C D⟩⟩) (λk F=>absurd F (lQ u k)) (λr x=>absurd x (fH u r)) (λr x=>absurd x.mv (fH u r))
theorem Rd.YR{c a:Rc}{q:Rt}{p:aZ}{q':Rt}{p':aZ}{e:TV}{v:Value}(h:Rd c (some (q,p)) e v)(A:bC e=true)(C:kx c a)(j:Tn c a (λ_=>False) q p q' p')(m:Option Gp):Rd a m (kH e) v:=
 (h.ku A C (λD E u b x y=>by
   simp only[aQ,cZ] at u
   obtain⟨rfl,rfl⟩:=u
   exact⟨j.ku b x y (λh=>h),j.heap b x y⟩)).lift m
open Classical in
noncomputable def vG(c e:Rc)(K:aZ->Prop)(q:Rt)(p:aZ):Nat->G:=λb=>
 if∃a,c.γ b=.at q (p++a)/\K a then c.γ b else if e.γ b=.im then .im else .fr
theorem Vp{c c':Rc}{q q':Rt}{p p':aZ}{f:Fl}{a b:TV}{v:Value}(J:kx c c')(F:Tn c c' (kp f) q p q' p')(H:Cd false a b)(No:iB b=false)(M:rM f a=true)(hp:bC a=true)(h:Rd c (some (q,p)) a v):
  Rd c' (some (q',p')) (zK f b) v:=by
 have Q:∀(t:Ty)(Y:Option Addr),Rd c' (some (q',p')) (zK f (.bJ t [])) (.slice Y 0 0):=λt Y=>by
  cases f
  ·exact .lE _ _ _ _
  ·exact .j6 _ _ _ _
  ·exact .j6 _ _ _ _
 cases a with
 |b x=>
  rcases H with rfl|⟨t,xs,u,_⟩
  ·rw[h.rF];cases f<;>exact .b _ _
  ·simp[dN] at u
 |i k n=>
  rcases H with rfl|⟨t,xs,u,_⟩
  ·rw[h.kU];cases f<;>exact .i _ _ _
  ·simp[dN] at u
 |s x=>
  rcases H with rfl|⟨t,xs,u,_⟩
  ·rw[h.pK];cases f<;>exact .s _ _
  ·simp[dN] at u
 |nil=>
  cases h;rcases H with rfl|⟨t,xs,u,rfl⟩
  ·cases f<;>exact .nil _
  ·simp only[dN,aQ] at u;subst u;exact Q _ _
 |gU=>
  cases h;rcases H with rfl|⟨t,xs,u,rfl⟩
  ·cases f<;>exact .gU _ _
  ·simp only[dN,aQ] at u;subst u;exact Q _ _
 |bJ t xs=>
  cases f with
  |s=>simp[rM] at M
  |d=>simp[rM] at M
  |l=>
   have e:b=.bJ t xs:=by
    rcases H with rfl|⟨N,Z,u,rfl⟩
    ·rfl
    ·rcases uY u with y|y|⟨d,y⟩|⟨y,_⟩|⟨y,_⟩<;>first|(cases y;rfl)|cases y
   subst e;have y:=h.YR (m:=some (q',p')) rfl J ⟨λb A e C=>C.elim,λb A e C=>F.ku b A e (λI=>I),F.heap⟩ (q':=q') (p':=p');exact y
 |eM t xs=>
  cases f with
  |s=>simp[rM] at M
  |d=>simp[rM] at M
  |l=>
   have y:=h.YR (m:=some (q',p')) rfl J ⟨λb A e C=>C.elim,λb A e C=>F.ku b A e (λI=>I),F.heap⟩ (q':=q') (p':=p');rcases H with rfl|⟨N,Z,u,rfl⟩
   ·exact y
   ·rcases uY u with P|P|⟨d,P⟩|⟨P,_⟩|⟨P,_⟩<;>first|(cases P;exact Rd.DT y)|cases P
 |own d t xs=>
  have e:b=.bJ t xs:=by
   rcases H with rfl|⟨N,Z,u,rfl⟩
   ·simp[iB] at No
   ·rcases uY u with y|y|⟨d,y⟩|⟨y,_⟩|⟨y,_⟩<;>first|(cases y;rfl)|cases y
  subst e;cases f with
  |l=>exact h.YR (q':=q') (p':=p') rfl J ⟨λb A e C=>C.elim,λb A e C=>F.ku b A e (λI=>I),F.heap⟩ _
  |d=>
   have hd:Rd c (some (q,p)) (.own true t xs) v:=by
    simp only[rM] at M
    cases gz:flat t with
    |true=>exact h.G6 gz
    |false=>rw[gz,aH] at M;subst M;exact h
   exact hd.all rfl J F
  |s=>
   have u:Rd {c' with γ:=vG c c' (kp .s) q p} (some (q,p)) (.own (flat t) t xs) v:=by
    refine h.yW (λb e=>?_) (λb N e=>?_) (λb r j A hj e=>?_)
    ·refine⟨?_,(J b e).2⟩;show vG c c' (kp .s) q p b=.im;rw[vG,aE (by rintro⟨A,D,_⟩;rw[e] at D;cases D),aD (J b e).1]
    ·refine⟨?_,F.heap b [tg N] e⟩;show vG c c' (kp .s) q p b=_;rw[vG,aD ⟨[tg N],e,tg N,rfl,K9 N⟩];exact e
    ·refine⟨?_,F.heap b ((r,j)::A) e⟩;show vG c c' (kp .s) q p b=_;have R:¬ kp .s ((r,j)::A):=by
      rintro⟨x,hx,S⟩
      simp only[nh] at hx
      obtain⟨rfl,_⟩:=hx
      simp at S;omega
     rw[vG,aE,aD (F.ku b _ e R)]
     ·rintro⟨nA,D,C⟩;rw[e] at D;simp only[G.at.injEq,Am,ayE] at D;subst D;exact R C
   refine u.mono (some (q',p')) (λb e=>?_) (λq1 p1 I=>?_) (λk C=>by cases C) (λr U=>by cases U) (λr U=>by cases U)
   ·have E:vG c c' (kp .s) q p b=.im:=e;refine⟨?_,rfl⟩;unfold vG at E;split at E
    ·exact(J b E).1
    ·split at E
     ·assumption
     ·cases E
   ·simp only[aQ,cZ] at I;obtain⟨rfl,rfl⟩:=I;refine⟨q',p',rfl,λb A e=>⟨?_,rfl⟩⟩;have E:vG c c' (kp .s) q p b=.at q (p++A):=e;unfold vG at E;split at E
    ·rename_i D;obtain⟨nA,D,C⟩:=D;rw[E] at D;simp only[G.at.injEq,Am,ayE] at D;subst D;exact F.dq b _ E C
    ·split at E<;>cases E
 |_=>simp[bC] at hp
theorem VZ{a b:TV}(h:Cd false a b)(e:bC b=true):bC a=true:=by
 rcases h with rfl|⟨t,u,j,_⟩
 ·exact e
 ·rcases uY j with rfl|rfl|⟨d,rfl⟩|⟨rfl,_⟩|⟨rfl,_⟩<;>rfl
def qR:VS->aZ->Prop
 |.el _ m,a=>match a with|[]=>True|x::a=>kp (rO m x.2) a
 |.sl f _,a=>kp f a
 |_,_=>True
theorem O2{t:Ty}{e:List TV}{x:El t}(A:Ev.dec t e=some x){j:Nat}{b:TV}(u:(enc false t x)[j]?=some b):∃a,e[j]?=some a/\Cd false a b:=by
 obtain⟨E,C⟩:=(w7 false A).get;have D:=(da.1 u).1;have y:e[j]?=some (e[j]'(by omega)):=cT _;exact⟨_,y,C j _ _ y u⟩
theorem aby{c C:Rc}{r E:Rt}{p F:aZ}{m:List Fl}{t:Ty}{D:List TV}{x:El t}{vs:List Value}(J:kx c C)(M:∀j,Tn c C (kp (rO m j)) r (p++[(0,j)]) E (F++[(0,j)]))(N:okF m D=true)(P:Ev.dec t D=some x)
  (Q:∀(j:Nat)e v,D[j]?=some e->vs[j]?=some v->Rd c (some (r,p++[(0,j)])) e v){j:Nat}{e:TV}{v:Value}(u:(jC m (enc false t x))[j]?=some e)(R:vs[j]?=some v):Rd C (some (E,F++[(0,j)])) e v/\bC e=true:=by
 rw[KK] at u;cases y:(enc false t x)[j]? with
 |none=>rw[y] at u;simp at u
 |some b=>
  rw[y] at u;simp only[jA,aQ] at u;subst u;obtain⟨a,H,I⟩:=O2 P y;have A:=fg y;exact⟨Vp J (M j) I (vd y) (aeu N H) (VZ I A) (Q j a v H R),Kj A⟩
theorem G8{t:Ty}{m:List Fl}{e:TV}{x:El t}(u:(VS.el t m).dec e=some x):(∃a,e=.agg a/\Ev.fP t=true/\okF m a=true/\Ev.dec t a=some x)\/(Ev.fP t=false/\Ev.dec t [e]=some x/\∀a,e≠.agg a):=by
 have j:(bif Ev.fP t then none else Ev.dec t [e]:Option (El t))=some x->Ev.fP t=false/\Ev.dec t [e]=some x:=λh=>by
  cases A:Ev.fP t with
  |true=>rw[A] at h;simp at h
  |false=>rw[A] at h;exact⟨rfl,h⟩
 cases e with
 |agg a=>
  have h:(bif Ev.fP t then(bif okF m a then Ev.dec t a else none) else none:Option (El t))=some x:=u;obtain⟨C,y⟩:=bQ.1 h;obtain⟨y,D⟩:=bQ.1 y;exact .inl ⟨a,rfl,C,y,D⟩
 |_=>exact .inr ⟨(j u).1,(j u).2,by simp⟩
theorem Le{t:Ty}{m:List Fl}{x:(VS.el t m).T}:(VS.el t m).enc x=(if Ev.fP t=true then .agg (jC m (enc false t x)) else nth (enc false t x) 0):=by
 have h:(VS.el t m).enc x=bif Ev.fP t then .agg (jC m (enc false t x)) else nth (enc false t x) 0:=rfl;rw[h];cases Ev.fP t<;>rfl
theorem KM{f:Fl}{t:Ty}{a:TV}{x:List (El t)}(e:(VS.sl f t).dec a=some x):rM f a=true/\dN t a=some x:=by
 have h:(bif rM f a then dN t a else none:Option (List (El t)))=some x:=e;exact bQ.1 h
theorem Kl{t:Ty}{a:TV}{x:List (El t)}(e:(VS.eM t).dec a=some x):a=.eM t x:=by
 cases a with
 |eM j u=>
  have h:(if h:j=t then some (ki h u) else none:Option (List (El t)))=some x:=e;split at h
  ·rename_i y;subst y;simp only[ki,aQ] at h;rw[h]
  ·simp at h
 |_=>have h:(none:Option (List (El t)))=some x:=e;simp at h
theorem GX{t:Ty}{a:TV}{x:List (El t)}(e:(VS.vec t).dec a=some x):a=.vec t x:=by
 cases a with
 |vec j u=>
  have h:(if h:j=t then some (ki h u) else none:Option (List (El t)))=some x:=e;split at h
  ·rename_i y;subst y;simp only[ki,aQ] at h;rw[h]
  ·simp at h
 |_=>have h:(none:Option (List (El t)))=some x:=e;simp at h
theorem G9{a:TV}{x:Bool}(e:VS.er.dec a=some x):a=.er x\/(a=.mY/\x=false):=by
 cases a with
 |er y=>have h:(some y:Option Bool)=some x:=e;simp at h;exact .inl (by rw[h])
 |mY=>have h:(some false:Option Bool)=some x:=e;simp at h;exact .inr ⟨rfl,h⟩
 |_=>have h:(none:Option Bool)=some x:=e;simp at h
theorem ab6{t:Ty}{a:TV}{v:Value}{x:El t}{c c':Rc}{m m':Option Gp}(u:Ev.fP t=false)(y:Ev.dec t [a]=some x)(h:Rd c m a v):Rd c' m' (nth (enc false t x) 0) v/\bC a=true/\bC (nth (enc false t x) 0)=true:=by
 obtain⟨A,j⟩:=(w7 false y).get;cases t<;>simp[Ev.fP] at u
 ·have h0:=j 0 a _ rfl rfl;rcases h0 with rfl|⟨_,_,_,e⟩
  ·rw[h.rF];exact⟨.b _ _,rfl,rfl⟩
  ·simp[sc] at e
 ·have h0:=j 0 a _ rfl rfl;rcases h0 with rfl|⟨_,_,_,e⟩
  ·rw[h.kU];exact⟨.i _ _ _,rfl,rfl⟩
  ·simp[sc] at e
 ·have h0:=j 0 a _ rfl rfl;rcases h0 with rfl|⟨_,_,_,e⟩
  ·rw[h.pK];exact⟨.s _ _,rfl,rfl⟩
  ·simp[sc] at e
theorem ve{c E:Rc}{r J:Rt}{p M:aZ}{q:VS}{a:TV}{v:Value}{x:q.T}(F:kx c E)(H:Tn c E (qR q) r p J M)(e:q.dec a=some x)(h:Rd c (some (r,p)) a v):Rd E (some (J,M)) (q.enc x) v:=by
 cases q with
 |el t m=>
  rcases G8 e with⟨cs,rfl,A,I,e⟩|⟨A,e,_⟩
  ·rw[Le,aD A];cases h with
   |agg _ _ vs Z N P Q=>
    obtain⟨C,_⟩:=(w7 false e).get;have D:=λ(j:Nat)a v(u:(jC m (enc false t x))[j]?=some a)(y:vs.toList[j]?=some v)=>aby F (λj=>H.sub (0,j) (λπ=>Oo)) I e (vs:=vs.toList) (λj a v u y=>Q j a v u (by simpa using y)) u y;have R:vs.size=(jC m (enc false t x)).length:=by rw[KL,N,C]
    have val:∀(j:Nat)a,(jC m (enc false t x))[j]?=some a->∃v,vs.toList[j]?=some v:=λj a u=>by
     have:=(da.1 u).1
     exact⟨_,cT (by simp;omega)⟩
    refine .agg _ _ _ (λa S=>?_) R (λj a v u y=>?_) (λj a v u y=>(D j a v u (by simpa using y)).1)
    ·obtain⟨j,u⟩:=Oq.1 S;obtain⟨v,y⟩:=val j a u;exact GW (D j a v u y).2
    ·have U:j<cs.length:=by
       have:=(da.1 u).1
       omega
     exact P j _ v (cT U) y
  ·rw[Le,aE (by simp[A])];exact(ab6 A e h).1
 |sl f t=>
  obtain⟨I,e⟩:=KM e;have Y:bC a=true:=by rcases uY e with rfl|rfl|⟨d,rfl⟩|⟨rfl,_⟩|⟨rfl,_⟩<;>rfl
  exact Vp F H (.inr ⟨t,x,e,rfl⟩) rfl I Y h
 |eM t=>
  have:=Kl e;subst this;exact h.all rfl F H
 |vec t=>
  have:=GX e;subst this;cases h with
  |vec _ _ _ A=>exact .vec _ _ _ A
 |er=>
  rcases G9 e with rfl|⟨rfl,rfl⟩
  ·cases h with
   |vP _ t x=>exact .vP _ _ _
   |vQ=>exact .vQ _
  ·cases h;exact .vQ _
theorem Hz(q:VS)(x:q.T):ik (q.enc x)=true/\∀k,¬ MB k (q.enc x):=by
 have u:∀{tv:TV},bC tv=true->ik tv=true/\∀k,¬ MB k tv:=λ{tv}h=>⟨by cases tv<;>simp_all [bC,ik,eE],λk=>lQ h k⟩;cases q with
 |el t m=>
  rw[Le];cases A:Ev.fP t with
  |true=>
   rw[aD rfl];refine⟨?_,λk e=>by cases e⟩;simp only[ik,jJ];intro tv C;obtain⟨j,a⟩:=Oq.1 C;rw[KK] at a;cases y:(enc false t x)[j]? with
   |none=>rw[y] at a;simp at a
   |some b=>rw[y] at a;simp only[jA,aQ] at a;subst a;simp[eE,Kj (fg y)]
  |false=>cases t<;>simp[Ev.fP] at A<;>exact u rfl
 |sl f t=>exact u (Kj rfl)
 |eM t=>exact u rfl
 |vec t=>exact⟨rfl,λk e=>by cases e⟩
 |er=>exact⟨rfl,λk e=>by cases e⟩
def xw(c:Rc)(q:Rt)(b:Nat)(u:List TV):Prop:=∃vs e fr,c.w.heap[b]?=some (.cells vs e fr)/\zp vs.size fr/\c.γ b=.at q []/\vs.size=u.length/\(∀a∈u,j1 a=true)/\∀(j:Nat)a v,u[j]?=some a->vs[j]?=some v->v.oneCell'=true/\Rd c (some (q,[(0,j)])) a v
def asT(c:Rc)(q:Rt)(b:Nat)(t:Ty)(a:List (El t)):Prop:=∃vs e fr,c.w.heap[b]?=some (.cells vs e fr)/\zp vs.size fr/\c.γ b=.at q []/\Ev.fP t=false/\vs.toList=a.map (ka t)
theorem aev{c a:Rc}{q e:Rt}{x:aj}{v:Value}(h:xu c.γ c.w q x v)(j:Tn c a (λ_=>True) q [] e []):xu a.γ a.w e x v:=h.move λg u=>⟨j.dq g _ u trivial,j.heap g _ u⟩
def BA(c:Rc)(q:Rt)(b:Nat)(x:aj):Prop:=∃p v,c.w.heap[b]?=some (.cells #[p,v] LY (0,0))/\c.γ b=.at q []/\(p=.pointer none\/p=.pointer (some ⟨b,0,none⟩))/\xu c.γ c.w q x v
def Sx(c:Rc)(q:Rt)(b:Nat):BC->Prop|.none=>True|.cells a=>xw c q b a|.vec t e=>asT c q b t e|.iG x=>BA c q b x
theorem yU{c:Rc}{k:Nat}{u:BC}:xI c k u↔Sx c (.box k) (c.bx k) u:=by cases u<;>exact Oo
def wi:fS->aZ->Prop
 |.st _ m,a=>match a with|[]=>True|x::a=>kp (rO m x.2) a
 |.one s,a=>match a with|[]=>True|_::a=>qR s a
 |_,_=>True
theorem arc{a b:TV}(h:Ix a b=true):a=b:=by
 unfold Ix at h;split at h
 ·rfl
 ·rename_i k n e j
  by_cases u:k=e<;>by_cases x:n=0<;>by_cases y:j=0<;>simp_all
 ·rfl
 ·rfl
 ·simp at h
theorem aew:∀{as e:List TV},vC as e=true->as=e
 |[],[],_=>rfl
 |[],_::_,h=>by simp[vC] at h
 |_::_,[],h=>by simp[vC] at h
 |a::as,b::e,h=>by
  simp only[vC] at h;cases hz:Ix a b with
  |false=>rw[hz] at h;simp at h
  |true=>rw[hz,aF] at h;rw[arc hz,aew h]
theorem anQ{q:VS}{x:q.T}{e:TV}{c:Rc}{m:Option Gp}{v:Value}(a:q.dec e=some x)(j:j1 e=true)(h:Rd c m e v):j1 (q.enc x)=true:=by
 cases q with
 |el t m=>
  rcases G8 a with⟨y,rfl,_,_,_⟩|⟨u,a,_⟩
  ·simp[j1,eE,bC] at j
  ·rw[Le,aE (by simp[u])];exact uU (ab6 (c':=c) (m':=none) u a h).2.2
 |sl f t=>exact uU (Kj rfl)
 |eM t=>exact uU rfl
 |vec t=>have:=GX a;subst this;simp[j1,eE,bC] at j
 |er=>rcases G9 a with rfl|⟨rfl,_⟩<;>simp[j1,eE,bC] at j
theorem apF{t:Ty}{m:List Fl}{u:BC}{x:El t}(e:sX (.st t m) u=some x):∃a,u=.cells a/\okF m a=true/\Ev.dec t a=some x:=by
 cases u with
 |cells a=>
  have h:(bif okF m a then Ev.dec t a else none:Option (El t))=some x:=e;obtain⟨j,y⟩:=bQ.1 h;exact⟨a,rfl,j,y⟩
 |_=>have h:(none:Option (El t))=some x:=e;simp at h
theorem anR{s:VS}{u:BC}{x:s.T}(a:sX (.one s) u=some x):∃e,u=.cells [e]/\s.dec e=some x:=by
 cases u with
 |cells j=>
  match j,a with
  |[e],a=>exact⟨e,rfl,a⟩
  |[],a=>have h:(none:Option s.T)=some x:=a;simp at h
  |_::_::_,a=>have h:(none:Option s.T)=some x:=a;simp at h
 |_=>have h:(none:Option s.T)=some x:=a;simp at h
theorem anS{t:Ty}{u:BC}{x:List (El t)}(a:sX (.vec t) u=some x):u=.vec t x:=by
 cases u with
 |vec e j=>
  have h:(if h:e=t then some (ki h j) else none:Option (List (El t)))=some x:=a;split at h
  ·rename_i y;subst y;simp only[ki,aQ] at h;rw[h]
  ·simp at h
 |_=>have h:(none:Option (List (El t)))=some x:=a;simp at h
theorem apG{a:List TV}{u:BC}{x:Unit}(e:sX (.zr a) u=some x):u=.cells a/\vC a a=true:=by
 cases u with
 |cells y=>
  have h:(bif vC a y then some () else none:Option Unit)=some x:=e;obtain⟨j,_⟩:=bQ.1 h;have:=aew j;subst this;exact⟨rfl,j⟩
 |_=>have h:(none:Option Unit)=some x:=e;simp at h
theorem anT{u:BC}{x:aj}(a:sX .iG u=some x):u=.iG x:=by
 cases u with
 |iG y=>have h:(some y:Option aj)=some x:=a;simp at h;rw[h]
 |_=>have h:(none:Option aj)=some x:=a;simp at h
theorem alR:∀{as j:List TV},vC as j=true->∀x∈as,bC x=true:=by
 intro as;induction as with
 |nil=>intro j _ x u;simp at u
 |cons a as y=>
  intro j hz x u;cases j with
  |nil=>simp[vC] at hz
  |cons b j=>
   simp only[vC] at hz;cases e:Ix a b with
   |false=>rw[e] at hz;simp at hz
   |true=>
    rw[e,aF] at hz;rcases cO.1 u with rfl|u
    ·unfold Ix at e;split at e<;>first|rfl|simp at e
    ·exact y hz x u
theorem QZ{c c':Rc}{r R:Rt}{b:Nat}{q:fS}{u:BC}{x:q.T}(Q:kx c c')(A:Tn c c' (wi q) r [] R [])(E:sX q u=some x)(h:Sx c r b u):Sx c' R b (H6 q x):=by
 cases q with
 |st t m=>
  obtain⟨cs,rfl,U,E⟩:=apF E;obtain⟨vs,e,fr,H,I,C,F,J,h6⟩:=h;obtain⟨N,_⟩:=(w7 false E).get;have P:=λ(j:Nat)y v(a:(jC m (enc false t x))[j]?=some y)(D:vs.toList[j]?=some v)=>aby Q (λj=>A.sub (0,j) (λS=>Oo)) U E (vs:=vs.toList) (p:=[]) (λj y v a D=>(h6 j y v a (by simpa using D)).2) a D;have val:∀(j:Nat)y,(jC m (enc false t x))[j]?=some y->∃v,vs.toList[j]?=some v:=λj y a=>by
   have:=(da.1 a).1
   rw[KL] at this
   exact⟨_,cT (by simp;omega)⟩
  refine⟨vs,e,fr,(A.heap b [] C).trans H,I,A.dq b [] C trivial,(by rw[KL,F,N]:vs.size=(jC m (enc false t x)).length),λy M=>?_,λj y v a D=>⟨?_,(P j y v a (by simpa using D)).1⟩⟩
  ·obtain⟨j,a⟩:=Oq.1 M;obtain⟨v,D⟩:=val j y a;exact uU (P j y v a D).2
  ·have Y:j<cs.length:=by
     have:=(da.1 a).1
     rw[KL] at this
     omega
   exact(h6 j _ v (cT Y) D).1
 |one s=>
  obtain⟨y,rfl,E⟩:=anR E;obtain⟨vs,e,fr,H,I,C,F,J,h6⟩:=h;have Z:vs[0]?=some (vs[0]'(by rw[F];simp)):=jX _;refine⟨vs,e,fr,(A.heap b [] C).trans H,I,A.dq b [] C trivial,F,λbP M=>?_,λj bP v a D=>?_⟩
  ·have M:bP∈[s.enc x]:=M;rw[fe] at M;subst M;exact anQ E (J y (by simp)) (h6 0 y _ rfl Z).2
  ·have a:[s.enc x][j]?=some bP:=a;cases j with
   |zero=>
    simp only[tU,aQ] at a;subst a;obtain⟨h7,h8⟩:=h6 0 y v rfl D;exact⟨h7,ve Q (A.sub (p:=[]) (p':=[]) (0,0) (λS=>Oo)) E h8⟩
   |succ j=>simp at a
 |vec t=>
  have:=anS E;subst this;obtain⟨vs,e,fr,H,I,C,F⟩:=h;exact⟨vs,e,fr,(A.heap b [] C).trans H,I,A.dq b [] C trivial,F⟩
 |zr cs=>
  obtain⟨rfl,hz⟩:=apG E;obtain⟨vs,e,fr,H,I,C,F,J,h6⟩:=h;exact⟨vs,e,fr,(A.heap b [] C).trans H,I,A.dq b [] C trivial,F,J,λj y v a D=>⟨(h6 j y v a D).1,(h6 j y v a D).2.all (alR hz y (dH a)) Q (A.sub (p:=[]) (p':=[]) (0,j) (λS=>Oo))⟩⟩
 |iG=>
  have:=anT E;subst this;obtain⟨p,v,H,C,F,J⟩:=h;exact⟨p,v,(A.heap b [] C).trans H,A.dq b [] C trivial,F,aev J A⟩
section
def ta{a:Type}(k:Nat):List (Nat×a)->Option a
 |[]=>none
 |p::ps=>if p.1=k then some p.2 else ta k ps
def kpL:ey->aZ->Prop|.val s,a=>qR s a|_,_=>True
def Tu(sl:Nat->Option ey)(bx:Nat->Option fS):Rt->aZ->Prop|.slot k,p=>∀s,sl k=some s->kpL s p|.box k,p=>∀s,bx k=some s->wi s p|.aw _,_=>True
open Classical in
noncomputable def nK(γ:Nat->G)(sl:Nat->Option ey)(bx:Nat->Option fS):Nat->G:=λb=>
 match γ b with
 |.at q p=>if Tu sl bx q p then .at q p else .im
 |x=>x
section
variable{γ:Nat->G}{sl:Nat->Option ey}{bx:Nat->Option fS}{b:Nat}{q:Rt}{p:aZ}
theorem V0(h:γ b=.im):nK γ sl bx b=.im:=by unfold nK;rw[h]
theorem ada(h:γ b=.fr):nK γ sl bx b=.fr:=by unfold nK;rw[h]
theorem O3(h:γ b=.at q p)(a:Tu sl bx q p):nK γ sl bx b=.at q p:=by unfold nK;rw[h];simp only[];rw[aD a]
theorem Vq(h:γ b=.at q p)(a:¬ Tu sl bx q p):nK γ sl bx b=.im:=by unfold nK;rw[h];simp only[];rw[aE a]
theorem anU(h:γ b=.at q p):nK γ sl bx b=.im\/nK γ sl bx b=.at q p:=by
 by_cases a:Tu sl bx q p
 ·exact .inr (O3 h a)
 ·exact .inl (Vq h a)
theorem aex(s:fS):wi s []:=by cases s<;>trivial
theorem anV{w:World}(a:∀b,w.heap.size<=b->γ b=.fr):bw (λ_ _=>True) γ w (nK γ sl bx) w:=⟨λb h=>⟨V0 h,rfl⟩,λb q p h hx=>absurd trivial hx,λb _ h=>⟨ada h,rfl⟩,iI _,λb h=>ada (a b h),rfl,rfl,rfl⟩
end
section
variable{C:Cx}{E:Env}{s:TS}{g:Gs}{w:World}{sl:Nat->Option ey}{bx:Nat->Option fS}
theorem Q0:∀(p:Pl),VO (g.rc C w) p->VO (Gs.rc C {g with γ:=nK g.γ sl bx} w) p
 |.slot _,_=>trivial
 |.cell k c,h=>by
  have j:g.γ (g.bx k)=.at (.box k) []:=h;exact O3 j (λs _=>aex s)
 |.sub p t _ _,h=>by
  refine⟨Q0 p h.1,λb o len cap u=>?_⟩;rcases h.2 b o len cap u with a|a
  ·have e:g.γ b=.im:=a;exact .inl (V0 e)
  ·have e:g.γ b=.at (gp p).1 ((gp p).2++[tg t]):=a;exact anU e
theorem V1:kx (g.rc C w) (Gs.rc C {g with γ:=nK g.γ sl bx} w):=λb h=>⟨V0 h,rfl⟩
theorem apH{k:Nat}{sh:VS}(e:sl k=some (.val sh)):Tn (g.rc C w) (Gs.rc C {g with γ:=nK g.γ sl bx} w) (qR sh) (.slot k) [] (.slot k) [] where
 dq b u a hk:=O3 a (λs j=>by rw[e] at j;cases j;exact hk)
 ku b u a hk:=Vq a (λx=>hk (x _ e))
 heap _ _ _:=rfl
theorem ard{k:Nat}{sh:fS}(e:bx k=some sh):Tn (g.rc C w) (Gs.rc C {g with γ:=nK g.γ sl bx} w) (wi sh) (.box k) [] (.box k) [] where
 dq b u a hk:=O3 a (λs j=>by rw[e] at j;cases j;exact hk)
 ku b u a hk:=Vq a (λx=>hk (x _ e))
 heap _ _ _:=rfl
theorem V2{c c':Rc}(S:kx c c'){m:Option Gp}{tm':Option Gp}:∀{u:List Ty}{vs:List TV}{x:tp u},tu u vs=some x->(kM u x).length=vs.length/\(∀e∈kM u x,rW e=true/\∃y,e=.ip y 0)/\∀(j:Nat)e N v,vs[j]?=some e->(kM u x)[j]?=some N->Rd c none e v->Rd c' none N v
 |[],[],x,_=>⟨rfl,by simp[kM],by simp⟩
 |[],_::_,x,h=>by simp[tu] at h
 |t::u,[],x,h=>by simp[tu] at h
 |t::u,v0::vs,x,h=>by
  have U:∃y D F,v0=.ip y 0/\Ev.dec t y=some D/\tu u vs=some F/\x=(D,F):=by
   cases v0 with
   |ip y n=>
    cases n with
    |zero=>
     simp only[tu] at h
     cases A:Ev.dec t y with
     |none=>rw[A] at h;simp at h
     |some D=>
      cases hi:tu u vs with
      |none=>rw[A,hi] at h;simp at h
      |some F=>rw[A,hi] at h;exact⟨y,D,F,rfl,A,rfl,(gB h).symm⟩
    |succ n=>simp[tu] at h
   |_=>simp[tu] at h
  obtain⟨y,D,F,rfl,A,hi,rfl⟩:=U;obtain⟨h1,h2,h3⟩:=V2 S (m:=m) (tm':=tm') hi;refine⟨by simp[kM,h1],λe P=>?_,λj e N v Y Z Q=>?_⟩
  ·simp only[kM,cO] at P;rcases P with rfl|P
   ·exact⟨by simp only[rW,jJ];exact Dv _ _ _,_,rfl⟩
   ·exact h2 e P
  ·cases j with
   |succ j=>exact h3 j e N v (by simpa using Y) (by simpa[kM] using Z) Q
   |zero=>
    simp only[tU,aQ] at Y;simp only[kM,tU,aQ] at Z;subst Y;subst Z;cases Q with
    |ip _ _ _ b o f H hg hc Q=>
     obtain⟨aa,hh⟩:=S b hg;refine .ip _ _ _ _ _ f (Dv _ _ _) aa (λi e hi=>?_) (λi e hi=>?_)
     ·obtain⟨a,R,_⟩:=O2 A hi;rw[mN hh];exact hc i a R
     ·obtain⟨a,R,iZ⟩:=O2 A hi;have I:=Q i a R;have lK:=H a (dH R);have zV:Rd c none e (f i):=by
       cases J:iB a with
       |false=>exact iZ.frozen J I
       |true=>
        obtain⟨d,t',xs,rfl⟩:=A5 J
        rcases I.mR with⟨rfl,ad,hv⟩|⟨q,p,_,_,_,_,_,_,_,hm,_⟩
        ·rw[hv];rcases iZ with h9|⟨t2,ab,h9,rfl⟩
         ·rw[<-h9] at hi;exact absurd (vd hi) (by simp[iB])
         ·rcases uY h9 with M|M|⟨d2,M⟩|⟨M,_⟩|⟨M,_⟩<;>cases M;exact .lE _ _ _ _
        ·cases hm
      exact zV.mono none S (λ_ _ h=>by simp at h) (λk hk=>absurd hk (lQ (fg hi) k)) (λp H=>absurd H (fH (fg hi) p)) (λp H=>absurd H.mv (fH (fg hi) p))
theorem apI(h:Rel C E s g w){k:Nat}{sh:ey}{x:sh.T}(hs:sl k=some sh)(e:Mh sh (s.slot k)=some x):
  Rd (Gs.rc C {g with γ:=nK g.γ sl bx} w) (some (.slot k,[])) (H5 sh x) (g.tm k):=by
 have h0:=h.eK k;cases sh with
 |val q=>exact ve V1 (apH hs) e h0
 |ptr k' c=>
  cases D:s.slot k with
  |ptr k2 c2=>
   rw[D] at e h0;have A:(bif Nat.beq k' k2 then(bif Nat.beq c c2 then some () else none) else none:Option Unit)=some x:=e;obtain⟨F,y⟩:=bQ.1 A;obtain⟨y,_⟩:=bQ.1 y;have H:=gr F;have M:=gr y;subst H;subst M;generalize g.tm k=u at h0⊢;cases h0;exact .ptr _ _ _
  |_=>rw[D] at e;have A:(none:Option Unit)=some x:=e;simp at A
 |vw q t=>
  cases D:s.slot k with
  |vw p J=>
   rw[D] at e h0;have A:(bif Pl.beq q p then(bif decide (J=t) then some () else none) else none:Option Unit)=some x:=e;obtain⟨F,y⟩:=bQ.1 A;obtain⟨y,_⟩:=bQ.1 y;have H:=RH F;have M:J=t:=by simpa using y
   subst H;subst M;generalize g.tm k=u at h0⊢;cases h0 with
   |vw _ _ _ _ N P=>exact .vw _ _ _ _ (Q0 _ N) P
  |_=>rw[D] at e;have A:(none:Option Unit)=some x:=e;simp at A
 |sv q t=>
  cases D:s.slot k with
  |sl p J lo hi=>
   rw[D] at e h0;have A:(bif Pl.beq q p then(bif decide (J=t) then some (lo,hi) else none) else none:Option (Int×Int))=some x:=e;obtain⟨F,y⟩:=bQ.1 A;obtain⟨y,I⟩:=bQ.1 y;have H:=RH F;have M:J=t:=by simpa using y
   subst H;subst M;have I:=gB I;subst I;generalize g.tm k=u at h0⊢;cases h0 with
   |sl _ _ _ _ _ a len cap a' Q N P F y I R h5 h6=>exact .sl _ _ _ _ _ a len cap a' Q (Q0 _ N) P F y I R h5 h6
  |_=>rw[D] at e;have A:(none:Option (Int×Int))=some x:=e;simp at A
 |ep q t c=>
  cases D:s.slot k with
  |ep p J r c'=>
   rw[D] at e h0;have A:(bif Pl.beq q p then(bif decide (J=t) then(bif Nat.beq c c' then some r else none) else none) else none:Option Int)=some x:=e;obtain⟨F,y⟩:=bQ.1 A;obtain⟨y,I⟩:=bQ.1 y;obtain⟨I,R⟩:=bQ.1 I;have H:=RH F;have M:J=t:=by simpa using y
   have e3:=gr I;subst H;subst M;subst e3;have R:=gB R;subst R;generalize g.tm k=u at h0⊢;cases h0 with
   |ep _ _ _ _ _ b o len cap N P F y=>exact .ep _ _ _ _ _ b o len cap (Q0 _ N) P F y
  |_=>rw[D] at e;have A:(none:Option Int)=some x:=e;simp at A
 |fn gg S=>
  cases D:s.slot k with
  |fn g' vs=>
   rw[D] at e h0;have A:(bif Nat.beq gg g' then tu S vs else none:Option (tp S))=some x:=e;obtain⟨F,y⟩:=bQ.1 A;have H:=gr F;subst H;generalize hu:g.tm k=u at h0⊢;cases h0 with
   |fn _ _ _ Y hc hl hr=>
    obtain⟨l1,l2,l3⟩:=V2 (c:=g.rc C w) (c':=Gs.rc C {g with γ:=nK g.γ sl bx} w) V1 (m:=none) (tm':=none) y;refine .fn _ _ _ _ (λU a8=>(l2 U a8).1) (by rw[l1,hl]) (λj U v Z D=>?_);have eN:j<vs.length:=by
     have:=(da.1 Z).1
     omega
    exact l3 j _ U v (cT eN) Z (hr j _ v (cT eN) D)
  |_=>rw[D] at e;have A:(none:Option (tp S))=some x:=e;simp at A
theorem US(k:Nat):sM.get .un k=.un:=AB _ _ _
theorem U5(k:Nat):vh.get .none k=.none:=AB _ _ _
theorem ab7:∀{ps:List (Nat×ey)}{x:MX ps}(s:TS),Bs ps s=some x->∀k,(D8 ps x).get .un k=.un\/∃sh,∃y:sh.T,ta k ps=some sh/\Mh sh (s.slot k)=some y/\(D8 ps x).get .un k=H5 sh y
 |[],x,s,_,k=>.inl (US k)
 |p::ps,x,s,h,k=>by
  have F:∃a j,Mh p.2 (s.slot p.1)=some a/\Bs ps s=some j/\x=(a,j):=by
   simp only[Bs] at h
   cases A:Mh p.2 (s.slot p.1) with
   |none=>rw[A] at h;simp at h
   |some a=>
    cases D:Bs ps s with
    |none=>rw[A,D] at h;simp at h
    |some j=>rw[A,D] at h;exact⟨a,j,rfl,rfl,(gB h).symm⟩
  obtain⟨a,j,A,D,rfl⟩:=F;have e:D8 (p::ps) (a,j)=(D8 ps j).set p.1 (H5 p.2 a):=rfl;rw[e]
  by_cases H:p.1=k
  ·subst H;rcases CW .un (H5 p.2 a) (D8 ps j) p.1 with u|u
   ·exact .inr ⟨p.2,a,by simp[ta],A,u⟩
   ·exact .inl u
  ·rw[At _ _ _ _ _ H];rcases ab7 s D k with u|⟨sh,y,u,I,J⟩
   ·exact .inl u
   ·exact .inr ⟨sh,y,by simp[ta,H,u],I,J⟩
theorem ab8:∀{ps:List (Nat×fS)}{x:MY ps}(s:TS),Bt ps s=some x->∀k,(D9 ps x).get .none k=.none\/∃sh,∃y:sh.T,ta k ps=some sh/\sX sh (s.box k)=some y/\(D9 ps x).get .none k=H6 sh y
 |[],x,s,_,k=>.inl (U5 k)
 |p::ps,x,s,h,k=>by
  have F:∃a j,sX p.2 (s.box p.1)=some a/\Bt ps s=some j/\x=(a,j):=by
   simp only[Bt] at h
   cases A:sX p.2 (s.box p.1) with
   |none=>rw[A] at h;simp at h
   |some a=>
    cases D:Bt ps s with
    |none=>rw[A,D] at h;simp at h
    |some j=>rw[A,D] at h;exact⟨a,j,rfl,rfl,(gB h).symm⟩
  obtain⟨a,j,A,D,rfl⟩:=F;have e:D9 (p::ps) (a,j)=(D9 ps j).set p.1 (H6 p.2 a):=rfl;rw[e]
  by_cases H:p.1=k
  ·subst H;rcases CW .none (H6 p.2 a) (D9 ps j) p.1 with u|u
   ·exact .inr ⟨p.2,a,by simp[ta],A,u⟩
   ·exact .inl u
  ·rw[At _ _ _ _ _ H];rcases ab8 s D k with u|⟨sh,y,u,I,J⟩
   ·exact .inl u
   ·exact .inr ⟨sh,y,by simp[ta,H,u],I,J⟩
theorem Vr(h:Rel C E s g w){l:Live}{v:l.V}(j:l.dec s=some v):∃x,Rel C E (l.enc v) {g with γ:=x} w/\bw (λ_ _=>True) g.γ w x w:=by
 have F:∃a e,Bs l.sl s=some a/\Bt l.bx s=some e/\v=(a,e):=by
  simp only[Live.dec] at j
  cases A:Bs l.sl s with
  |none=>rw[A] at j;simp at j
  |some a=>
   cases D:Bt l.bx s with
   |none=>rw[A,D] at j;simp at j
   |some e=>rw[A,D] at j;exact⟨a,e,rfl,rfl,(gB j).symm⟩
 obtain⟨a,e,A,D,rfl⟩:=F;have J:bw (λ_ _=>True) g.γ w (nK g.γ (λk=>ta k l.sl) (λk=>ta k l.bx)) w:=anV h.aC.new;refine⟨_,h.pf (g':={g with γ:=nK g.γ (λk=>ta k l.sl) (λk=>ta k l.bx)}) J (λk=>.inl ?_) (λk=>.inl ?_),J⟩
 ·rcases ab7 s A k with u|⟨sh,y,u,H,I⟩
  ·have:(l.enc (a,e)).slot k=.un:=u;rw[this];exact .un _ _
  ·have:(l.enc (a,e)).slot k=H5 sh y:=I;rw[this];exact apI h (sl:=λk=>ta k l.sl) u H
 ·rcases ab8 s D k with u|⟨sh,y,u,H,I⟩
  ·have:(l.enc (a,e)).box k=.none:=u;rw[this];trivial
  ·have:(l.enc (a,e)).box k=H6 sh y:=I;rw[this];exact yU.2 (QZ V1 (ard (bx:=λk=>ta k l.bx) u) H (yU.1 (h.boxes k)))
end
end
end Go.Sd
