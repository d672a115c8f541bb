/- What the conditions of the row give of the world, and the step to the row. -/
import Derived.Test.YtfnlbejcgjlclaaGreatDoorRows
import Derived.Lay
import Derived.OpenVars
import Derived.OpenShut
import Derived.Shelf.Vars
import Derived.Lib.LaidTab
import Derived.Stop.LaidErr
import Derived.JoinedOf
import Derived.SizedLaws
import Derived.LaidMore
import Derived.Test.YtfnlbejcgjlclaaGreatDoorE
import Derived.Test.YtfnlbejcgjlclaaGreatDoorI
set_option linter.all false
namespace Go.Proofs.YtfnlbejcgjlclaaGreatDoor
open Go Go.ChangeShapes Go.WideShapes Go.RowKit
open Go.Sd (oW lq)
section
set_option maxRecDepth 100000
def WZ(b:Bool)(g:List Int->Option Bool):Ev.gN:=⟨[.val (.sl .l (.int .u8))],[.val (.el .bool [])],b,Bool,λa=>g a.1,λr=>((r,()),(),())⟩
def own:ownKnob Tryz.prog.godebug=none:=by kernel_rfl
def laidOut:laidOutB Tryz.prog=true:=by kernel_rfl
def nW:List (String×DataW Unit):=[("math/bits.deBruijn32tab",Rows.laid_math_bits_deBruijn32tab),("math/bits.deBruijn64tab",Rows.laid_math_bits_deBruijn64tab),("internal/strconv.uint64pow10",Rows.laid_internal_strconv_uint64pow10),("unicode/utf8.acceptRanges",Rows.laid_unicode_utf8_acceptRanges),("strconv.ErrRange",Rows.laid_strconv_ErrRange),("strconv.ErrSyntax",Rows.laid_strconv_ErrSyntax),("loop.example/stopover/impl.roots",Rows.laid_loop_example_stopover_impl_roots),("loop.example/stopover/impl.cubes",Rows.laid_loop_example_stopover_impl_cubes),("unicode/utf8.first",Rows.laid_unicode_utf8_first)]
section
variable{W:World}
def g0:Tryz.prog.globalNamed "loop.example/stopover/impl.roots" =some 0:=by kernel_rfl
def g2:Tryz.prog.globalNamed "loop.example/stopover/impl.cubes" =some 2:=by kernel_rfl
def g9:Tryz.prog.globalNamed "math/bits.deBruijn64tab" =some 9:=by kernel_rfl
def g4:Tryz.prog.globalNamed "strconv.ErrSyntax" =some 4:=by kernel_rfl
def g5:Tryz.prog.globalNamed "strconv.ErrRange" =some 5:=by kernel_rfl
def ahs(h:laidMetH Tryz.prog nW W):laidMet Tryz.prog nW W:=by
 have:(nW.filter λx=>x.2.handleName?.isSome)=[]:=by kernel_rfl
 unfold laidMetH at h;rw[this] at h;exact h
def UY{n:String}{g:Nat}{ti:TypeId}{ms:Array (String×TypeId)}{C:String}{d:DataW Unit}{r:List (String×DataW Unit)}(h:laidMet Tryz.prog ((n,.iface C d)::r) W)(A:Tryz.prog.globalNamed n=some g)(D:(Tryz.prog.globals[g]?).map (·.type)=some ti)
  (u:Tryz.prog.underlying ti=some (.interface ms)):∃E F,W.cell? ⟨g,0,none⟩=some (.iface E F):=by
 obtain⟨M,⟨N,P,H,e,p,q,x,y,I,j,_,_⟩,_⟩:=h;obtain rfl:=gV (A.symm.trans x);obtain rfl:=gV (D.symm.trans y);have J:=World.var?_cell A I 0;rw[J];obtain⟨l⟩:=H;cases e with
 |zero=>simp[DataW.trod] at j
 |succ e=>
  rcases l with _|⟨a,_|⟨b,l⟩⟩
  ·simp[DataW.trod,u] at j
  ·cases a<;>first|exact⟨_,_,rfl⟩|(simp[DataW.trod,u] at j)
  ·simp[DataW.trod,u] at j
def X3(h:laidMet Tryz.prog nW W):Lib.TabIs Tryz.prog W "internal/strconv.uint64pow10" .u64 Lib.pow10Tab/\Lib.TabIs Tryz.prog W "loop.example/stopover/impl.roots" .u32 Ev.CU/\Lib.TabIs Tryz.prog W "loop.example/stopover/impl.cubes" .u32 Ev.CV:=by
 have x:(Rows.laid_internal_strconv_uint64pow10:DataW Unit)=Lib.tabData .u64 Lib.pow10Tab:=by kernel_rfl
 have y:(Rows.laid_loop_example_stopover_impl_roots:DataW Unit)=Lib.tabData .u32 Ev.CU:=by kernel_rfl
 have A:(Rows.laid_loop_example_stopover_impl_cubes:DataW Unit)=Lib.tabData .u32 Ev.CV:=by kernel_rfl
 unfold nW at h;have a:=h.tail.tail;have j:=a.tail.tail.tail.tail;have u:=j.tail;rw[x] at a;rw[y] at j;rw[A] at u;exact⟨Lib.tabIs_of_head (g:=3) (t:=252) (e:=187) (n:=20) (by kernel_rfl) (by kernel_rfl) (by kernel_rfl) (by kernel_rfl) (by kernel_rfl) (by kernel_rfl) a,
  Lib.tabIs_of_head (g:=0) (t:=190) (e:=189) (n:=8) (by kernel_rfl) (by kernel_rfl) (by kernel_rfl) (by kernel_rfl) (by kernel_rfl) (by kernel_rfl) j,
  Lib.tabIs_of_head (g:=2) (t:=233) (e:=189) (n:=64) (by kernel_rfl) (by kernel_rfl) (by kernel_rfl) (by kernel_rfl) (by kernel_rfl) (by kernel_rfl) u⟩
def ahT:List Int:=[0,1,56,2,57,49,28,3,61,58,42,50,38,29,17,4,62,47,59,36,45,43,51,22,53,39,33,30,24,18,12,5,63,55,48,27,60,41,37,16,46,35,44,21,52,32,23,11,54,26,40,15,34,20,31,10,25,14,19,9,13,8,7,6]
def wok(h:laidMet Tryz.prog nW W)(a:W.ShapedOpen Tryz.prog):oW W:=by
 have y:(Rows.laid_math_bits_deBruijn64tab:DataW Unit)=Lib.tabData .u8 ahT:=by kernel_rfl
 have A:=X3 h;unfold nW at h;have j:=h.tail;have u:=j.tail.tail.tail;have C:=u.tail;rw[y] at j;have D:=Lib.tabIs_of_head (g:=9) (t:=317) (e:=5) (n:=64) (by kernel_rfl) (by kernel_rfl) (by kernel_rfl) (by kernel_rfl) (by kernel_rfl) (by kernel_rfl) j;have x:W.cell? ⟨9,15,none⟩=some (.int .u8 4):=D.cell g9 15 (by decide);refine⟨?_,?_,A.1,UY (ti:=150) (ms:=#[("Error",183)]) (d:=.ptr (.agg [.lit (.string [105,110,118,97,108,105,100,32,115,121,110,116,97,120])])) C g4 (by kernel_rfl) (by kernel_rfl),UY (ti:=150) (ms:=#[("Error",183)]) (d:=.ptr (.agg [.lit (.string [118,97,108,117,101,32,111,117,116,32,111,102,32,114,97,110,103,101])])) u g5 (by kernel_rfl) (by kernel_rfl),x⟩
 ·rcases yn 9 W.heap.size with h|h
  ·exact h
  ·simp[World.cell?,yl h] at x
 ·exact cell_of_shapedOpen_int (P:=Tryz.prog) (g:=1) (t:=3) (zero:=#[.int .i64 0]) a (fG (by kernel_rfl)) (by kernel_rfl) rfl (by kernel_rfl) (by kernel_rfl) Tryz.underlying3
def gm(W:World):Nat->Sd.G:=λb=>if b<W.heap.size then .im else .fr
def GR{b:Nat}(h:b<W.heap.size):gm W b=.im:=cM h
def glo(h:laidMet Tryz.prog nW W)(u:oW W):Sd.Af Ev.sN (Sd.uu W) (gm W) W:=by
 obtain⟨_,y,A⟩:=X3 h;have C:=u.sz;refine⟨λi=>?_,λi o a=>?_⟩
 ·match i with
  |0=>
   exact Sd.Rd.iv none (.int .u32) Ev.CU 0 0 (GR (by omega)) rfl λr x hx=>by
    have e:r<Ev.CU.length:=(eT.1 hx).1
    have:=y.cell g0 r e
    have hx:(Ev.CU:List Int)[r]?=some x:=hx
    rw[iT,hx] at this
    show W.cell? ⟨0,0+r,none⟩=_
    rw[iB]
    exact this
  |1=>exact Sd.Rd.un _ _
  |2=>
   exact Sd.Rd.iv none (.int .u32) Ev.CV 2 0 (GR (by omega)) rfl λr x hx=>by
    have e:r<Ev.CV.length:=(eT.1 hx).1
    have:=A.cell g2 r e
    have hx:(Ev.CV:List Int)[r]?=some x:=hx
    rw[iT,hx] at this
    show W.cell? ⟨2,0+r,none⟩=_
    rw[iB]
    exact this
  |i+3=>exact Sd.Rd.un _ _
 ·unfold Sd.uu at a;cases j:Nat.blt i 10 with
  |false=>rw[j] at a;cases a
  |true=>
   rw[j] at a;have a:W.heap[i]?=some o:=a;exact⟨GR (ZB.1 a).1,a⟩
def afA(h:laidMet Tryz.prog nW W)(D:oW W){f:Nat}{b:Bool}{g:List Int->Option Bool}(j:lq W f (WZ b g)){u:List Int}{x:Value}(E:Sd.Rd (Sd.ea (gm W) W) (some (.cE 0,[])) (.eb (.int .u8) u) x)(F:g u=some true):
  Calls Tryz.prog f #[x] W λe W'=>e=.returned (.bool true)/\Below W.heap.size W W':=by
 have:=j.2 (gm W) W [x] (λ_=>.bool true) ((u,()):List Int×Unit) true (λb H=>cN (by omega)) (glo h D) ⟨E,rfl⟩ F;refine Calls.mono this λe W' y=>?_;obtain⟨v,A,y,a,C,_⟩:=y;have C:Sd.Rd (Sd.ea A W') (some (.cE 1,[])) (.b true) v:=C;cases C;exact⟨y,a.os,a.tape,a.output,a.size,λk j=>(a.im k (GR j)).2⟩
def agy:Tryz.prog.cellsOf 5=1:=by kernel_rfl
def ad9{H:Type}{enc:TypeId×Value->H}{J:Nat}{v0:Value}{d0:DataW H}{p0:List MemPlace}(M:Value.okWide Tryz.prog W .any J 22 v0)(h0:DataW.Trod enc Tryz.prog W 0 (λ_=>true) true 22 v0 d0 p0)(R:∀es sp:List (DataW H),d0=.slice es sp->(es.length+sp.length)*Tryz.prog.bytesOf 5<=reachBytes):
  ∃xs:List Int,xs.length<=reachBytes/\Ev.Df xs/\Sd.Rd (Sd.ea (gm W) W) (some (.cE 0,[])) (.eb (.int .u8) xs) v0:=by
 obtain⟨a1,len,S,rfl⟩:=okWide_slice Tryz.underlying22 M;obtain⟨ae,hf⟩:=h0;rcases open_ints Tryz.underlying22 Tryz.underlying5 agy hf with⟨e,hx⟩|⟨a,af,ah,U,e,_,hl,hm,hz,hx,D,Y⟩
 ·simp[Value.cells] at e;obtain⟨rfl,rfl,rfl⟩:=e;exact⟨[],yi _,λ_ h=>(by cases h),Sd.Rd.kO _ _ _ _⟩
 ·simp[Value.cells] at e;obtain⟨rfl,rfl,rfl⟩:=e;simp only[gE] at hz;have Z:len<=reachBytes:=by
   have h1:=R _ _ (Prod.mk.inj hx).1
   rw[show Tryz.prog.bytesOf 5=1 by kernel_rfl] at h1
   simp[lits] at h1
   omega
  have u:∀(r:Nat)(x:Int),(U.take len)[r]?=some x->W.cell? (a.add r)=some (.int .u8 x)/\0<=x/\x<256:=λr x E=>by
   rw[o5] at E
   split at E
   ·have hb:=range_u8 Y r;have hc:=D r (by omega);rw[iT,E] at hc;rw[E] at hb;exact⟨hc,hb.1,by have:=hb.2;simp at this;omega⟩
   ·cases E
  have A:(U.take len).length=len:=by rw[kI];omega
  generalize U.take len=xs at u A;subst A;have aa:Ev.Df xs:=λx hx=>by
   obtain⟨r,E⟩:=qR hx
   exact(u r x E).2
  refine⟨xs,Z,aa,?_⟩;rcases xs with _|⟨x,l⟩
  ·exact Sd.Rd.kO _ _ _ _
  ·obtain⟨P,Q,N⟩:=a;have F:=(u 0 x rfl).1;have I:N=none:=by simpa[Addr.add] using World.cell?_spot F
   subst I;rw[Addr.add_lit] at F;have ad:P<W.heap.size:=by
    rcases yn P W.heap.size with h|h
    ·exact h
    ·simp[World.cell?,yl h] at F
   refine Sd.Rd.nZ _ (.int .u8) (x::l) P Q S (λr _=>.int .u8 ((x::l).getD r 0)) hl (GR ad) (λr y j tv C hj=>?_) λr y j tv C hj=>?_
   ·obtain⟨rfl,rfl⟩:=Sd.GL hj;refine⟨?_,rfl⟩;have:=(u r y C).1;rw[Addr.add_lit] at this;show W.cell? ⟨P,Q+r*1+0,none⟩=_;rw[show Q+r*1+0=Q+r by omega,this,iT];have C:(x::l)[r]?=some y:=C;rw[C];rfl
   ·obtain⟨rfl,rfl⟩:=Sd.GL hj;have C:(x::l)[r]?=some y:=C;rw[iT,C];exact Sd.Rd.i _ _ _
end
def wrap{H:Type}{enc:TypeId×Value->H}{a:Assume}{C:Checked}{os:Os}{f:FuncId}{fn:Func}{s:ChangeSpec}{E:List PathCond}{u F A I:Bool}{X:World->Array Value->Prop}
  (hX:∀(w w':World)(args:Array Value),w.heap=w'.heap->X w args->X w' args)
  (own:ownKnob C.prog.godebug=none)(J:os.Started)(N:C.prog.inits.idxOf? f=none)(aa:C.prog.funcs[f]?=some fn)
  (M:∃(w:World)(x:Tape)(i:Input),w.os=os/\(w.forCall x i).Shaped C.prog/\i.vars=[]/\Input.okWide C.prog (w.forCall x i) .any w.heap.size f i/\
    ((s.pre enc C.prog fn E u (w.forCall x i).memory i.args/\X (w.forCall x i).memory i.args)/\sizedMet enc C.prog fn (OpenSpec.ofChange s) u (w.forCall x i).memory i.args)/\a.holds C.prog (lone (Frame.enter C.prog f i.args .normal) [] (w.forCall x i)))
  (D:∀(W:World)(P:Nat)(args:Array Value)(U Y:List (DataW H))(y:List MemPlace),
    (∀(j:Nat)t v,fn.params[j]?=some t->args[j]?=some v->Value.okWide C.prog W .any P t v)->
    DataW.Whole enc C.prog fn.params.toList s.vars u W args.toList U Y y->(DataW.weightsEach C.prog (fn.params.toList++s.plain.varTypes C.prog) (U++Y)).all (·<=reachBytes)=true->X W args->W.ShapedOpen C.prog->
    Calls C.prog f args W λe W'=>∃v,e=.returned v/\s.post enc C.prog fn u F A I W args v W'):
  ReturnsInHanded a C os f .any (λw args=>(s.pre enc C.prog fn E u w args/\X w args)/\sizedMet enc C.prog fn (OpenSpec.ofChange s) u w args) (s.post enc C.prog fn u F A I):=by
 refine returnsInHanded_of_calls own J N M ?_;intro w x i _ ab _ ad Q Z;obtain⟨_,_,_,ae,R,_,_,_,_,S⟩:=ad;have e:ae=fn:=gV (R.symm.trans aa);subst e;obtain⟨⟨⟨U,Y,y,hw,hc⟩,hx⟩,hz⟩:=Q;have af:=DataW.Whole.of_heap (w':=w.forCall x i) (by rfl) hw;refine(D (w.forCall x i) w.heap.size i.args U Y y S af (hz.weights hw) (hX _ _ _ (by rfl) hx) ab).mono λe W'⟨v,he,hp⟩=>?_;subst he;exact ChangeSpec.post_blind hp
def aea{H:Type}{enc:TypeId×Value->H}{f:FuncId}{C:Func}{s:ChangeSpec}{b:Bool}{g:List Int->Option Bool}(D:C.params=#[22])(P:C.resultTypes=#[4])(E:s.vars=["loop.example/stopover/impl.roots","loop.example/stopover/impl.cubes"])
  (Q:∀d u g2,s.fn H [d,u,g2]={results:=[.lit (.bool true)],args:=[d],vars:=[u,g2]})(hk:∀W,oW W->lq W f (WZ b g))(hg:∀F,Ev.Df F->F.length<2^62->g F=some true)
  (W:World)(I:Nat)(args:Array Value)(R M:List (DataW H))(y:List MemPlace)(A:∀(j:Nat)t v,C.params[j]?=some t->args[j]?=some v->Value.okWide Tryz.prog W .any I t v)
  (hW:DataW.Whole enc Tryz.prog C.params.toList s.vars false W args.toList R M y)(S:(DataW.weightsEach Tryz.prog (C.params.toList++s.plain.varTypes Tryz.prog) (R++M)).all (·<=reachBytes)=true)(N:laidMetH Tryz.prog nW W)(U:W.ShapedOpen Tryz.prog):
  Calls Tryz.prog f args W λe W'=>∃v,e=.returned v/\s.post enc Tryz.prog C false true false false W args v W':=by
 have J:=hW;obtain⟨p,q,Y,Z,rfl,ae,af⟩:=hW;have hA:DataW.TrodAll enc Tryz.prog W 0 (λ_=>true) true C.params.toList args.toList R p:=Y;have a:DataW.TrodVars enc Tryz.prog W (λ_=>true) s.vars M q:=Z;rw[D] at hA A;rw[E] at a;obtain⟨v0,d0,rfl,rfl,h0⟩:=trodAll_one hA;have N:=ahs N;have hw:=wok N U;obtain⟨F,ah,aa,ab⟩:=ad9 (A 0 22 v0 rfl rfl) h0 λes sp he=>sized_slice S (j:=0) (t:=22) (by rw[D];rfl) (by rw[he];rfl) Tryz.underlying22;have ai:reachBytes<2^62:=by decide
 refine(afA N hw (hk W hw) ab (hg F aa (by omega))).mono λe W' he=>?_;obtain⟨rfl,hb⟩:=he;have ad:∀x∈p,x.block<W.heap.size:=λx hx=>by simpa using J.lt x (by simp[hx])
 match M,a with
 |[u,g2],a=>
  refine⟨_,rfl,[d0],[u,g2],_,[],p,q,J,?_,?_,?_,hb.frame _,λh=>by cases h⟩
  ·rw[P,show[d0]++[u,g2]=[d0,u,g2] from rfl,Q];exact trodAll_mk1 (shut_bool Tryz.underlying4 _)
  ·rw[D,show[d0]++[u,g2]=[d0,u,g2] from rfl,Q];exact trodAll_mk1 (Below.trod laidOut (by kernel_rfl) (fG (by kernel_rfl)) h0 hb ad)
  ·rw[E,show[d0]++[u,g2]=[d0,u,g2] from rfl,Q];exact hb.trodVars laidOut (by kernel_rfl) a
 |[],a=>exact a.elim
 |[_],a=>obtain⟨_,_,_,_,_,_,_,_,_,_,a,_⟩:=a;exact a.elim
 |_::_::_::_,a=>obtain⟨_,_,_,_,_,_,_,_,_,_,⟨_,_,_,_,_,_,_,_,_,_,a,_⟩,_⟩:=a;exact a.elim
end
end Go.Proofs.YtfnlbejcgjlclaaGreatDoor
