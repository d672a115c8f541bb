/- What the conditions of the row give of the world, and the step from a contract to the row. -/
import Derived.Test.YtfnlbejcgjlclaaGreatDoorRows
import Derived.Lay
import Derived.OpenVars
import Derived.OpenShut
import Derived.Shelf.Vars
import Derived.Lib.LaidTab
import Derived.Stop.LaidErr
import Derived.JoinedOf
import Derived.SizedLaws
import Derived.LaidMore
import Derived.Test.YtfnlbejcgjlclaaGreatDoorE
import Derived.Test.YtfnlbejcgjlclaaGreatDoorI
set_option linter.all false
namespace Go.Proofs.YtfnlbejcgjlclaaGreatDoor
open Go Go.ChangeShapes Go.WideShapes Go.RowKit
open Go.Sd (qW mg)
section
set_option maxRecDepth 100000
def agk(b:Bool)(g:List Int->Option Bool):Ev.fR:=⟨[.val (.sl .l (.int .u8))],[.val (.el .bool [])],b,Bool,λa=>g a.1,λr=>((r,()),(),())⟩
theorem own:ownKnob Tryz.prog.godebug=none:=by kernel_rfl
theorem laidOut:laidOutB Tryz.prog=true:=by kernel_rfl
def rI:List (String×DataW Unit):=[("math/bits.deBruijn32tab",Rows.laid_math_bits_deBruijn32tab),("math/bits.deBruijn64tab",Rows.laid_math_bits_deBruijn64tab),("internal/strconv.uint64pow10",Rows.laid_internal_strconv_uint64pow10),("unicode/utf8.acceptRanges",Rows.laid_unicode_utf8_acceptRanges),("strconv.ErrRange",Rows.laid_strconv_ErrRange),("strconv.ErrSyntax",Rows.laid_strconv_ErrSyntax),("loop.example/stopover/impl.roots",Rows.laid_loop_example_stopover_impl_roots),("loop.example/stopover/impl.cubes",Rows.laid_loop_example_stopover_impl_cubes),("unicode/utf8.first",Rows.laid_unicode_utf8_first)]
section
variable{W:World}
theorem g0:Tryz.prog.globalNamed "loop.example/stopover/impl.roots" =some 0:=by kernel_rfl
theorem g2:Tryz.prog.globalNamed "loop.example/stopover/impl.cubes" =some 2:=by kernel_rfl
theorem g9:Tryz.prog.globalNamed "math/bits.deBruijn64tab" =some 9:=by kernel_rfl
theorem g4:Tryz.prog.globalNamed "strconv.ErrSyntax" =some 4:=by kernel_rfl
theorem g5:Tryz.prog.globalNamed "strconv.ErrRange" =some 5:=by kernel_rfl
theorem atV(h:laidMetH Tryz.prog rI W):laidMet Tryz.prog rI W:=by
 have:(rI.filter λx=>x.2.handleName?.isSome)=[]:=by kernel_rfl
 unfold laidMetH at h;rw[this] at h;exact h
theorem aed{n:String}{g:Nat}{ti:TypeId}{ms:Array (String×TypeId)}{nm:String}{d:DataW Unit}{r:List (String×DataW Unit)}(h:laidMet Tryz.prog ((n,.iface nm d)::r) W)(x:Tryz.prog.globalNamed n=some g)(y:(Tryz.prog.globals[g]?).map (·.type)=some ti)
  (hi:Tryz.prog.underlying ti=some (.interface ms)):∃A pe,W.cell? ⟨g,0,none⟩=some (.iface A pe):=by
 obtain⟨ps,⟨H,I,C,e,p,q,u,D,E,j,_,_⟩,_⟩:=h;obtain rfl:=gB (x.symm.trans u);obtain rfl:=gB (y.symm.trans D);have F:=World.var?_cell x E 0;rw[F];obtain⟨l⟩:=C;cases e with
 |zero=>simp[DataW.trod] at j
 |succ e=>
  rcases l with _|⟨a,_|⟨b,l⟩⟩
  ·simp[DataW.trod,hi] at j
  ·cases a<;>first|exact⟨_,_,rfl⟩|(simp[DataW.trod,hi] at j)
  ·simp[DataW.trod,hi] at j
theorem aim(h:laidMet Tryz.prog rI W):Lib.TabIs Tryz.prog W "internal/strconv.uint64pow10" .u64 Lib.pow10Tab/\Lib.TabIs Tryz.prog W "loop.example/stopover/impl.roots" .u32 Ev.HJ/\Lib.TabIs Tryz.prog W "loop.example/stopover/impl.cubes" .u32 Ev.HK:=by
 have u:(Rows.laid_internal_strconv_uint64pow10:DataW Unit)=Lib.tabData .u64 Lib.pow10Tab:=by kernel_rfl
 have x:(Rows.laid_loop_example_stopover_impl_roots:DataW Unit)=Lib.tabData .u32 Ev.HJ:=by kernel_rfl
 have y:(Rows.laid_loop_example_stopover_impl_cubes:DataW Unit)=Lib.tabData .u32 Ev.HK:=by kernel_rfl
 unfold rI at h;have a:=h.tail.tail;have h6:=a.tail.tail.tail.tail;have j:=h6.tail;rw[u] at a;rw[x] at h6;rw[y] at j;exact⟨Lib.tabIs_of_head (g:=3) (t:=252) (e:=187) (n:=20) (by kernel_rfl) (by kernel_rfl) (by kernel_rfl) (by kernel_rfl) (by kernel_rfl) (by kernel_rfl) a,
  Lib.tabIs_of_head (g:=0) (t:=190) (e:=189) (n:=8) (by kernel_rfl) (by kernel_rfl) (by kernel_rfl) (by kernel_rfl) (by kernel_rfl) (by kernel_rfl) h6,
  Lib.tabIs_of_head (g:=2) (t:=233) (e:=189) (n:=64) (by kernel_rfl) (by kernel_rfl) (by kernel_rfl) (by kernel_rfl) (by kernel_rfl) (by kernel_rfl) j⟩
def avn:List Int:=[0,1,56,2,57,49,28,3,61,58,42,50,38,29,17,4,62,47,59,36,45,43,51,22,53,39,33,30,24,18,12,5,63,55,48,27,60,41,37,16,46,35,44,21,52,32,23,11,54,26,40,15,34,20,31,10,25,14,19,9,13,8,7,6]
theorem wok(h:laidMet Tryz.prog rI W)(u:W.ShapedOpen Tryz.prog):qW W:=by
 have x:(Rows.laid_math_bits_deBruijn64tab:DataW Unit)=Lib.tabData .u8 avn:=by kernel_rfl
 have y:=aim h;unfold rI at h;have a:=h.tail;have j:=a.tail.tail.tail;have A:=j.tail;rw[x] at a;have C:=Lib.tabIs_of_head (g:=9) (t:=317) (e:=5) (n:=64) (by kernel_rfl) (by kernel_rfl) (by kernel_rfl) (by kernel_rfl) (by kernel_rfl) (by kernel_rfl) a;have hz:W.cell? ⟨9,15,none⟩=some (.int .u8 4):=C.cell g9 15 (by decide);refine⟨?_,?_,y.1,aed (ti:=150) (ms:=#[("Error",183)]) (d:=.ptr (.agg [.lit (.string [105,110,118,97,108,105,100,32,115,121,110,116,97,120])])) A g4 (by kernel_rfl) (by kernel_rfl),aed (ti:=150) (ms:=#[("Error",183)]) (d:=.ptr (.agg [.lit (.string [118,97,108,117,101,32,111,117,116,32,111,102,32,114,97,110,103,101])])) j g5 (by kernel_rfl) (by kernel_rfl),hz⟩
 ·rcases CK 9 W.heap.size with h|h
  ·exact h
  ·simp[World.cell?,CI h] at hz
 ·exact cell_of_shapedOpen_int (P:=Tryz.prog) (g:=1) (t:=3) (zero:=#[.int .i64 0]) u (ef (by kernel_rfl)) (by kernel_rfl) rfl (by kernel_rfl) (by kernel_rfl) Tryz.underlying3
def gm(W:World):Nat->Sd.G:=λb=>if b<W.heap.size then .im else .fr
theorem Mf{b:Nat}(h:b<W.heap.size):gm W b=.im:=aD h
theorem glo(h:laidMet Tryz.prog rI W)(j:qW W):Sd.Ey Ev.vO (Sd.ye W) (gm W) W:=by
 obtain⟨_,u,y⟩:=aim h;have A:=j.sz;refine⟨λi=>?_,λi o hi=>?_⟩
 ·match i with
  |0=>
   exact Sd.Rd.iv none (.int .u32) Ev.HJ 0 0 (Mf (by omega)) rfl λr x hx=>by
    have a:r<Ev.HJ.length:=(da.1 hx).1
    have:=u.cell g0 r a
    have hx:(Ev.HJ:List Int)[r]?=some x:=hx
    rw[iR,hx] at this
    show W.cell? ⟨0,0+r,none⟩=_
    rw[iu]
    exact this
  |1=>exact Sd.Rd.un _ _
  |2=>
   exact Sd.Rd.iv none (.int .u32) Ev.HK 2 0 (Mf (by omega)) rfl λr x hx=>by
    have a:r<Ev.HK.length:=(da.1 hx).1
    have:=y.cell g2 r a
    have hx:(Ev.HK:List Int)[r]?=some x:=hx
    rw[iR,hx] at this
    show W.cell? ⟨2,0+r,none⟩=_
    rw[iu]
    exact this
  |i+3=>exact Sd.Rd.un _ _
 ·unfold Sd.ye at hi;cases e:Nat.blt i 10 with
  |false=>rw[e] at hi;cases hi
  |true=>
   rw[e] at hi;have hi:W.heap[i]?=some o:=hi;exact⟨Mf (akH.1 hi).1,hi⟩
theorem aqV(h:laidMet Tryz.prog rI W)(C:qW W){f:Nat}{b:Bool}{g:List Int->Option Bool}(a:mg W f (agk b g)){j:List Int}{u:Value}(D:Sd.Rd (Sd.bW (gm W) W) (some (.aw 0,[])) (.bJ (.int .u8) j) u)(E:g j=some true):
  Calls Tryz.prog f #[u] W λe W'=>e=.returned (.bool true)/\Below W.heap.size W W':=by
 have:=a.2 (gm W) W [u] (λ_=>.bool true) ((j,()):List Int×Unit) true (λb F=>aE (by omega)) (glo h C) ⟨D,rfl⟩ E;refine Calls.mono this λe W' x=>?_;obtain⟨v,y,x,st,A,_⟩:=x;have A:Sd.Rd (Sd.bW y W') (some (.aw 1,[])) (.b true) v:=A;cases A;exact⟨x,st.os,st.tape,st.output,st.size,λk a=>(st.im k (Mf a)).2⟩
theorem asv:Tryz.prog.cellsOf 5=1:=by kernel_rfl
theorem apk{H:Type}{enc:TypeId×Value->H}{base:Nat}{v0:Value}{d0:DataW H}{p0:List MemPlace}(uw:Value.okWide Tryz.prog W .any base 22 v0)(h0:DataW.Trod enc Tryz.prog W 0 (λ_=>true) true 22 v0 d0 p0)(M:∀Y Z:List (DataW H),d0=.slice Y Z->(Y.length+Z.length)*Tryz.prog.bytesOf 5<=reachBytes):
  ∃xs:List Int,xs.length<=reachBytes/\Ev.H2 xs/\Sd.Rd (Sd.bW (gm W) W) (some (.aw 0,[])) (.bJ (.int .u8) xs) v0:=by
 obtain⟨a1,len,cap,rfl⟩:=okWide_slice Tryz.underlying22 uw;obtain⟨aa,hf⟩:=h0;rcases open_ints Tryz.underlying22 Tryz.underlying5 asv hf with⟨e,hx⟩|⟨a,ad,am,zs,e,_,hl,hm,hz,hx,gf,N⟩
 ·simp[Value.cells] at e;obtain⟨rfl,rfl,rfl⟩:=e;exact⟨[],CF _,λ_ h=>(by cases h),Sd.Rd.lE _ _ _ _⟩
 ·simp[Value.cells] at e;obtain⟨rfl,rfl,rfl⟩:=e;simp only[fM] at hz;have P:len<=reachBytes:=by
   have h1:=M _ _ (Prod.mk.inj hx).1
   rw[show Tryz.prog.bytesOf 5=1 by kernel_rfl] at h1
   simp[lits] at h1
   omega
  have u:∀(r:Nat)(x:Int),(zs.take len)[r]?=some x->W.cell? (a.add r)=some (.int .u8 x)/\0<=x/\x<256:=λr x D=>by
   rw[q8] at D
   split at D
   ·have Q:=range_u8 N r;have hc:=gf r (by omega);rw[iR,D] at hc;rw[D] at Q;exact⟨hc,Q.1,by have:=Q.2;simp at this;omega⟩
   ·cases D
  have A:(zs.take len).length=len:=by rw[lv];omega
  generalize zs.take len=xs at u A;subst A;have R:Ev.H2 xs:=λx hx=>by
   obtain⟨r,D⟩:=tT hx
   exact(u r x D).2
  refine⟨xs,P,R,?_⟩;rcases xs with _|⟨x,l⟩
  ·exact Sd.Rd.lE _ _ _ _
  ·obtain⟨I,J,F⟩:=a;have E:=(u 0 x rfl).1;have S:F=none:=by simpa[Addr.add] using World.cell?_spot E
   subst S;rw[Addr.add_lit] at E;have I6:I<W.heap.size:=by
    rcases CK I W.heap.size with h|h
    ·exact h
    ·simp[World.cell?,CI h] at E
   refine Sd.Rd.pP _ (.int .u8) (x::l) I J cap (λr _=>.int .u8 ((x::l).getD r 0)) hl (Mf I6) (λr y j tv C U=>?_) λr y j tv C U=>?_
   ·obtain⟨rfl,rfl⟩:=Sd.L6 U;refine⟨?_,rfl⟩;have:=(u r y C).1;rw[Addr.add_lit] at this;show W.cell? ⟨I,J+r*1+0,none⟩=_;rw[show J+r*1+0=J+r by omega,this,iR];have C:(x::l)[r]?=some y:=C;rw[C];rfl
   ·obtain⟨rfl,rfl⟩:=Sd.L6 U;have C:(x::l)[r]?=some y:=C;rw[iR,C];exact Sd.Rd.i _ _ _
end
theorem wrap{H:Type}{enc:TypeId×Value->H}{a:Assume}{C:Checked}{os:Os}{f:FuncId}{fn:Func}{s:ChangeSpec}{A:List PathCond}{u fresh y D:Bool}{X:World->Array Value->Prop}
  (U:∀(w w':World)(args:Array Value),w.heap=w'.heap->X w args->X w' args)
  (own:ownKnob C.prog.godebug=none)(E:os.Started)(M:C.prog.inits.idxOf? f=none)(Y:C.prog.funcs[f]?=some fn)
  (F:∃(w:World)(tape:Tape)(i:Input),w.os=os/\(w.forCall tape i).Shaped C.prog/\i.vars=[]/\Input.okWide C.prog (w.forCall tape i) .any w.heap.size f i/\
    ((s.pre enc C.prog fn A u (w.forCall tape i).memory i.args/\X (w.forCall tape i).memory i.args)/\sizedMet enc C.prog fn (OpenSpec.ofChange s) u (w.forCall tape i).memory i.args)/\a.holds C.prog (lone (Frame.enter C.prog f i.args .normal) [] (w.forCall tape i)))
  (N:∀(W:World)(base:Nat)(args:Array Value)(I J:List (DataW H))(x:List MemPlace),
    (∀(j:Nat)t v,fn.params[j]?=some t->args[j]?=some v->Value.okWide C.prog W .any base t v)->
    DataW.Whole enc C.prog fn.params.toList s.vars u W args.toList I J x->(DataW.weightsEach C.prog (fn.params.toList++s.plain.varTypes C.prog) (I++J)).all (·<=reachBytes)=true->X W args->W.ShapedOpen C.prog->
    Calls C.prog f args W λe R=>∃v,e=.returned v/\s.post enc C.prog fn u fresh y D W args v R):
  ReturnsInHanded a C os f .any (λw args=>(s.pre enc C.prog fn A u w args/\X w args)/\sizedMet enc C.prog fn (OpenSpec.ofChange s) u w args) (s.post enc C.prog fn u fresh y D):=by
 refine returnsInHanded_of_calls own E M F ?_;intro w tape i _ Z _ cL MR aa;obtain⟨_,_,_,P,Q,_,_,_,_,uw⟩:=cL;have e:P=fn:=gB (Q.symm.trans Y);subst e;obtain⟨⟨⟨I,J,x,S,hc⟩,hx⟩,hz⟩:=MR;have Nt:=DataW.Whole.of_heap (w':=w.forCall tape i) (by rfl) S;refine(N (w.forCall tape i) w.heap.size i.args I J x uw Nt (hz.weights S) (U _ _ _ (by rfl) hx) Z).mono λe R⟨v,he,hp⟩=>?_;subst he;exact ChangeSpec.post_blind hp
theorem apm{H:Type}{enc:TypeId×Value->H}{f:FuncId}{fn:Func}{s:ChangeSpec}{b:Bool}{g:List Int->Option Bool}(A:fn.params=#[22])(zV:fn.resultTypes=#[4])(Y:s.vars=["loop.example/stopover/impl.roots","loop.example/stopover/impl.cubes"])
  (I:∀d u g2,s.fn H [d,u,g2]={results:=[.lit (.bool true)],args:=[d],vars:=[u,g2]})(hk:∀W,qW W->mg W f (agk b g))(hg:∀C,Ev.H2 C->C.length<2^62->g C=some true)
  (W:World)(base:Nat)(args:Array Value)(J E:List (DataW H))(y:List MemPlace)(Z:∀(j:Nat)t v,fn.params[j]?=some t->args[j]?=some v->Value.okWide Tryz.prog W .any base t v)
  (hW:DataW.Whole enc Tryz.prog fn.params.toList s.vars false W args.toList J E y)(M:(DataW.weightsEach Tryz.prog (fn.params.toList++s.plain.varTypes Tryz.prog) (J++E)).all (·<=reachBytes)=true)(F:laidMetH Tryz.prog rI W)(oc:W.ShapedOpen Tryz.prog):
  Calls Tryz.prog f args W λe W'=>∃v,e=.returned v/\s.post enc Tryz.prog fn false true false false W args v W':=by
 have D:=hW;obtain⟨p,q,N,P,rfl,mG,aa⟩:=hW;have hA:DataW.TrodAll enc Tryz.prog W 0 (λ_=>true) true fn.params.toList args.toList J p:=N;have a:DataW.TrodVars enc Tryz.prog W (λ_=>true) s.vars E q:=P;rw[A] at hA Z;rw[Y] at a;obtain⟨v0,d0,rfl,rfl,h0⟩:=trodAll_one hA;have F:=atV F;have hw:=wok F oc;obtain⟨C,nz,Q,gk⟩:=apk (Z 0 22 v0 rfl rfl) h0 λes sp R=>sized_slice M (j:=0) (t:=22) (by rw[A];rfl) (by rw[R];rfl) Tryz.underlying22;have xW:reachBytes<2^62:=by decide
 refine(aqV F hw (hk W hw) gk (hg C Q (by omega))).mono λe W' R=>?_;obtain⟨rfl,S⟩:=R;have U:∀x∈p,x.block<W.heap.size:=λx hx=>by simpa using D.lt x (by simp[hx])
 match E,a with
 |[u,g2],a=>
  refine⟨_,rfl,[d0],[u,g2],_,[],p,q,D,?_,?_,?_,S.frame _,λh=>by cases h⟩
  ·rw[zV,show[d0]++[u,g2]=[d0,u,g2] from rfl,I];exact trodAll_mk1 (shut_bool Tryz.underlying4 _)
  ·rw[A,show[d0]++[u,g2]=[d0,u,g2] from rfl,I];exact trodAll_mk1 (Below.trod laidOut (by kernel_rfl) (ef (by kernel_rfl)) h0 S U)
  ·rw[Y,show[d0]++[u,g2]=[d0,u,g2] from rfl,I];exact S.trodVars laidOut (by kernel_rfl) a
 |[],a=>exact a.elim
 |[_],a=>obtain⟨_,_,_,_,_,_,_,_,_,_,a,_⟩:=a;exact a.elim
 |_::_::_::_,a=>obtain⟨_,_,_,_,_,_,_,_,_,_,⟨_,_,_,_,_,_,_,_,_,_,a,_⟩,_⟩:=a;exact a.elim
end
end Go.Proofs.YtfnlbejcgjlclaaGreatDoor
