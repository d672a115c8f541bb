/- An evaluator of the program code is sound against the model, first part. No conditions. -/
import Derived.Calls
import Derived.Below
import Derived.Laws.Cells
import Derived.Laws.IdiomCopy
import Derived.Laws.StructEq
import Derived.Laws.BytesString
import Derived.Laws.Slices
import Derived.Laws.BytesArg
import Derived.Laws.MakeOwn
import Derived.Deep.AppendSrc
import Derived.Lib.ConvBytes
set_option linter.all false
def C6:=@List.getElem?_set_ne
def C7:=@Array.length_toList
def C8:=@List.replicate_succ
def C9:=@Prod.ext
def Da:=@not_or
def Db:=@Nat.lt_of_not_le
def Dc:=@List.map_map
def Dd:=@Int.ediv_nonneg
def De:=@Int.emod_nonneg
def Df:=@Int.emod_lt_of_pos
def Dg:=@Nat.mul_le_mul_left
def G1:=@Array.toList_append
def G2:=@Iff.rfl
def G3:=@List.mem_iff_getElem?
def G4:=@List.foldr_cons
def G5:=@Bool.or_false
def G6:=@Bool.eq_iff_iff
def G7:=@List.append_nil
def G8:=@List.mem_of_mem_drop
def G9:=@Int.ediv_le_self
def GV:=@Nat.zero_mul
def GW:=@List.all_cons
def GX:=@List.getElem?_set_self
def GY:=@List.foldl_nil
def GZ:=@Array.size_setIfInBounds
def Ha:=@Int.mul_nonneg
def LH:=@Nat.lt_of_lt_of_le
def LI:=@List.append_cancel_left
def LJ:=@List.eq_nil_of_length_eq_zero
def LK:=@dif_pos
def LL:=@Nat.mul_one
def LM:=@List.size_toArray
def LN:=@Nat.mod_lt
def LO:=@Nat.mul_le_mul
def LP:=@List.head?_cons
def LQ:=@ne_eq
def P0:=@Array.getElem?_append_left
def P1:=@Nat.div_eq_of_lt
def P2:=@Nat.div_lt_of_lt_mul
def P3:=@Nat.div_add_mod
def P4:=@List.range'_succ
def P5:=@Array.getElem?_replicate
def P6:=@Function.comp_apply
def P7:=@List.map_id
def P8:=@List.countP_cons
def P9:=@List.length_set
def PY:=@Array.size_append
def PZ:=@Array.size_replicate
def Qa:=@Nat.min_def
def Qb:=@List.drop_of_length_le
def Qc:=@Nat.sub_zero
def Qd:=@Int.tmod_eq_emod_of_nonneg
def Qe:=@Int.min_eq_right
def Qf:=@Int.min_eq_left
def Qg:=@List.length_pos_iff
def Qh:=@List.range_succ
def Qi:=@Eq.trans
def Qj:=@List.flatten_cons
def Qk:=@List.length_range
def Ql:=@List.flatten_append
def Qm:=@List.set_getElem_self
def Qo:=@Nat.mul_add
def Qp:=@Int.mul_le_mul_of_nonneg_left
def Qq:=@Nat.one_le_pow
def Y0:=@List.take_succ_cons
def Y1:=@not_false_eq_true
def Y2:=@List.sum_append
def Y3:=@List.sum_cons
def Y4:=@Int.mul_le_mul
def Y5:=@List.take_prefix
def YA:=@Nat.le_of_eq
def YB:=@Array.toList_map
def YC:=@Nat.le_of_ble_eq_true
def YD:=@Bool.and_eq_false_iff
def YE:=@List.ext_getElem?
def YF:=@List.getElem?_toArray
def YG:=@Option.getD_some
def YH:=@Array.getElem?_eq_some_iff
def YI:=@List.drop_left
def YJ:=@List.range_eq_range'
def YK:=@Nat.add_sub_cancel_left
def YL:=@Bool.false_or
def YM:=@List.any_eq_false
def YN:=@Bool.and_false
def YO:=@Bool.true_or
def YP:=@List.mem_filter
def YQ:=@List.getElem_drop
def YR:=@Bool.cond_eq_ite
def YS:=@Int.natCast_add
def YT:=@Int.mul_add
def YU:=@List.pairwise_iff_getElem
def YV:=@Int.tdiv_eq_ediv_of_nonneg
def YW:=@List.take_append_drop
def YX:=@UInt8.toNat_ofNat'
def YY:=@UInt8.toNat_inj
def YZ:=@beq_eq_false_iff_ne
def Yt:=@Array.getElem?_setIfInBounds_ne
def Yu:=@Array.mem_of_getElem?
def Yv:=@List.getElem?_cons_succ
def Yw:=@Int.le_refl
def Yx:=@Nat.add_mul_mod_self_right
def Yy:=@getElem!_pos
def Yz:=@List.length_replicate
def ah0:=@Classical.byContradiction
def ah1:=@Array.getElem?_setIfInBounds_self_of_lt
def ah2:=@Array.getElem?_map
def ah4:=@Array.getElem?_push_lt
def ah5:=@Option.isSome_iff_exists
def ah7:=@Array.getElem?_modify
def ah9:=@Nat.add_mul_div_right
def ahY:=@List.mem_of_getElem?
def ahZ:=@List.getElem?_set
def aib:=@List.append_cancel_left_eq
def aif:=@Array.toList_setIfInBounds
def aii:=@List.head?_eq_getElem?
def aik:=@List.replicate_succ'
def ail:=@List.drop_append_of_le_length
def aim:=@List.prefix_iff_eq_take
def ain:=@List.isPrefixOf_iff_prefix
def aio:=@List.drop_succ_cons
def aiq:=@Bool.eq_false_iff
def air:=@List.set_append_right
def ais:=@List.set_cons_zero
def cJ:=@if_pos
def cK:=@if_neg
def cL:=@cond_true
def cN:=@cond_false
def cW:=@Option.some.injEq
def dF:=@decide_eq_true_eq
def dG:=@List.getElem_mem
def du:=@Bool.and_eq_true
def eA:=@List.getElem?_eq_getElem
def eB:=@List.mem_append
def eE:=@Prod.mk.injEq
def eF:=@List.getElem?_eq_some_iff
def eN:=@Bool.not_true
def eS:=@List.length_append
def eo:=@List.mem_cons
def fB:=@Int.toNat_natCast
def fM:=@List.mem_singleton
def fU:=@decide_true
def fY:=@List.length_cons
def fj:=@of_decide_eq_true
def gA:=@Option.some.inj
def gB:=@decide_eq_false
def gD:=@Int.eq_ofNat_of_zero_le
def gE:=@Bool.not_false
def gF:=@decide_false
def gR:=@List.mem_map
def gr:=@if_true
def gu:=@decide_eq_true
def gw:=@Nat.eq_of_beq_eq_true
def hV:=@List.getElem?_map
def hY:=@Nat.le_refl
def iD:=@if_false
def iE:=@List.getD_eq_getElem?_getD
def iN:=@Bool.false_eq_true
def ia:=@Nat.zero_add
def ic:=@List.nil_append
def jW:=@List.append_assoc
def jc:=@Option.map_some
def jg:=@and_true
def jh:=@List.all_eq_true
def ju:=@Array.getElem?_eq_getElem
def jv:=@Nat.add_mul
def jx:=@List.length_nil
def kR:=@List.drop_eq_getElem_cons
def kS:=@decide_eq_false_iff_not
def kh:=@List.length_take
def lF:=@List.cons.injEq
def lG:=@Array.getElem?_toList
def lj:=@Bool.not_eq_true'
def lk:=@List.map_cons
def mF:=@List.length_drop
def mG:=@List.map_append
def mH:=@List.not_mem_nil
def mI:=@or_false
def mY:=@List.getElem?_eq_none
def mZ:=@Bool.true_and
def mh:=@Nat.mul_le_mul_right
def mi:=@List.take_succ_eq_append_getElem
def nL:=@List.length_eq_zero_iff
def oA:=@Nat.add_assoc
def oB:=@List.getElem?_append_left
def oC:=@List.length_map
def oy:=@Ne.symm
def oz:=@List.getElem?_take
def pC:=@Option.bind_some
def pD:=@List.getElem_of_mem
def pE:=@beq_iff_eq
def pF:=@Nat.one_mul
def pG:=@List.getElem?_append_right
def pH:=@Bool.not_eq_true
def pI:=@List.cons_append
def q6:=@Nat.add_zero
def q7:=@List.drop_length
def q8:=@List.drop_drop
def qZ:=@List.prefix_append
def qo:=@List.getElem?_of_mem
def qp:=@List.getElem?_cons_zero
def sB:=@Nat.blt_eq
def sC:=@List.map_nil
def sD:=@List.take_length
def sE:=@List.drop_zero
def sF:=@List.prefix_refl
def tX:=@Array.getD_eq_getD_getElem?
def tY:=@List.length_singleton
def tZ:=@Nat.pow_succ
def ua:=@and_self
def ub:=@List.mem_of_mem_take
def vn:=@true_and
def vp:=@List.getElem?_drop
def vq:=@Nat.sub_self
def vr:=@Nat.add_comm
def vt:=@List.foldl_cons
def vv:=@Nat.mul_comm
def vz:=@Nat.pow_le_pow_right
def xD:=@Nat.zero_le
def xE:=@Option.map_eq_some_iff
def xF:=@List.take_zero
def xG:=@List.mem_range
def xH:=@Array.getElem?_eq_none
def xI:=@List.singleton_append
def xJ:=@Nat.lt_or_ge
def xK:=@List.map_congr_left
def xL:=@Bool.or_eq_true
def xM:=@Bool.false_and
def xN:=@List.take_of_length_le
def zO:=@Nat.le_trans
def zP:=@Option.bind_eq_some_iff
def zQ:=@List.mem_or_eq_of_mem_set
def zR:=@List.getElem?_range
def zS:=@Nat.mod_eq_of_lt
def zT:=@List.pairwise_cons
def zU:=@List.pairwise_append
namespace Go.Ev
open Go
abbrev cq:=List UInt8
structure dj where
 txn:Int
 cls:Int
 cM:Int
structure cE where
 name:cq
 cI:cq
 to:cq
 fb:Int
 arr:Int
 cap:Int
 dy:List Int
 dq:List Int
 eu:List Int
 holds:List dj
structure Mark where
 cI:Int
 dV:Int
inductive cn where
 |mk (op num:Int) (name:cq) (kids:List cn) (marks:List Mark)
def cn.op:cn->Int|.mk a _ _ _ _=>a
def cn.num:cn->Int|.mk _ a _ _ _=>a
def cn.name:cn->cq|.mk _ _ a _ _=>a
def cn.kids:cn->List cn|.mk _ _ _ a _=>a
def cn.marks:cn->List Mark|.mk _ _ _ _ a=>a
structure lZ where
 name:cq
 num:Int
structure ey where
 op:Int
 num:Int
 name:cq
 marks:List Mark
structure fx where
 name:cq
 cls:Int
 lM:cq
structure cY where
 legs:List cq
 iP:cq
 cM:Int
structure de where
 di:cq
 cls:Int
 cM:Int
 share:Int
structure cR where
 kind:Int
 cI:Int
 to:Int
 txn:Int
 ops:List de
 yes:Bool
structure eH where
 txn:Int
 da:Int
 ops:List de
structure cS where
 id:Int
 base:List cE
 log:cq
 up:Bool
 legs:List cE
 cB:List eH
structure dW where
 txn:Int
 kL:Int
 back:Int
 fI:cY
 dV:Int
 da:Int
 eI:List Int
 yes:List Int
 jb:List Int
 la:Int
structure dD where
 net:List cE
 mB:List Int
 gU:List fx
 log:cq
 up:Bool
 next:Int
 cB:List dW
structure iG where
 kL:Int
 text:cq
structure World where
 e9:dD
 eI:List cS
 ga:List cR
 told:List iG
structure Event where
 kind:Int
 at':Int
 n:Int
 jq:Bool
 fI:cY
structure Rd where
 b:List Int
 p:Int
structure fo where
 s:cq
 at':Int
 left:Int
 ok:Bool
inductive Ty where
 |bool
 |int (k:IntKind)
 |str
 |hold|di|mark|lM|pair|ins|iP|fI|op|msg|stx|kV|ctx|e9|nT|world|event|rd|tH
 deriving DecidableEq
def El:Ty->Type|.bool=>Bool|.int _=>Int|.str=>cq|.hold=>dj|.di=>cE|.mark=>Mark|.lM=>cn|.pair=>lZ|.ins=>ey|.iP=>fx|.fI=>cY|.op=>de|.msg=>cR|.stx=>eH|.kV=>cS|.ctx=>dW|.e9=>dD|.nT=>iG|.world=>World|.event=>Event|.rd=>Rd|.tH=>fo
inductive Pl where
 |slot (k:Nat)
 |cell (k c:Nat)
 |sub (p:Pl) (t:Ty) (r:Int) (c:Nat)
inductive TV where
 |un
 |b (x:Bool)
 |i (k:IntKind) (n:Int)
 |s (x:cq)
 |nil
 |gQ
 |dT (t:Ty) (xs:List (El t))
 |fE (t:Ty) (xs:List (El t))
 |own (d:Bool) (t:Ty) (xs:List (El t))
 |j4 (t:Ty) (xs:List (El t)) (r:Int) (c:Nat)
 |vec (t:Ty) (xs:List (El t))
 |vw (p:Pl) (t:Ty)
 |pa (p:Pl) (t:Ty) (xs:List (El t))
 |sl (p:Pl) (t:Ty) (lo hi:Int)
 |ptr (k c:Nat)
 |pe (k:Nat) (n:Int)
 |ep (p:Pl) (t:Ty) (r:Int) (c:Nat)
 |ip (cells:List TV) (c:Nat)
 |iv (t:Ty) (xs:List (El t))
 |agg (cs:List TV)
 |eY (vs:List TV)
 |fn (f:Nat) (cap:List TV)
 |lA
 |np
 |er (x:Bool)
def sc(d:Bool)(t:Ty)(a:List (El t)):TV:=
 match d with
 |true=>.own true t a
 |false=>.dT t a
def enc(d:Bool):(t:Ty)->El t->List TV|.bool,x=>[.b x]|.int k,x=>[.i k x]|.str,x=>[.s x]|.hold,x=>[.i .i64 (dj.txn x),.i .i64 (dj.cls x),.i .i64 (dj.cM x)]|.di,x=>[.s (cE.name x),.s (cE.cI x),.s (cE.to x),.i .i64 (cE.fb x),.i .i64 (cE.arr x),.i .i64 (cE.cap x),sc d (.int .i64) (cE.dy x),sc d (.int .i64) (cE.dq x),sc d (.int .i64) (cE.eu x),sc d .hold (cE.holds x)]|.mark,x=>[.i .i64 (Mark.cI x),.i .i64 (Mark.dV x)]|.lM,x=>[.i .i64 (cn.op x),.i .i64 (cn.num x),.s (cn.name x),sc d .lM (cn.kids x),sc d .mark (cn.marks x)]|.pair,x=>[.s (lZ.name x),.i .i64 (lZ.num x)]|.ins,x=>[.i .i64 (ey.op x),.i .i64 (ey.num x),.s (ey.name x),sc d .mark (ey.marks x)]|.iP,x=>[.s (fx.name x),.i .i64 (fx.cls x),.s (fx.lM x)]|.fI,x=>[sc d .str (cY.legs x),.s (cY.iP x),.i .i64 (cY.cM x)]|.op,x=>[.s (de.di x),.i .i64 (de.cls x),.i .i64 (de.cM x),.i .i64 (de.share x)]|.msg,x=>[.i .i64 (cR.kind x),.i .i64 (cR.cI x),.i .i64 (cR.to x),.i .i64 (cR.txn x),sc d .op (cR.ops x),.b (cR.yes x)]|.stx,x=>[.i .i64 (eH.txn x),.i .i64 (eH.da x),sc d .op (eH.ops x)]|.kV,x=>[.i .i64 (cS.id x),sc d .di (cS.base x),.s (cS.log x),.b (cS.up x),sc d .di (cS.legs x),sc d .stx (cS.cB x)]|.ctx,x=>[.i .i64 (dW.txn x),.i .i64 (dW.kL x),.i .i64 (dW.back x),sc d .str (dW.fI x).legs,.s (dW.fI x).iP,.i .i64 (dW.fI x).cM,.i .i64 (dW.dV x),.i .i64 (dW.da x),sc d (.int .i64) (dW.eI x),sc d (.int .i64) (dW.yes x),sc d (.int .i64) (dW.jb x),.i .i64 (dW.la x)]|.e9,x=>[sc d .di (dD.net x),sc d (.int .i64) (dD.mB x),sc d .iP (dD.gU x),.s (dD.log x),.b (dD.up x),.i .i64 (dD.next x),sc d .ctx (dD.cB x)]|.nT,x=>[.i .i64 (iG.kL x),.s (iG.text x)]|.world,x=>[sc d .di (World.e9 x).net,sc d (.int .i64) (World.e9 x).mB,sc d .iP (World.e9 x).gU,.s (World.e9 x).log,.b (World.e9 x).up,.i .i64 (World.e9 x).next,sc d .ctx (World.e9 x).cB,sc d .kV (World.eI x),sc d .msg (World.ga x),sc d .nT (World.told x)]|.event,x=>[.i .i64 (Event.kind x),.i .i64 (Event.at' x),.i .i64 (Event.n x),.b (Event.jq x),sc d .str (Event.fI x).legs,.s (Event.fI x).iP,.i .i64 (Event.fI x).cM]|.rd,x=>[sc d (.int .u8) (Rd.b x),.i .i64 (Rd.p x)]|.tH,x=>[.s (fo.s x),.i .i64 (fo.at' x),.i .i64 (fo.left x),.b (fo.ok x)]
def jL{t a:Ty}(h:t=a)(e:List (El t)):List (El a):=h ▸e
def eZ(t:Ty):TV->Option (List (El t))
 |.dT a e=>if h:a=t then some (jL h e) else none
 |.fE a e=>if h:a=t then some (jL h e) else none
 |.own _ a e=>if h:a=t then some (jL h e) else none
 |.nil=>some []
 |.gQ=>some []
 |_=>none
def dec:(t:Ty)->List TV->Option (El t)
 |.bool,[.b x]=>some x
 |.int k,[.i u x]=>if u=k then some x else none
 |.str,[.s x]=>some x
 |.hold,[.i .i64 a,.i .i64 b,.i .i64 c]=>some (dj.mk a b c)
 |.di,[.s a,.s b,.s c,.i .i64 d,.i .i64 e,.i .i64 f,g,h,i,j]=>
  match eZ (.int .i64) g,eZ (.int .i64) h,eZ (.int .i64) i,eZ .hold j with
  |some g,some h,some i,some j=>some (cE.mk a b c d e f g h i j)
  |_,_,_,_=>none
 |.mark,[.i .i64 a,.i .i64 b]=>some (Mark.mk a b)
 |.lM,[.i .i64 a,.i .i64 b,.s c,d,e]=>
  match eZ .lM d,eZ .mark e with
  |some d,some e=>some (cn.mk a b c d e)
  |_,_=>none
 |.pair,[.s a,.i .i64 b]=>some (lZ.mk a b)
 |.ins,[.i .i64 a,.i .i64 b,.s c,d]=>
  match eZ .mark d with
  |some d=>some (ey.mk a b c d)
  |_=>none
 |.iP,[.s a,.i .i64 b,.s c]=>some (fx.mk a b c)
 |.fI,[a,.s b,.i .i64 c]=>
  match eZ .str a with
  |some a=>some (cY.mk a b c)
  |_=>none
 |.op,[.s a,.i .i64 b,.i .i64 c,.i .i64 d]=>some (de.mk a b c d)
 |.msg,[.i .i64 a,.i .i64 b,.i .i64 c,.i .i64 d,e,.b f]=>
  match eZ .op e with
  |some e=>some (cR.mk a b c d e f)
  |_=>none
 |.stx,[.i .i64 a,.i .i64 b,c]=>
  match eZ .op c with
  |some c=>some (eH.mk a b c)
  |_=>none
 |.kV,[.i .i64 a,b,.s c,.b d,e,f]=>
  match eZ .di b,eZ .di e,eZ .stx f with
  |some b,some e,some f=>some (cS.mk a b c d e f)
  |_,_,_=>none
 |.ctx,[.i .i64 a,.i .i64 b,.i .i64 c,l,.s f,.i .i64 s,.i .i64 p,.i .i64 A,x,y,z,.i .i64 g]=>
  match eZ .str l,eZ (.int .i64) x,eZ (.int .i64) y,eZ (.int .i64) z with
  |some l,some x,some y,some z=>some (dW.mk a b c (cY.mk l f s) p A x y z g)
  |_,_,_,_=>none
 |.e9,[a,b,c,.s d,.b e,.i .i64 f,g]=>
  match eZ .di a,eZ (.int .i64) b,eZ .iP c,eZ .ctx g with
  |some a,some b,some c,some g=>some (dD.mk a b c d e f g)
  |_,_,_,_=>none
 |.nT,[.i .i64 a,.s b]=>some (iG.mk a b)
 |.world,[a,b,c,.s d,.b e,.i .i64 f,g,h,i,j]=>
  match eZ .di a,eZ (.int .i64) b,eZ .iP c,eZ .ctx g,eZ .kV h,eZ .msg i,eZ .nT j with
  |some a,some b,some c,some g,some h,some i,some j=>some (World.mk (dD.mk a b c d e f g) h i j)
  |_,_,_,_,_,_,_=>none
 |.event,[.i .i64 a,.i .i64 b,.i .i64 c,.b d,l,.s f,.i .i64 s]=>
  match eZ .str l with
  |some l=>some (Event.mk a b c d (cY.mk l f s))
  |_=>none
 |.rd,[a,.i .i64 b]=>
  match eZ (.int .u8) a with
  |some a=>some (Rd.mk a b)
  |_=>none
 |.tH,[.s a,.i .i64 b,.i .i64 c,.b d]=>some (fo.mk a b c d)
 |_,_=>none
inductive Fl where
 |l|s|d
def flat:Ty->Bool|.bool|.int _|.str|.hold|.mark|.pair|.iP|.op|.nT|.tH=>true|_=>false
def vc:Fl->TV->TV|.s,.dT t a=>.own (flat t) t a|.d,.dT t a=>.own true t a|_,v=>v
def je:List Fl->List TV->List TV|f::fs,c::a=>vc f c::je fs a|_,a=>a
inductive Tr (α:Type) where
 |lf
 |nd (l:Tr α) (v:α) (r:Tr α)
def Tr.get{a:Type}(z:a):Tr a->Nat->a|.lf,_=>z|.nd l v r,n=>bif Nat.beq n 0 then v else bif Nat.beq (Nat.mod n 2) 1 then l.get z (Nat.div n 2) else r.get z (Nat.sub (Nat.div n 2) 1)
def Tr.set{a:Type}:Tr a->Nat->a->Tr a|.lf,_,_=>.lf|.nd l v r,n,x=>bif Nat.beq n 0 then .nd l x r else bif Nat.beq (Nat.mod n 2) 1 then .nd (l.set (Nat.div n 2) x) v r else .nd l v (r.set (Nat.sub (Nat.div n 2) 1) x)
def Tr.map{a:Type}(f:a->a):Tr a->Tr a|.lf=>.lf|.nd l v r=>.nd (l.map f) (f v) (r.map f)
def Tr.full{a:Type}(z:a):Nat->Tr a|0=>.lf|n+1=>.nd (Tr.full z n) z (Tr.full z n)
inductive BC where
 |none
 |cells (cs:List TV)
 |vec (t:Ty) (xs:List (El t))
 |iy (x:cq)
structure TS where
 t:Tr TV
 h:Tr BC
def tI{R:Type}(b:Bool)(x y:Option R):Option R:=cond b x y
def ck{a R:Type}(o:Option a)(f:a->Option R):Option R:=Option.bind o f
def dJ(b:Bool):Option Unit:=cond b (some ()) none
def cw(k:IntKind)(a b:Int):Int:=k.wrap (a+b)
def cQ(k:IntKind)(a b:Int):Int:=k.wrap (a-b)
def ez(k:IntKind)(a b:Int):Int:=k.wrap (a*b)
def jB(k:IntKind)(a b:Int):Option Int:=if b=0 then none else some (k.wrap (a.tdiv b))
def jY(a b:Int):Option Int:=if b=0 then none else some (a.tmod b)
def gW(k:IntKind)(a b:Int):Int:=k.wrap (BitVec.ofInt k.bits a&&&BitVec.ofInt k.bits b).toNat
def lC(k:IntKind)(a b:Int):Int:=k.wrap (BitVec.ofInt k.bits a|||BitVec.ofInt k.bits b).toNat
def eP(k:IntKind)(a b:Int):Int:=k.wrap (BitVec.ofInt k.bits a^^^BitVec.ofInt k.bits b).toNat
def WD(k:IntKind)(a b:Int):Int:=k.wrap (BitVec.ofInt k.bits a&&&~~~BitVec.ofInt k.bits b).toNat
def tj(k:IntKind)(a:Int):Int:=eP k (if k.signed then-1 else k.max) a
def oW(k:IntKind)(a b:Int):Option Int:=if b<0 then none else some (k.wrap (a*2^min b.toNat k.bits))
def ko(k:IntKind)(a b:Int):Option Int:=if b<0 then none else some (a.fdiv (2^min b.toNat k.bits))
def eK(k:IntKind)(a:Int):Int:=k.wrap a
def gj(k:IntKind)(a:Int):Int:=k.wrap (0-a)
def cp(a b:Int):Bool:=decide (a=b)
def cA(a b:Int):Bool:=decide (a<b)
def dz(a b:Int):Bool:=decide (a<=b)
def zp(a b:Int):Int:=if b<a then b else a
def imax(a b:Int):Int:=if b>a then b else a
def oX(a b:Int):Int:=a+b
def xb(a b:Int):Int:=a-b
def cD(a:Bool):Bool:=!a
def kq(a b:Bool):Bool:=decide (a=b)
def fC(a b:Bool):Bool:=a&&b
def eg(a:cq):Int:=a.length
def iq(a:cq)(n:Int):Option Int:=if 0<=n then(a[n.toNat]?).map (λc=>(c.toNat:Int)) else none
def fg(a:cq)(l h:Int):Option cq:=if 0<=l/\l<=h/\h<=a.length then some ((a.drop l.toNat).take (h.toNat-l.toNat)) else none
def cV(a b:cq):Option cq:=if((a.length+b.length:Nat):Int)>IntKind.i64.max then none else some (a++b)
def dm(a b:cq):Bool:=decide (a=b)
def PA(a b:cq):Bool:=Op.bytesLess a b
def dB(a:cq):List Int:=a.map λc=>(c.toNat:Int)
def iQ(a:List Int):cq:=a.map λn=>UInt8.ofNat n.toNat
def cz{e:Type}(a:List e):Int:=a.length
def cm{α:Type}(a:List α)(n:Int):Option α:=if 0<=n then a[n.toNat]? else none
def db{α:Type}(a:List α)(n:Int)(x:α):List α:=a.set n.toNat x
def eR{e:Type}(a:List e)(l h:Int):Option (List e):=if 0<=l/\l<=h/\h<=a.length then some ((a.drop l.toNat).take (h.toNat-l.toNat)) else none
def oY{e:Type}(a:List e)(l h:Int):Bool:=decide (l=0/\h=a.length)
def kr(l h n:Int):Bool:=decide (0<=l/\l<=h/\h<=n)
def cT{j:Type}(e:Nat)(a b:List j):Option (List j):=if 2*(a.length+b.length)*e<=2^48/\a.length+b.length<=2^62 then some (a++b) else none
def tk{α:Type}(n:Nat)(x:α):List α:=List.replicate n x
def xj{e:Type}(a:Nat)(n m:Int)(x:e):Option (List e):=if 0<=n/\n<=m/\m*a<=2^48/\m<=2^62 then some (List.replicate n.toNat x) else none
section
inductive TI where
 |bool
 |int (k:IntKind)
 |str
 |sl (e:Ty) (sz fR:Nat)
 |st (t:Ty) (n:Nat) (fs:List (Nat×Nat))
 |ar (n:Nat) (e:Ty)
 |ptr
 |r8
 |iy
 |other
def TI.sz:TI->Nat|.st _ n _=>n|.ar n _=>n|_=>1
def TI.ag:TI->Bool|.st ..=>true|.ar ..=>true|_=>false
def lx:List (Nat×TI)->Nat->TI|[],_=>.other|(k,i)::r,n=>bif Nat.beq k n then i else lx r n
def jf:TI->TV->Bool|.bool,.b _=>true|.int _,.i _ _=>true|.str,.s _=>true|.st _ _ _,.agg _=>true|.r8,.er _=>true|.r8,.lA=>true|.ar _ e,.vec t _=>decide (e=t)|.ar _ e,.iv t _=>decide (e=t)|.ar _ _,.ptr _ _=>true|.sl e _ _,.dT t _=>decide (e=t)|.sl e _ _,.fE t _=>decide (e=t)|.sl e _ _,.own _ t _=>decide (e=t)|.sl e _ _,.vw _ t=>decide (e=t)|.sl e _ _,.sl _ t _ _=>decide (e=t)|.sl _ _ _,.nil=>true|.sl _ _ _,.gQ=>true|_,_=>false
def Cc:TI->Bool|.sl (.int .u8) _ _=>true|_=>false
def TI.var:TI->Bool|.other=>false|.iy=>false|_=>true
def gk:Ty->Bool|.bool|.int _|.str=>false|_=>true
inductive VS where
 |el (t:Ty) (m:List Fl)
 |sl (f:Fl) (t:Ty)
 |fE (t:Ty)
 |vec (t:Ty)
 |er
def VS.T:VS->Type|.el t _=>El t|.sl _ t=>List (El t)|.fE t=>List (El t)|.vec t=>List (El t)|.er=>Bool
inductive dL where
 |val (s:VS)
 |pb (t:Ty) (m m':List Fl)
 |pr (t:Ty)
 |mu (t:Ty)
 |rp (t:Ty)
 |bd
 |fn (g:Nat) (ts:List Ty)
inductive fh where
 |val (s:VS)
 |nb (t:Ty) (m:List Fl)
def qg:List Ty->Type|[]=>Unit|t::a=>El t×qg a
def dL.T:dL->Type|.val s=>s.T|.pb t _ _=>El t|.pr t=>List (El t)×Int|.mu t=>List (El t)|.rp t=>El t|.bd=>cq|.fn _ a=>qg a
def dL.O:dL->Type|.val _=>Unit|.pb t _ _=>El t|.pr t=>List (El t)|.mu t=>List (El t)|.rp _=>Unit|.bd=>cq|.fn _ _=>Unit
def fh.T:fh->Type|.val s=>s.T|.nb t _=>El t
def og:List dL->Type|[]=>Unit|p::a=>p.T×og a
def nE:List dL->Type|[]=>Unit|p::a=>p.O×nE a
def jQ:List fh->Type|[]=>Unit|p::a=>p.T×jQ a
structure gq where
 ps:List dL
 rs:List fh
 tn:Bool
 X:Type
 f:og ps->Option X
 back:X->jQ rs×nE ps
inductive fp where
 |val (s:VS)
 |ptr (k c:Nat)
 |vw (p:Pl) (t:Ty)
 |sv (p:Pl) (t:Ty)
 |ep (p:Pl) (t:Ty) (c:Nat)
 |fn (g:Nat) (ts:List Ty)
inductive gh where
 |st (t:Ty) (m:List Fl)
 |one (s:VS)
 |vec (t:Ty)
 |zr (cs:List TV)
 |iy
def fp.T:fp->Type|.val s=>s.T|.ptr _ _=>Unit|.vw _ _=>Unit|.sv _ _=>Int×Int|.ep _ _ _=>Int|.fn _ a=>qg a
def gh.T:gh->Type|.st t _=>El t|.one s=>s.T|.vec t=>List (El t)|.zr _=>Unit|.iy=>cq
structure Live where
 sl:List (Nat×fp)
 bx:List (Nat×gh)
def Gq:List (Nat×fp)->Type|[]=>Unit|p::a=>p.2.T×Gq a
def Gr:List (Nat×gh)->Type|[]=>Unit|p::a=>p.2.T×Gr a
abbrev Live.V(l:Live):Type:=Gq l.sl×Gr l.bx
structure PL (R:Type) where
 si:Live
 so:Live
 L:si.V->(so.V->Option R)->Option R
def FU:List (Nat×Nat×gq)->Nat->Option Nat->Option gq
 |[],_,_=>none
 |(g,h,c)::r,x,y=>bif (bif Nat.beq g x then Nat.beq h (match y with|none=>0|some y=>Nat.succ y) else false) then some c else FU r x y
structure Cx where
 ty:List (Nat×TI)
 gl:Nat->TV
 fz:Pl->Bool
 vd:Bool
 al:Nat->Bool
 vs:Nat->Bool
 pre:Nat->List Pl
 fn:Nat->Option Nat->Option gq
 gb:Nat->Option Obj:=λ_=>none
structure Ctx (R:Type) where
 c:Cx
 loops:Nat->Option (PL R)
 CC:TS->Option R
def qh:Value->TV|.bool x=>.b x|.int k n=>.i k n|.string x=>.s x.data.toList|.slice none 0 0=>.nil|.nilIface=>.lA|.pointer none=>.np|_=>.un
def xk:Value->TV|.agg a=>.agg (a.toList.map qh)|v=>qh v
def nth:List TV->Nat->TV|[],_=>.un|v::_,0=>v|_::r,n+1=>nth r n
def kJ:List TV->Nat->TV->List TV|[],_,_=>[]|_::r,0,x=>x::r|v::r,n+1,x=>v::kJ r n x
def takeN:Nat->List TV->List TV|0,_=>[]|_,[]=>[]|n+1,v::r=>v::takeN n r
def uM:Nat->List TV->List TV|0,l=>l|_,[]=>[]|n+1,_::r=>uM n r
def CD:List TV->List TV->List TV|[],l=>l|v::r,l=>v::CD r l
def pZ:List TV->Nat|[]=>0|_::r=>Nat.succ (pZ r)
def o4(a:List TV)(c:Nat)(e:List TV):List TV:=CD (takeN c a) (CD e (uM (Nat.add c (pZ e)) a))
def Pl.lD(k:Nat):Pl->Bool|.slot a=>Nat.beq k a|.cell _ _=>false|.sub p _ _ _=>p.lD k
def Pl.gK(k:Nat):Pl->Bool|.slot _=>false|.cell a _=>Nat.beq k a|.sub p _ _ _=>p.gK k
def Pl.nF(k:Nat):Pl->Bool|.sub p _ _ _=>p.lD k|_=>false
def Pl.nG(k:Nat):Pl->Bool|.sub p _ _ _=>p.gK k|_=>false
def Pl.ji:Pl->Pl->Bool|.slot k=>Pl.lD k|.cell k _=>Pl.gK k|.sub p _ _ _=>p.ji
def Pl.jn:Pl->Bool|.sub ..=>true|_=>false
def Pl.beq:Pl->Pl->Bool|.slot k,.slot a=>Nat.beq k a|.cell k c,.cell a e=>bif Nat.beq k a then Nat.beq c e else false|_,_=>false
def j9(a:Pl->Bool):TV->TV|.vw p t=>bif a p then .un else .vw p t|.pa p t e=>bif a p then .un else .pa p t e|.sl p t j u=>bif a p then .un else .sl p t j u|.ep p t r c=>bif a p then .un else .ep p t r c|v=>v
def kill(a:Pl->Bool):TV->TV|.agg e=>.agg (e.map (j9 a))|v=>j9 a v
def TS.kill(s:TS)(a:Pl->Bool):TS:=⟨s.t.map (Ev.kill a),s.h⟩
def qB(a:Pl->Bool):TV->TV|.pa p t e=>bif a p then .un else .pa p t e|v=>v
def TS.fW(s:TS)(a:Pl->Bool):TS:=⟨s.t.map (Ev.qB a),s.h⟩
def ptrTo(d:Nat):TV->Bool|.ptr k _=>Nat.beq k d|.pe k _=>Nat.beq k d|_=>false
def nn(d:Nat):List TV->Bool|[]=>false|v::a=>bif ptrTo d v then true else nn d a
def fS(d:Nat):TV->TV|.ptr k c=>bif Nat.beq k d then .un else .ptr k c|.pe k n=>bif Nat.beq k d then .un else .pe k n|.fn g a=>bif nn d a then .un else .fn g a|v=>v
def TS.fS(s:TS)(d:Nat):TS:=⟨s.t.map (λv=>Ev.fS d (Ev.kill (Pl.gK d) v)),s.h⟩
def TS.slot(s:TS)(k:Nat):TV:=s.t.get .un k
def TS.box(s:TS)(k:Nat):BC:=s.h.get .none k
def TS.raw(s:TS)(k:Nat)(v:TV):TS:=⟨s.t.set k v,s.h⟩
def TS.bx(s:TS)(k:Nat)(v:BC):TS:=⟨s.t,s.h.set k v⟩
variable(C:Cx)
def TS.put(s:TS)(k:Nat)(v:TV):TS:=bif C.vs k then(s.kill (Pl.lD k)).raw k (Ev.kill (Pl.lD k) v) else s.raw k v
def dZ(s:TS)(d:Option Nat)(v:TV):TS:=
 match d with
 |some d=>s.put C d v
 |none=>s
section
variable{R:Type}
def jN(s:TS):Pl->(TV->Option R)->Option R
 |.slot k,K=>bif C.vs k then K (s.slot k) else none
 |.cell k c,K=>
  match s.box k with
  |.cells j=>K (nth j c)
  |_=>none
 |.sub p t r c,K=>jN s p λv=>
  match v with
  |.own d a e=>bif decide (a=t) then ck (cm e r) λx=>K (nth (enc d a x) c) else none
  |.dT a e=>bif decide (a=t) then ck (cm e r) λx=>K (nth (enc false a x) c) else none
  |_=>none
def O6:TV->Bool|.own _ _ _=>false|.j4 _ _ _ _=>false|.agg _=>false|.eY _=>false|_=>true
def pP:TV->Bool|.dT ..=>false|.fE ..=>false|.own d t _=>bif flat t then true else d|.b _=>true|.i _ _=>true|.s _=>true|.nil=>true|.gQ=>true|_=>false
def deep:List TV->Bool|[]=>true|c::a=>bif pP c then deep a else false
def qL(s:TS):Pl->(TV->(TV->Option R)->Option R)->(TS->Option R)->Option R
 |.slot k,f,K=>bif C.vs k then f (s.slot k) λv=>K ((s.kill (Pl.nF k)).raw k v) else none
 |.cell k c,f,K=>
  match s.box k with
  |.cells e=>f (nth e c) λv=>K ((s.kill (Pl.nG k)).bx k (.cells (kJ e c v)))
  |_=>none
 |.sub p t r c,f,K=>qL s p (λv y=>
  match v with
  |.own true a j=>bif decide (a=t) then ck (cm j r) λx=>f (nth (enc true a x) c) λu=>
   match pP u,dec a (kJ (enc true a x) c u) with
   |true,some A=>y (.own true a (db j r A))
   |_,_=>none
   else none
  |_=>none) K
def mw(s:TS):Pl->(TS->Option R)->Option R
 |.slot k,K=>K ((s.kill (Pl.nF k)).raw k .un)
 |.cell k c,K=>
  match s.box k with
  |.cells e=>K ((s.kill (Pl.nG k)).bx k (.cells (kJ e c .un)))
  |_=>none
 |.sub (.slot k) t r c,K=>
  match s.slot k with
  |.own true a u=>bif decide (a=t) then K ((s.kill (Pl.nF k)).raw k (.j4 a u r c)) else none
  |_=>none
 |.sub (.cell k j) t r c,K=>
  match s.box k with
  |.cells e=>
   match nth e j with
   |.own true a u=>bif decide (a=t) then K ((s.kill (Pl.nG k)).bx k (.cells (kJ e j (.j4 a u r c)))) else none
   |_=>none
  |_=>none
 |.sub _ _ _ _,_=>none
def jZ:TV->TV|.own _ t a=>.dT t a|v=>v
def uC:TV->TV|.own _ t a=>.own (flat t) t a|v=>v
def tp(s:TS):Pl->(TS->Option R)->Option R
 |.slot k,K=>K ((s.fW (Pl.lD k)).raw k (uC (s.slot k)))
 |.cell k c,K=>
  match s.box k with
  |.cells a=>K ((s.fW (Pl.gK k)).bx k (.cells (kJ a c (uC (nth a c)))))
  |_=>none
 |.sub p _ _ _,K=>tp s p K
def rS(s:TS):Pl->(TS->Option R)->Option R
 |.slot k,K=>K ((s.fW (Pl.lD k)).raw k (jZ (s.slot k)))
 |.cell k c,K=>
  match s.box k with
  |.cells a=>K ((s.fW (Pl.gK k)).bx k (.cells (kJ a c (jZ (nth a c)))))
  |_=>none
 |.sub p _ _ _,K=>tp s p K
def J6:List Pl->TS->(TS->Option R)->Option R|[],s,K=>K s|p::a,s,K=>rS s p λe=>J6 a e K
def cv(m:Bool->Pl->Bool)(v:TV)(s:TS)(K:TV->TS->Option R):Option R:=
 match v with
 |.vw p _=>jN C s p λx=>
  match x with
  |.own d t a=>
   match m true p with
   |true=>rS s p λe=>K (.dT t a) e
   |false=>mw s p λe=>K (.own d t a) e
  |.dT t a=>K (.dT t a) s
  |_=>none
 |.sl p t0 j u=>jN C s p λx=>
  match x with
  |.own d t a=>bif decide (t=t0) then(
   match m false p with
   |true=>ck (eR a j u) λy=>rS s p λe=>K (.dT t y) e
   |false=>ck (dJ (oY a j u)) λ_=>mw s p λe=>K (.own d t a) e) else none
  |.dT t a=>bif decide (t=t0) then ck (eR a j u) λy=>K (.dT t y) s else none
  |_=>none
 |.own d t a=>K (.own d t a) s
 |.dT t a=>K (.dT t a) s
 |.fE t a=>K (.dT t a) s
 |.b x=>K (.b x) s
 |.i k n=>K (.i k n) s
 |.s x=>K (.s x) s
 |.nil=>K .nil s
 |.gQ=>K .gQ s
 |_=>none
def pn(m:Bool->Pl->Bool):List TV->TS->(List TV->TS->Option R)->Option R|[],s,K=>K [] s|v::j,s,K=>cv C m v s λu x=>pn m j x λa e=>K (u::a) e
def viewAt(p:Pl):TV->TV|.own _ t _=>.vw p t|.j4 t _ _ _=>.vw p t|v=>v
def rL(p:Nat->Pl):Nat->List TV->List TV|_,[]=>[]|j,v::a=>viewAt (p j) v::rL p (Nat.succ j) a
def mU(k:Nat):TV->TV|.own _ t _=>bif C.vs k then .vw (.slot k) t else .un|.j4 t _ _ _=>bif C.vs k then .vw (.slot k) t else .un|v=>v
def cZ(s:TS):Operand->TV|.tmp k=>mU C k (s.slot k)|.const v=>xk v|.global g=>C.gl g|.func n=>.fn n []
def ir(s:TS):Operand->TS
 |.tmp k=>
  match s.slot k with
  |.agg _=>s.raw k .un
  |.eY _=>s.raw k .un
  |_=>s
 |_=>s
def Cx.cX(n:Nat):TI:=lx C.ty n
def tq:List (Nat×Nat)->Nat->List TV->List TV->Bool
 |[],_,[],[]=>true
 |(a,x)::r,n,c::e,d::j=>bif Nat.beq a n then(
  match C.cX x,c,d with
  |.int k,.i y _,.i u _=>bif decide (y=k) then(bif decide (u=k) then tq r (Nat.succ n) e j else false) else false
  |.str,.s _,.s _=>tq r (Nat.succ n) e j
  |.bool,.b _,.b _=>tq r (Nat.succ n) e j
  |_,_,_=>false) else false
 |_,_,_,_=>false
def Gt(a:TI)(x y:TV):Bool:=
 match x,y with
 |.i _ _,_=>true
 |.s _,_=>true
 |.agg e,.agg j=>
  match a with
  |.st _ _ fs=>tq C fs 0 e j
  |_=>false
 |x,_=>jf a x
def Cx.md(w:Bool)(p:Pl):Bool:=bif w then C.fz p else bif C.vd then C.fz p else true
def cellsOf:TV->List TV|.agg a=>a|v=>[v]
def rM(e:Bool)(a:List TV):TV:=bif e then .agg a else nth a 0
def room(c n:Nat)(a:List TV):Bool:=Nat.ble (Nat.add c n) (pZ a)
def tJ(s:TS)(n:Nat)(u:Bool)(a:TV)(K:TV->Option R):Option R:=
 match a with
 |.ptr k c=>
  match s.box k with
  |.cells A=>bif room c n A then K (rM u (rL (λj=>.cell k (Nat.add c j)) 0 (takeN n (uM c A)))) else none
  |.vec t e=>bif u then(bif Nat.beq c 0 then ck (dJ (cp (cz e) n)) λ_=>K (.vec t e) else none) else none
  |_=>none
 |.pe k r=>
  match s.box k with
  |.vec t e=>ck (cm e r) λx=>bif u then none else K (nth (enc false t x) 0)
  |_=>none
 |.ep p t r c=>jN C s p λv=>
  match v with
  |.own d y e=>bif decide (y=t) then ck (cm e r) λx=>bif room c n (enc d y x) then K (rM u (rL (λj=>.sub p t r (Nat.add c j)) 0 (takeN n (uM c (enc d y x))))) else none else none
  |.dT y e=>bif decide (y=t) then ck (cm e r) λx=>bif room c n (enc false y x) then K (rM u (takeN n (uM c (enc false y x)))) else none else none
  |_=>none
 |.ip A c=>bif room c n A then K (rM u (takeN n (uM c A))) else none
 |.iv t e=>bif u then ck (dJ (cp (cz e) n)) λ_=>K (.vec t e) else none
 |_=>none
def one?(t:Ty)(a:List TV)(K:El t->Option R):Option R:=
 match dec t a with
 |some x=>K x
 |none=>none
def J7:TV->TV->Bool|.pa (.sub q t r c) _ _,.ep p a j e=>bif Pl.beq p q then(bif decide (a=t) then Nat.beq c e else false) else false|_,_=>false
def Gu(s:TS)(n:Nat)(a:TV)(v:TV)(K:TS->Option R):Option R:=
 match v with
 |.vec t j=>
  match a with
  |.ptr k c=>
   match s.box k with
   |.vec e E=>bif decide (e=t) then(bif Nat.beq c 0 then ck (dJ (fC (cp (cz j) n) (cp (cz E) n))) λ_=>K ((s.kill (Pl.gK k)).bx k (.vec t j)) else none) else none
   |_=>none
  |_=>none
 |.pa (.sub q P r M) t j=>
  match a with
  |.ep p e F I=>bif (bif J7 (.pa (.sub q P r M) t j) (.ep p e F I) then Nat.beq n 1 else false) then ck (dJ (cp r F)) λ_=>qL C s p (λv H=>
   match v with
   |.own true u E=>bif decide (u=e) then ck (cm E r) λy=>one? u (kJ (enc true u y) M (.own true t j)) λQ=>H (.own true u (db E r Q)) else none
   |_=>none) K else none
  |_=>none
 |v=>bif Nat.beq (pZ (cellsOf v)) n then pn C C.md (cellsOf v) s λA s=>
  match a with
  |.ptr k c=>
   match s.box k with
   |.cells N=>bif room c n N then K ((s.kill (Pl.gK k)).bx k (.cells (o4 N c A))) else none
   |_=>none
  |.pe k r=>
   match s.box k with
   |.vec t j=>one? t A λx=>ck (cm j r) λ_=>K ((s.kill (Pl.gK k)).bx k (.vec t (db j r x)))
   |_=>none
  |.ep p t r c=>qL C s p (λv H=>
   match v with
   |.own d e j=>bif decide (e=t) then ck (cm j r) λx=>bif room c n (enc d e x) then one? e (o4 (enc d e x) c A) λJ=>H (.own (bif flat e then true else bif deep A then d else false) e (db j r J)) else none else none
   |.j4 e j F I=>bif decide (e=t) then ck (dJ (cp F r)) λ_=>ck (cm j r) λx=>one? e (o4 (enc true e x) c A) λJ=>bif (bif Nat.beq c I then(bif Nat.beq (pZ A) 1 then deep A else false) else false) then H (.own true e (db j r J)) else none else none
   |_=>none) K
  |_=>none
  else none
def qM(a:TV)(n:Nat)(K:TV->Option R):Option R:=
 match a with
 |.ptr k c=>K (.ptr k (Nat.add c n))
 |.ep p t r c=>K (.ep p t r (Nat.add c n))
 |.ip e c=>K (.ip e (Nat.add c n))
 |.pe k r=>bif Nat.beq n 0 then K (.pe k r) else none
 |.iv t j=>bif Nat.beq n 0 then K (.iv t j) else none
 |_=>none
def TI.len:TI->Nat|.ar n _=>n|_=>0
def TI.Xd:TI->Ty|.sl e _ _=>e|.ar _ e=>e|_=>.bool
def tK(s:TS)(e:Ty)(j:Nat)(x E:TV)(K:TV->Option R):Option R:=
 match E with
 |.i _ n=>
  match x with
  |.vw p _=>jN C s p λv=>
   match v with
   |.own _ t a=>bif decide (e=t) then ck (cm a n) λ_=>K (.ep p t n 0) else none
   |.j4 t a _ _=>bif decide (e=t) then ck (cm a n) λ_=>K (.ep p t n 0) else none
   |.dT t a=>bif decide (e=t) then ck (cm a n) λx=>K (.ip (enc false t x) 0) else none
   |_=>none
  |.sl p t0 u A=>jN C s p λv=>
   match v with
   |.own _ t a=>bif decide (t=t0) then ck (eR a u A) λy=>ck (cm y n) λ_=>K (.ep p t (oX u n) 0) else none
   |.dT t a=>bif decide (t=t0) then ck (eR a u A) λy=>ck (cm y n) λx=>K (.ip (enc false t x) 0) else none
   |_=>none
  |.dT t a=>ck (cm a n) λx=>K (.ip (enc false t x) 0)
  |.fE t a=>ck (cm a n) λx=>K (.ip (enc false t x) 0)
  |.ptr k c=>
   match s.box k with
   |.vec t a=>bif decide (e=t) then(bif Nat.beq c 0 then ck (dJ (cA n j)) λ_=>ck (cm a n) λ_=>K (.pe k n) else none) else none
   |_=>none
  |.iv t a=>ck (dJ (cA n j)) λ_=>ck (cm a n) λx=>K (.ip (enc false t x) 0)
  |_=>none
 |_=>none
def js:List TV->List TV->Option Bool
 |[],[]=>some true
 |[.i _ a],[.i _ c]=>some (cp a c)
 |[.s a],[.s c]=>some (dm a c)
 |[.b a],[.b c]=>some (kq a c)
 |.i _ a::r,.i _ c::e=>match js r e with|some q=>some (fC (cp a c) q)|none=>none
 |.s a::r,.s c::e=>match js r e with|some q=>some (fC (dm a c) q)|none=>none
 |.b a::r,.b c::e=>match js r e with|some q=>some (fC (kq a c) q)|none=>none
 |_,_=>none
def zB(e:BinOp)(k:IntKind)(a c:Int)(K:TV->Option R):Option R:=
 match e with
 |.add=>K (.i k (cw k a c))
 |.sub=>K (.i k (cQ k a c))
 |.mul=>K (.i k (ez k a c))
 |.quo=>ck (jB k a c) λn=>K (.i k n)
 |.rem=>ck (jY a c) λn=>K (.i k n)
 |.and=>K (.i k (gW k a c))
 |.or=>K (.i k (lC k a c))
 |.xor=>K (.i k (eP k a c))
 |.andNot=>K (.i k (WD k a c))
 |.eql=>K (.b (cp a c))
 |.neq=>K (.b (cD (cp a c)))
 |.lss=>K (.b (cA a c))
 |.leq=>K (.b (dz a c))
 |.gtr=>K (.b (cA c a))
 |.geq=>K (.b (dz c a))
 |.shl=>ck (oW k a c) λn=>K (.i k n)
 |.shr=>ck (ko k a c) λn=>K (.i k n)
def K9:BinOp->Bool|.shl|.shr=>true|_=>false
def CS(e:BinOp)(x y:TV)(K:TV->Option R):Option R:=
 match x,y with
 |.i k a,.i j c=>bif K9 e then zB e k a c K else bif decide (j=k) then zB e k a c K else none
 |.s a,.s c=>
  match e with
  |.add=>ck (cV a c) λr=>K (.s r)
  |.eql=>K (.b (dm a c))
  |.neq=>K (.b (cD (dm a c)))
  |.lss=>K (.b (PA a c))
  |_=>none
 |.b a,.b c=>
  match e with
  |.eql=>K (.b (kq a c))
  |.neq=>K (.b (cD (kq a c)))
  |_=>none
 |.er a,.lA=>
  match e with
  |.eql=>K (.b (cD a))
  |.neq=>K (.b a)
  |_=>none
 |.agg a,.agg c=>
  match e,js a c with
  |.eql,some q=>K (.b q)
  |.neq,some q=>K (.b (cD q))
  |_,_=>none
 |_,_=>none
def La(e:UnOp)(x:TV)(K:TV->Option R):Option R:=
 match e,x with
 |.neg,.i k n=>K (.i k (gj k n))
 |.not,.b a=>K (.b (cD a))
 |.xor,.i k n=>K (.i k (tj k n))
 |_,_=>none
def Gc(s:TS)(x:TV)(K:Int->Option R):Option R:=
 match x with
 |.s a=>K (eg a)
 |.dT _ e=>K (cz e)
 |.fE _ e=>K (cz e)
 |.nil=>K 0
 |.gQ=>K 0
 |.vw p _=>jN C s p λv=>
  match v with
  |.own _ _ e=>K (cz e)
  |.j4 _ e _ _=>K (cz e)
  |.dT _ e=>K (cz e)
  |_=>none
 |.sl _ _ j u=>K (xb u j)
 |_=>none
def gY(s:TS)(d:Int):Option Operand->Option Int
 |none=>some d
 |some x=>
  match cZ C s x with
  |.i _ n=>some n
  |_=>none
def zq{t:Ty}(a:List (El t))(l h m:Int)(K:TV->Option R):Option R:=ck (dJ (cp m h)) λ_=>ck (eR a l h) λe=>K (.fE t e)
def r9(s:TS)(x:TV)(u j y:Option Operand)(K:TV->Option R):Option R:=
 match x with
 |.s a=>
  match gY C s 0 u,gY C s (eg a) j,y with
  |some l,some h,none=>ck (fg a l h) λr=>K (.s r)
  |_,_,_=>none
 |.dT t e=>
  match gY C s 0 u,gY C s (cz e) j,y with
  |some l,some h,none=>ck (eR e l h) λA=>K (.dT t A)
  |some l,some h,some m=>
   match j,gY C s 0 (some m) with
   |some _,some m=>zq e l h m K
   |_,_=>none
  |_,_,_=>none
 |.fE t e=>
  match gY C s 0 u,gY C s (cz e) j,y with
  |some l,some h,none=>ck (eR e l h) λA=>K (.dT t A)
  |some l,some h,some m=>
   match j,gY C s 0 (some m) with
   |some _,some m=>zq e l h m K
   |_,_=>none
  |_,_,_=>none
 |.vw p t=>jN C s p λv=>
  match v with
  |.own _ E e=>bif decide (E=t) then(match gY C s 0 u,gY C s (cz e) j,y with
   |some l,some h,none=>ck (dJ (kr l h (cz e))) λ_=>K (.sl p t l h)
   |some l,some h,some m=>
    match j,gY C s 0 (some m) with
    |some _,some m=>ck (dJ (fC (kr l h (cz e)) (cp m h))) λ_=>K (.sl p t l h)
    |_,_=>none
   |_,_,_=>none) else none
  |.dT E e=>bif decide (E=t) then(match gY C s 0 u,gY C s (cz e) j,y with
   |some l,some h,none=>ck (eR e l h) λA=>K (.dT E A)
   |_,_,_=>none) else none
  |_=>none
 |.sl p t a b=>
  match gY C s 0 u,gY C s (xb b a) j,y with
  |some l,some h,none=>ck (dJ (kr l h (xb b a))) λ_=>K (.sl p t (oX a l) (oX a h))
  |_,_,_=>none
 |.nil=>
  match gY C s 0 u,gY C s 0 j,y with
  |some l,some h,none=>ck (dJ (fC (cp l 0) (cp h 0))) λ_=>K .nil
  |some l,some h,some m=>
   match j,gY C s 0 (some m) with
   |some _,some m=>ck (dJ (fC (cp l 0) (fC (cp h 0) (cp m 0)))) λ_=>K .nil
   |_,_=>none
  |_,_,_=>none
 |.gQ=>
  match gY C s 0 u,gY C s 0 j,y with
  |some l,some h,none=>ck (dJ (fC (cp l 0) (cp h 0))) λ_=>K .gQ
  |some l,some h,some m=>
   match j,gY C s 0 (some m) with
   |some _,some m=>ck (dJ (fC (cp l 0) (fC (cp h 0) (cp m 0)))) λ_=>K .gQ
   |_,_=>none
  |_,_,_=>none
 |_=>none
def castLT{R:Type}(t a:Ty)(e:List (El t))(K:List (El a)->Option R):Option R:=if h:t=a then K (jL h e) else none
def l5(t:Ty)(y:TV)(s:TS)(K:Bool->List (El t)->TS->Option R):Option R:=
 match y with
 |.dT j e=>castLT j t e λe=>K (flat t) e s
 |.fE j e=>castLT j t e λe=>K (flat t) e s
 |.nil=>K true [] s
 |.gQ=>K true [] s
 |.s a=>castLT (.int .u8) t (dB a) λe=>K true e s
 |.vw p _=>
  bif flat t then jN C s p λv=>
   match v with
   |.own _ j e=>castLT j t e λe=>K true e s
   |.dT j e=>castLT j t e λe=>K true e s
   |_=>none
  else cv C C.md y s λv u=>
   match v with
   |.own d j e=>castLT j t e λe=>K d e u
   |.dT j e=>castLT j t e λe=>K false e u
   |_=>none
 |.sl p t0 x A=>
  bif flat t then jN C s p λv=>
   match v with
   |.own _ j e=>bif decide (j=t0) then ck (eR e x A) λe=>castLT j t e λe=>K true e s else none
   |.dT j e=>bif decide (j=t0) then ck (eR e x A) λe=>castLT j t e λe=>K true e s else none
   |_=>none
  else cv C (λ_ _=>true) y s λv u=>
   match v with
   |.dT j e=>castLT j t e λe=>K false e u
   |_=>none
 |_=>none
def xn(t:Ty)(a:Nat)(x y:TV)(s:TS)(K:TV->TS->Option R):Option R:=
 l5 C t y s λd u s=>
  match x with
  |.vw p _=>jN C s p λv=>
   match v with
   |.own E A j=>castLT A t j λj=>ck (cT a j u) λe=>
    bif p.jn then(bif flat t then K (.pa p t e) (s.fW p.ji) else none) else mw s p λF=>K (.own (bif flat t then true else bif d then E else false) t e) F
   |_=>none
  |.nil=>ck (cT a [] u) λe=>K (.own d t e) s
  |.gQ=>ck (cT a [] u) λe=>K (.own d t e) s
  |.fE A j=>castLT A t j λj=>ck (dJ (cA 0 (cz u))) λ_=>ck (cT a j u) λe=>K (.own (flat t) t e) s
  |_=>none
def nv:List (Nat×Nat)->Nat->Option (Nat×Nat)|[],_=>none|f::_,0=>some f|_::r,n+1=>nv r n
def fill(fs:List (Nat×Nat)):List (Nat×Operand)->List TV->TS->(List TV->TS->Option R)->Option R
 |[],z,s,K=>K z s
 |(i,x)::r,z,s,K=>
  match nv fs i with
  |some (a,e)=>bif Nat.beq (pZ (cellsOf (cZ C s x))) (C.cX e).sz then(bif room a (C.cX e).sz z then pn C C.md (cellsOf (cZ C s x)) (ir s x) λj u=>fill fs r (o4 z a j) u K else none) else none
  |none=>none
def zTI:TI->List TV|.bool=>[.b false]|.int k=>[.i k 0]|.str=>[.s []]|.sl ..=>[.nil]|_=>[.un]
def zero:Nat->Nat->List TV
 |0,_=>[]
 |f+1,t=>
  match C.cX t with
  |.st _ _ fs=>fs.foldr (λp r=>CD (zero f p.2) r) []
  |i=>zTI i
def po:(t:Ty)->El t|.bool=>false|.int _=>(0:Int)|.str=>([]:cq)|.hold=>dj.mk 0 0 0|.di=>cE.mk [] [] [] 0 0 0 [] [] [] []|.mark=>Mark.mk 0 0|.lM=>cn.mk 0 0 [] [] []|.pair=>lZ.mk [] 0|.ins=>ey.mk 0 0 [] []|.iP=>fx.mk [] 0 []|.fI=>cY.mk [] [] 0|.op=>de.mk [] 0 0 0|.msg=>cR.mk 0 0 0 0 [] false|.stx=>eH.mk 0 0 []|.kV=>cS.mk 0 [] [] false [] []|.ctx=>dW.mk 0 0 0 (cY.mk [] [] 0) 0 0 [] [] [] 0|.e9=>dD.mk [] [] [] [] false 0 []|.nT=>iG.mk 0 []|.world=>World.mk (dD.mk [] [] [] [] false 0 []) [] [] []|.event=>Event.mk 0 0 0 false (cY.mk [] [] 0)|.rd=>Rd.mk [] 0|.tH=>fo.mk [] 0 0 false
def wQ(t:Ty)(e:Nat):List (Nat×Operand)->Nat->TS->(Bool->List (El t)->TS->Option R)->Option R|[],_,s,K=>K true [] s|(i,x)::r,n,s,K=>bif Nat.beq i n then(bif Nat.beq (pZ (cellsOf (cZ C s x))) e then pn C (λ_ p=>C.fz p) (cellsOf (cZ C s x)) (ir s x) λj u=>one? t j λv=>wQ t e r (Nat.succ n) u λd y a=>K (bif flat t then true else bif deep j then d else false) (v::y) a else none) else none
def o5:Fl->TV->Bool|.l,_=>true|_,.b _=>true|_,.i _ _=>true|_,.s _=>true|_,.nil=>true|_,.gQ=>true|.s,.own _ _ _=>true|.d,.own d t _=>bif flat t then true else d|_,_=>false
def okF:List Fl->List TV->Bool|f::fs,c::a=>bif o5 f c then okF fs a else false|_,_=>true
def VS.dec:(s:VS)->TV->Option s.T
 |.el t m,v=>
  match v with
  |.agg j=>bif gk t then(bif okF m j then Ev.dec t j else none) else none
  |v=>bif gk t then none else Ev.dec t [v]
 |.sl f t,v=>bif o5 f v then eZ t v else none
 |.fE t,v=>
  match v with
  |.fE a e=>if h:a=t then some (jL h e) else none
  |_=>none
 |.vec t,v=>
  match v with
  |.vec a e=>if h:a=t then some (jL h e) else none
  |_=>none
 |.er,v=>
  match v with
  |.er x=>some x
  |.lA=>some false
  |_=>none
def VS.enc:(s:VS)->s.T->TV|.el t m,x=>bif gk t then .agg (je m (Ev.enc false t x)) else nth (Ev.enc false t x) 0|.sl f t,x=>vc f (.dT t x)|.fE t,x=>.fE t x|.vec t,x=>.vec t x|.er,x=>.er x
def fJ(k:Nat):List Nat->Bool|[]=>false|x::r=>bif Nat.beq k x then true else fJ k r
def opsL:List Operand->List Nat|[]=>[]|.tmp k::a=>k::opsL a|_::a=>opsL a
def whole:TV->Bool|.agg _=>false|.eY _=>false|_=>true
def uX(s:TS):List Operand->Bool|[]=>false|.tmp k::a=>bif whole (s.slot k) then uX s a else(bif fJ k (opsL a) then true else uX s a)|_::a=>uX s a
def ks(s:TS):(a:List Ty)->List TV->(qg a->Option R)->Option R
 |[],[],K=>K ()
 |t::a,.ip e 0::j,K=>one? t e λx=>ks s a j λu=>K (x,u)
 |t::a,.ptr k 0::j,K=>
  match s.box k with
  |.cells e=>one? t e λx=>ks s a j λu=>K (x,u)
  |_=>none
 |_,_,_=>none
def uN(s:TS)(v:TV)(K:TV->Option R):Option R:=
 match v with
 |.vw p _=>jN C s p λx=>
  match x with
  |.own _ t a=>K (.dT t a)
  |.dT t a=>K (.dT t a)
  |_=>none
 |.sl p t0 j u=>jN C s p λx=>
  match x with
  |.own _ t a=>bif decide (t=t0) then ck (eR a j u) λe=>K (.dT t e) else none
  |.dT t a=>bif decide (t=t0) then ck (eR a j u) λe=>K (.dT t e) else none
  |_=>none
 |.own _ t a=>K (.dT t a)
 |.dT t a=>K (.dT t a)
 |.fE t a=>K (.dT t a)
 |.b x=>K (.b x)
 |.i k n=>K (.i k n)
 |.s x=>K (.s x)
 |.nil=>K .nil
 |.gQ=>K .gQ
 |_=>none
def zb(s:TS):List TV->(List TV->Option R)->Option R|[],K=>K []|v::e,K=>uN C s v λj=>zb s e λa=>K (j::a)
def xc(a u:Bool)(e:List TV)(s:TS)(K:List TV->TS->Option R):Option R:=bif u then pn C (λ_ _=>false) e s K else bif a then zb C s e λj=>K j s else pn C (λ_ _=>true) e s K
def VS.mv:VS->Bool|.sl .s _=>true|.sl .d _=>true|_=>false
def tr:TV->List TV->TV|.agg _,a=>.agg a|_,a=>nth a 0
def Co(k c:Nat)(v:TV)(s:TS):TS:=
 match s.box k with
 |.cells a=>s.bx k (.cells (kJ a c v))
 |_=>s
def arg(u:Bool)(p:dL)(v:TV)(s:TS)(K:p.T->(p.O->TS->TS)->TS->Option R):Option R:=
 match p,K with
 |.val q,K=>
  match v with
  |.vec t a=>
   match q.dec (.vec t a) with
   |some x=>K x (λ_ s=>s) s
   |none=>none
  |v=>xc C u q.mv (cellsOf v) s λy A=>
   match q.dec (tr v y) with
   |some x=>K x (λ_ s=>s) A
   |none=>none
 |.pb t m E,K=>
  match v with
  |.ptr k 0=>
   match s.box k with
   |.cells e=>bif okF m e then one? t e λx=>K x (λo s=>s.bx k (.cells (je E (enc false t o)))) ((s.kill (Pl.gK k)).bx k .none) else none
   |_=>none
  |_=>none
 |.pr t,K=>
  match v with
  |.ep (.slot k) t0 r 0=>
   match s.slot k with
   |.own true j a=>bif decide (j=t0) then castLT j t a λa=>ck (cm a r) λ_=>K (a,r) (λo s=>s.raw k (.own true t o)) ((s.kill (Pl.nF k)).raw k .un) else none
   |_=>none
  |.ep (.cell k c) t0 r 0=>
   match s.box k with
   |.cells e=>
    match nth e c with
    |.own true j a=>bif decide (j=t0) then castLT j t a λa=>ck (cm a r) λ_=>K (a,r) (λo s=>Co k c (.own true t o) s) ((s.kill (Pl.nG k)).bx k (.cells (kJ e c .un))) else none
    |_=>none
   |_=>none
  |_=>none
 |.mu t,K=>
  match v with
  |.vw (.slot k) _=>
   match s.slot k with
   |.own true j a=>castLT j t a λa=>K a (λo s=>s.raw k (.own true t o)) ((s.kill (Pl.nF k)).raw k .un)
   |_=>none
  |.vw (.cell k c) _=>
   match s.box k with
   |.cells e=>
    match nth e c with
    |.own true j a=>castLT j t a λa=>K a (λo s=>Co k c (.own true t o) s) ((s.kill (Pl.nG k)).bx k (.cells (kJ e c .un)))
    |_=>none
   |_=>none
  |_=>none
 |.bd,K=>
  match v with
  |.ptr k 0=>
   match s.box k with
   |.iy x=>K x (λo s=>s.bx k (.iy o)) ((s.kill (Pl.gK k)).bx k .none)
   |_=>none
  |_=>none
 |.rp t,K=>
  match v with
  |.ip e 0=>one? t e λx=>K x (λ_ s=>s) s
  |_=>none
 |.fn g F,K=>
  match v with
  |.fn H y=>bif Nat.beq g H then ks s F y λx=>K x (λ_ s=>s) s else none
  |_=>none
def Kx(p:dL)(v:TV)(a:List TV):Bool:=
 match p with
 |.pr _=>
  match v with
  |.ep (.cell k _) _ _ _=>nn k a
  |_=>false
 |.mu _=>
  match v with
  |.vw (.cell k _) _=>nn k a
  |_=>false
 |_=>false
def args(a:Bool):(e:List dL)->List TV->TS->(og e->(nE e->TS->TS)->TS->Option R)->Option R|[],[],s,K=>K () (λ_ s=>s) s|p::e,v::y,s,K=>bif Kx p v y then none else arg C a p v s λx A E=>args a e y E λF j u=>K (x,F) (λo s=>A o.1 (j o.2 s)) u|_,_,_,_=>none
def nH:List Fl->List TV->Bool
 |_,[]=>true
 |.d::m,_::a=>nH m a
 |_::m,c::a=>
  match c with
  |.dT _ _=>false
  |_=>nH m a
 |[],c::a=>
  match c with
  |.dT _ _=>false
  |_=>nH [] a
def ve:VS->Bool|.el t m=>nH m (enc false t (po t))|.sl .l _=>false|.sl .s t=>flat t|.sl .d _=>true|.fE _=>false|.vec _=>true|.er=>true
def qC:List fh->Bool|[]=>true|.val s::a=>bif ve s then qC a else false|.nb t m::a=>bif ve (.el t m) then qC a else false
def WE:List Fl->Bool|[]=>true|.l::r=>WE r|_::_=>false
def VS.Ky:VS->Bool|.el _ m=>WE m|.sl .l _=>true|.sl _ _=>false|_=>true
def pT:List dL->Bool|[]=>true|.val s::a=>bif s.mv then false else bif s.Ky then pT a else false|.fn _ _::a=>pT a|.rp _::a=>pT a|_::_=>false
def rN:List dL->Bool|[]=>false|.fn _ (_::_)::_=>true|_::a=>rN a
def OG(c:gq):Bool:=bif c.tn then(bif qC c.rs then pT c.ps else false) else bif rN c.ps then false else true
def gn:(a:List fh)->jQ a->List TV|[],_=>[]|.val s::a,x=>s.enc x.1::gn a x.2|.nb _ _::a,x=>.un::gn a x.2
def pack:List TV->TV|[v]=>v|vs=>.eY vs
def xd(d:Option Nat)(rs:List fh)(x:jQ rs)(s:TS):Option TS:=
 match rs,x with
 |[.nb t m],x=>
  match d with
  |some d=>
   match s.box d with
   |.none=>some (((s.fS d).bx d (.cells (je m (enc false t x.1)))).put C d (.ptr d 0))
   |_=>none
  |none=>none
 |rs,x=>some (dZ C s d (pack (gn rs x)))
def wB:List TV->Option Nat|[]=>none|.fn g _::_=>some g|_::a=>wB a
def O7(s:TS):List Operand->TS|[]=>s|x::a=>O7 (ir s x) a
def Cp(g:Nat)(u:List TV)(s:TS)(e:Option Nat)(K:TS->Option R):Option R:=
 match C.fn g (wB u) with
 |some c=>bif OG c then args C c.tn c.ps u s λa y A=>ck (c.f a) λx=>
   match xd C e c.rs (c.back x).1 (y (c.back x).2 A) with
   |some j=>K j
   |none=>none
  else none
 |none=>none
def FV:List TV->Bool|[]=>false|.own ..::_=>true|.j4 ..::_=>true|.un::_=>true|_::a=>FV a
def xe:TV->Bool|.own ..=>true|.j4 ..=>true|.agg a=>FV a|.un=>true|.pa ..=>true|_=>false
def Kz:List TV->Bool|[]=>true|.ptr _ _::a=>Kz a|_::_=>false
def step(o:Oper)(s:TS)(K:TS->Option R):Option R:=
 match o.op with
 |.move x=>K (dZ C (ir s x) o.dst (cZ C s x))
 |.assign x=>
  match cZ C s x with
  |.vec t u=>K (dZ C s o.dst (.vec t u))
  |.ptr k c=>K (dZ C s o.dst (.ptr k c))
  |.ep p t r c=>K (dZ C s o.dst (.ep p t r c))
  |.er e=>K (dZ C s o.dst (.er e))
  |.lA=>K (dZ C s o.dst .lA)
  |.np=>K (dZ C s o.dst .np)
  |.fn g A=>K (dZ C s o.dst (.fn g A))
  |.fE t u=>K (dZ C s o.dst (.fE t u))
  |v=>
   match o.dst with
   |some d=>bif C.al d then(bif O6 v then K (dZ C s o.dst v) else none) else cv C C.md v s λv E=>K (dZ C E o.dst v)
   |none=>K s
 |.pick c a b=>
  match cZ C s c with
  |.b x=>tI x (K (dZ C (ir s a) o.dst (cZ C s a))) (K (dZ C (ir s b) o.dst (cZ C s b)))
  |_=>none
 |.alloc t=>
  match o.dst with
  |some d=>
   match s.box d with
   |.none=>
    match C.cX t with
    |.other=>none
    |.iy=>K (((s.fS d).bx d (.iy [])).put C d (.ptr d 0))
    |.ar n e=>K (((s.fS d).bx d (.vec e (tk n (po e)))).put C d (.ptr d 0))
    |_=>K (((s.fS d).bx d (.cells (zero C 4 t))).put C d (.ptr d 0))
   |_=>none
  |none=>none
 |.box _ x=>
  match o.dst with
  |some d=>
   match s.box d with
   |.none=>
    match cZ C s x with
    |.vec t u=>K (((s.fS d).bx d (.vec t u)).put C d (.ptr d 0))
    |v=>pn C C.md (cellsOf v) (ir s x) λA E=>K (((E.fS d).bx d (.cells A)).put C d (.ptr d 0))
   |_=>none
  |none=>none
 |.build t parts=>
  match C.cX t with
  |.st _ _ fs=>fill C fs parts.toList (zero C 4 t) s λA E=>K (dZ C E o.dst (.agg A))
  |.ar n e=>wQ C e 1 parts.toList 0 s λ_ u E=>bif Nat.beq (parts.size) n then K (dZ C E o.dst (.vec e u)) else none
  |_=>none
 |.buildSlice t n parts=>
  match C.cX t with
  |.sl e S F=>bif Nat.beq parts.size n then(bif Nat.ble (Nat.mul n S) 16777216 then wQ C e S parts.toList 0 s λd u E=>K (dZ C E o.dst (.own d e u)) else none) else none
  |_=>none
 |.load t a=>bif (C.cX t).var then tJ C s (C.cX t).sz (C.cX t).ag (cZ C s a) λv=>K (dZ C s o.dst v) else none
 |.store t a x=>bif (C.cX t).var then Gu C (ir s x) (C.cX t).sz (cZ C s a) (cZ C s x) K else none
 |.nilCheck x=>qM (cZ C s x) 0 λv=>K (dZ C s o.dst v)
 |.binOp J t x y _=>bif Gt C (C.cX t) (cZ C s x) (cZ C s y) then CS J (cZ C s x) (cZ C s y) λv=>K (dZ C s o.dst v) else none
 |.unOp J _ x=>La J (cZ C s x) λv=>K (dZ C s o.dst v)
 |.fieldAddr t x j=>
  match C.cX t with
  |.st _ _ fs=>
   match nv fs j with
   |some (H,_)=>qM (cZ C s x) H λv=>K (dZ C s o.dst v)
   |none=>none
  |_=>none
 |.indexAddr t x i=>bif jf (C.cX t) (cZ C s x) then tK C s (C.cX t).Xd (C.cX t).len (cZ C s x) (cZ C s i) λv=>K (dZ C s o.dst v) else none
 |.index t x i=>bif jf (C.cX t) (cZ C s x) then
  match cZ C s x,cZ C s i with
  |.s a,.i _ n=>ck (iq a n) λc=>K (dZ C s o.dst (.i .u8 c))
  |.vec U u,.i _ n=>ck (dJ (cA n (C.cX t).len)) λ_=>ck (cm u n) λx=>bif gk U then none else K (dZ C s o.dst (nth (enc false U x) 0))
  |_,_=>none
  else none
 |.field t x j=>
  match cZ C s x,C.cX t with
  |.agg Y,.st _ _ fs=>
   match nv fs j with
   |some (H,M)=>bif room H (C.cX M).sz Y then K (dZ C (ir s x) o.dst (rM (C.cX M).ag (takeN (C.cX M).sz (uM H Y)))) else none
   |none=>none
  |_,_=>none
 |.extract (.tmp k) i=>
  match s.slot k with
  |.eY A=>bif room i 1 A then(
   match xe (nth A i) with
   |true=>K (dZ C (s.raw k (.eY (kJ A i .un))) o.dst (nth A i))
   |false=>K (dZ C s o.dst (nth A i))) else none
  |_=>none
 |.convert src N x=>bif jf (C.cX src) (cZ C s x) then
  match cZ C s x,C.cX N with
  |.i _ n,.int k=>K (dZ C s o.dst (.i k (eK k n)))
  |.s a,.str=>K (dZ C s o.dst (.s a))
  |.s a,.sl (.int .u8) _ _=>ck (dJ (dz (eg a) 1152921504606846976)) λ_=>K (dZ C s o.dst (.own true (.int .u8) (dB a)))
  |.vw p _,.str=>bif Cc (C.cX src) then jN C s p λv=>
   match eZ (.int .u8) v with
   |some u=>K (dZ C s o.dst (.s (iQ u)))
   |none=>none
   else none
  |.sl p t0 P Q,.str=>bif Cc (C.cX src) then jN C s p λv=>
   match eZ (.int .u8) v with
   |some u=>bif decide (t0=.int .u8) then ck (eR u P Q) λZ=>K (dZ C s o.dst (.s (iQ Z))) else none
   |none=>none
   else none
  |v,.str=>bif Cc (C.cX src) then
   match eZ (.int .u8) v with
   |some u=>K (dZ C s o.dst (.s (iQ u)))
   |none=>none
   else none
  |_,_=>none
  else none
 |.slice t x P Q mx=>bif jf (C.cX t) (cZ C s x) then r9 C s (cZ C s x) P Q mx λv=>K (dZ C s o.dst v) else none
 |.makeSlice t l c=>
  match C.cX t,cZ C s l,cZ C s c with
  |.sl e _ F,.i _ n,.i _ m=>ck (xj F n m (po e)) λu=>K (dZ C s o.dst (.own true e u))
  |_,_,_=>none
 |.makeFunc (.func g) _ I=>bif Kz (I.toList.map (cZ C s)) then K (dZ C s o.dst (.fn g (I.toList.map (cZ C s)))) else none
 |.makeInterface t _=>
  match C.cX t with
  |.r8=>none
  |.other=>none
  |_=>K (dZ C s o.dst (.er true))
 |.call c=>
  match c.callee with
  |.value x=>
   match cZ C s x with
   |.fn g I=>bif uX s c.args.toList then none else Cp C g ((c.args.toList.map (cZ C s))++I) (O7 s c.args.toList) o.dst K
   |_=>none
  |.builtin b=>
   match b,c.args.toList,c.argTypes.toList with
   |.len,[x],t::_=>bif jf (C.cX t) (cZ C s x) then Gc C s (cZ C s x) λn=>K (dZ C s o.dst (.i .i64 n)) else none
   |.append,[x,y],t::_=>
    match C.cX t with
    |.sl e _ F=>xn C e F (cZ C s x) (cZ C s y) s λv E=>K (dZ C E o.dst v)
    |_=>none
   |.min,[x,y],_=>
    match cZ C s x,cZ C s y with
    |.i k a,.i _ c=>K (dZ C s o.dst (.i k (zp a c)))
    |_,_=>none
   |.max,[x,y],_=>
    match cZ C s x,cZ C s y with
    |.i k a,.i _ c=>K (dZ C s o.dst (.i k (imax a c)))
    |_,_=>none
   |_,_,_=>none
  |_=>none
 |_=>none
def nU:List Oper->Nat->Option Nat|[],_=>none|o::_,0=>o.dst|_::r,n+1=>nU r n
def O8(a:List Oper)(o:Oper)(s:TS)(K:TS->Option R):Option R:=
 match o.guard with
 |none=>step C o s K
 |some (j,w)=>
  match nU a j with
  |some g=>
   match s.slot g with
   |.b x=>
    match w with
    |true=>tI x (step C o (s.raw g (.b true)) K) (K (dZ C (s.raw g (.b false)) o.dst (.eY [])))
    |false=>tI x (K (dZ C (s.raw g (.b true)) o.dst (.eY []))) (step C o (s.raw g (.b false)) K)
   |.eY []=>K (dZ C s o.dst (.eY []))
   |_=>none
  |none=>none
def KA(a:List Oper):List Oper->TS->(TS->Option R)->Option R|[],s,K=>K s|o::e,s,K=>O8 C a o s λj=>KA a e j K
def pQ:Tr TV:=Tr.full .un 11
def rI:Tr BC:=Tr.full .none 11
structure Acc where
 sl:List Nat
 bx:List Nat
def mr(a:Acc)(s:TS):TS:=⟨a.sl.foldr (λk t=>t.set k (s.slot k)) pQ,a.bx.foldr (λk t=>t.set k (s.box k)) rI⟩
def merge(a:Acc)(s e:TS):TS:=⟨a.sl.foldr (λk t=>t.set k (e.slot k)) s.t,a.bx.foldr (λk t=>t.set k (e.box k)) s.h⟩
def Pl.root:Pl->Acc|.slot k=>⟨[k],[]⟩|.cell k _=>⟨[],[k]⟩|.sub p _ _ _=>p.root
def Acc.add(a b:Acc):Acc:=⟨a.sl++b.sl,a.bx++b.bx⟩
def Pl.iB(a:Acc):Pl->Bool|.slot k=>fJ k a.sl|.cell k _=>fJ k a.bx|.sub p _ _ _=>p.iB a
def KB:TV->Acc|.vw p _=>p.root|.pa p _ _=>p.root|.sl p _ _ _=>p.root|.ep p _ _ _=>p.root|_=>⟨[],[]⟩
def FW:List TV->Acc|[]=>⟨[],[]⟩|v::a=>(KB v).add (FW a)
def rO:TV->Acc|.agg a=>FW a|v=>KB v
def mQ:TV->List Nat|.ptr k _=>[k]|.pe k _=>[k]|_=>[]
def KR:TV->List Nat|.fn _ a=>a.flatMap mQ|v=>mQ v
def KS(o:Oper):Bool:=
 match o.op with
 |.move _=>true
 |.assign _=>true
 |.fieldAddr _ _ _=>true
 |.nilCheck _=>true
 |.binOp _ _ _ _ _=>true
 |.unOp _ _ _=>true
 |.makeFunc _ _ _=>true
 |_=>false
def Acc.O9(a:Acc):Pl->Acc|.sub _ _ _ _=>a|_=>⟨[],[]⟩
def Wb:TV->Acc|.vw p _=>p.root.O9 p|.pa p _ _=>p.root|.sl p _ _ _=>p.root.O9 p|.ep p _ _ _=>p.root.O9 p|_=>⟨[],[]⟩
def Vm:List TV->Acc|[]=>⟨[],[]⟩|v::a=>(Wb v).add (Vm a)
def afG:TV->Acc|.agg a=>Vm a|v=>Wb v
def tu(a:Bool)(s:TS):List Operand->Acc|[]=>⟨[],[]⟩|.tmp k::e=>(Acc.mk [k] (bif a then[] else KR (s.slot k))).add ((bif a then afG (s.slot k) else rO (s.slot k)).add (tu a s e))|_::e=>tu a s e
def PB(s:TS):List Operand->Acc|[]=>⟨[],[]⟩|.tmp k::a=>(rO (mU C k (s.slot k))).add ((Acc.mk [] (KR (s.slot k))).add (PB s a))|_::a=>PB s a
def dx:Option Nat->List Nat|some d=>[d]|none=>[]
def Vn(a:List Oper)(o:Oper):List Nat:=
 match o.guard with
 |some (j,_)=>dx (nU a j)
 |none=>[]
def nw(s:TS)(o:Oper):List Pl:=
 match o.op with
 |.call c=>
  match c.callee with
  |.builtin .append=>
   match c.args.toList with
   |.tmp k::_=>
    match s.slot k with
    |.vw p _=>bif p.jn then[p] else[]
    |_=>[]
   |_=>[]
  |_=>[]
 |_=>[]
def Wc:List Pl->Bool|[]=>false|_=>true
def nV(s:TS)(o:Oper):Bool:=
 match o.op with
 |.load _ _=>true
 |.fieldAddr _ _ _=>true
 |.indexAddr _ _ _=>true
 |.index _ _ _=>true
 |.binOp _ _ _ _ _=>true
 |.unOp _ _ _=>true
 |.nilCheck _=>true
 |.slice _ _ _ _ _=>true
 |.makeFunc _ _ _=>true
 |.makeInterface _ _=>true
 |.extract (.tmp k) i=>
  match s.slot k with
  |.eY a=>bif xe (nth a i) then false else true
  |_=>false
 |.call c=>
  match c.callee with
  |.builtin .len=>true
  |.builtin .min=>true
  |.builtin .max=>true
  |.builtin .append=>Wc (nw s o)
  |_=>false
 |.move (.tmp k)=>whole (s.slot k)
 |.move _=>true
 |.assign (.tmp k)=>
  match s.slot k with
  |.vw _ _=>bif (match o.dst with|some d=>C.al d|none=>true) then true else false
  |.sl _ _ _ _=>bif (match o.dst with|some d=>C.al d|none=>true) then true else false
  |.own _ _ _=>false
  |.j4 _ _ _ _=>false
  |_=>true
 |.assign _=>true
 |_=>false
def uO(s:TS)(o:Oper):Bool:=
 match o.op with
 |.assign _=>nV C s o
 |_=>KS o
def zt(s:TS)(o:Oper):Acc:=(Acc.mk [] (match o.op with
 |.alloc _=>dx o.dst
 |.box _ _=>dx o.dst
 |.call _=>dx o.dst
 |_=>[])).add (tu (uO C s o) s o.op.operands.toList)
def jr(a:List Oper)(s:TS)(o:Oper):Acc:=(Acc.mk (Vn a o) []).add (zt C s o)
def yV(done:List Nat)(a:List Edge):Nat:=
 match a with
 |[]=>0
 |e::a=>bif Region.binds .any e then Nat.lor (Nat.lor (Nat.shiftLeft 1 e.on) (done.getD e.on 0)) (yV done a) else yV done a
def oN:List Oper->List Nat->List Nat|[],done=>done|o::a,done=>oN a (done++[yV done o.after.toList])
def uD:Nat->List Oper->Bool|_,[]=>true|i,o::a=>bif o.after.toList.all (λe=>bif Region.binds .any e then Nat.blt e.on i else true) then uD (Nat.succ i) a else false
def meets(a b:List Nat):Bool:=a.any λx=>b.any λy=>Nat.beq x y
def Acc.meets(a b:Acc):Bool:=bif Ev.meets a.sl b.sl then true else Ev.meets a.bx b.bx
structure qi where
 r:Acc
 w:Acc
 f:Acc
 n:List Nat
 p:List Pl
 v:List TV
 o:List TV
def o6(f w:Acc)(p:Pl):Bool:=bif p.iB f then true else bif p.jn then p.iB w else false
def rT:List Pl->Pl->Bool|[],_=>false|q::a,p=>bif q.ji p then true else rT a p
def pU(f w:Acc)(n:List Nat)(a:List Pl):TV->Bool|.vw p _=>bif o6 f w p then false else bif p.iB ⟨[],n⟩ then false else true|.pa p _ _=>bif o6 f w p then false else bif p.iB ⟨[],n⟩ then false else bif rT a p then false else true|.sl p _ _ _=>bif o6 f w p then false else bif p.iB ⟨[],n⟩ then false else true|.ep p _ _ _=>bif o6 f w p then false else bif p.iB ⟨[],n⟩ then false else true|.ptr k _=>bif fJ k n then false else true|.pe k _=>bif fJ k n then false else true|.fn _ e=>bif meets n (e.flatMap mQ) then false else true|_=>true
def FX(f w:Acc)(n:List Nat)(a:List Pl):List TV->Bool|[]=>true|v::e=>bif pU f w n a v then FX f w n a e else false
def oO(f w:Acc)(n:List Nat)(a:List Pl):List TV->Bool|[]=>true|.agg j::e=>bif FX f w n a j then oO f w n a e else false|v::e=>bif pU f w n a v then oO f w n a e else false
def Ce(x y:qi):Bool:=bif x.w.meets (y.r.add y.w) then false else bif y.w.meets (x.r.add x.w) then false else bif oO x.f x.w x.n x.p y.v then(bif oO y.f y.w y.n y.p x.v then(bif oO x.f x.w x.n x.p y.o then oO y.f y.w y.n y.p x.o else false) else false) else false
def xo:TV->Bool|.un=>false|_=>true
def CT:List TV->Bool|[]=>true|v::a=>bif xo v then CT a else false
def xp:List TV->Bool|[]=>true|.agg e::a=>bif CT e then xp a else false|v::a=>bif xo v then xp a else false
def FY(a:Nat)(y:qi):List qi->Nat->Bool|[],_=>true|x::e,i=>bif (bif Nat.testBit a i then true else Ce x y) then FY a y e (Nat.succ i) else false
def uP:List Nat->List qi->List qi->Bool|p::a,y::e,done=>bif FY p y done 0 then uP a e (done++[y]) else false|_,[],_=>true|_,_,_=>false
def l6:List dL->List TV->List Nat|.pb _ _ _::a,v::e=>mQ v++l6 a e|.bd::a,v::e=>mQ v++l6 a e|_::a,_::e=>l6 a e|_,_=>[]
def looks:List TV->Acc|[]=>⟨[],[]⟩|v::a=>(rO v).add (looks a)
def uQ(s:TS)(o:Oper):Option (Acc×List Nat):=
 match o.op with
 |.call c=>
  match c.callee with
  |.value x=>
   match cZ C s x with
   |.fn g a=>
    match C.fn g (wB ((c.args.toList.map (cZ C s))++a)) with
    |some q=>some ((bif q.tn then⟨[],[]⟩ else looks ((c.args.toList.map (cZ C s))++a)).add ⟨[],l6 q.ps ((c.args.toList.map (cZ C s))++a)⟩,l6 q.ps ((c.args.toList.map (cZ C s))++a))
    |none=>none
   |_=>none
  |_=>none
 |_=>none
def gJ(s:TS)(o:Oper):Acc:=
 match uQ C s o with
 |some a=>(Acc.mk (dx o.dst++opsL o.op.operands.toList) (dx o.dst)).add a.1
 |none=>bif nV C s o then⟨dx o.dst,[]⟩ else(Acc.mk (dx o.dst) []).add (zt C s o)
def l7(s:TS)(o:Oper):Acc:=
 match uQ C s o with
 |some a=>⟨dx o.dst,a.2⟩
 |none=>
  match o.op with
  |.store _ a _=>⟨dx o.dst,mQ (cZ C s a)⟩
  |_=>⟨dx o.dst,[]⟩
def s5:List Pl->TS->TS|[],s=>s|p::a,s=>(s5 a s).fW p.ji
def qF(f w:Acc)(a:List Nat)(s:TS):TS:=a.foldr (λd s=>s.fS d) (s.kill (o6 f w))
def l8(o:Oper):List Nat:=
 match o.op with
 |.alloc _=>dx o.dst
 |.box _ _=>dx o.dst
 |.call c=>
  match c.callee with
  |.value _=>dx o.dst
  |_=>[]
 |_=>[]
def oP(a:List Oper)(o:Oper)(s e:TS):TS:=e.kill λp=>bif p.iB ((jr C a s o).add (PB C s o.op.operands.toList)) then false else true
def Cq(a:List Oper)(o:Oper)(s e:TS):qi:=⟨jr C a s o,gJ C s o,l7 C s o,l8 o,nw s o,(jr C a s o).sl.map s.slot,(gJ C s o).sl.map (oP C a o s e).slot⟩
def jO(w f:Acc)(n:List Nat)(e:List Pl)(a s:TS):TS:=merge w (s5 e (qF f w n s)) a
def mo(o:Oper):TS:=⟨(dx o.dst).foldr (λd t=>t.set d (.eY [])) pQ,rI⟩
def Cf(a:List Oper)(o:Oper)(s:TS):qi:=⟨jr C a s o,⟨dx o.dst,[]⟩,⟨dx o.dst,[]⟩,[],[],(jr C a s o).sl.map s.slot,(dx o.dst).map λ_=>.eY []⟩
def FZ(a:Acc)(o:Oper)(s:TS)(K:TS->Option R):Option R:=step C o (mr a s) K
def oK(a:List Oper):List Oper->List qi->TS->(TS->Option R)->Option R
 |[],e,s,K=>bif uP (oN a []) e [] then(bif uD 0 a then K s else none) else none
 |o::y,e,s,K=>
  bif xp ((jr C a s o).sl.map s.slot) then(
  match o.guard with
  |none=>FZ C (jr C a s o) o s λu=>oK a y (e++[Cq C a o s u]) (jO (gJ C s o) (l7 C s o) (l8 o) (nw s o) (oP C a o s u) s) K
  |some (j,w)=>
   match nU a j with
   |some g=>
    match s.slot g with
    |.b x=>
     match w with
     |true=>tI x (FZ C (jr C a s o) o (s.raw g (.b true)) λu=>oK a y (e++[Cq C a o s u]) (jO (gJ C s o) (l7 C s o) (l8 o) (nw s o) (oP C a o s u) (s.raw g (.b true))) K)
      (oK a y (e++[Cf C a o s]) (jO ⟨dx o.dst,[]⟩ ⟨dx o.dst,[]⟩ [] [] (mo o) (s.raw g (.b false))) K)
     |false=>tI x (oK a y (e++[Cf C a o s]) (jO ⟨dx o.dst,[]⟩ ⟨dx o.dst,[]⟩ [] [] (mo o) (s.raw g (.b true))) K)
      (FZ C (jr C a s o) o (s.raw g (.b false)) λu=>oK a y (e++[Cq C a o s u]) (jO (gJ C s o) (l7 C s o) (l8 o) (nw s o) (oP C a o s u) (s.raw g (.b false))) K)
    |.eY []=>oK a y (e++[Cf C a o s]) (jO ⟨dx o.dst,[]⟩ ⟨dx o.dst,[]⟩ [] [] (mo o) s) K
    |_=>none
   |none=>none) else none
def qj:(a:List Ty)->List TV->Option (qg a)
 |[],[]=>some ()
 |t::a,.ip e 0::j=>
  match dec t e,qj a j with
  |some x,some u=>some (x,u)
  |_,_=>none
 |_,_=>none
def j5:(a:List Ty)->qg a->List TV|[],_=>[]|t::a,x=>.ip (enc false t x.1) 0::j5 a x.2
def Gd(l:fp)(v:TV):Option l.T:=
 match l with
 |.val s=>s.dec v
 |.ptr k c=>
  match v with
  |.ptr j e=>bif Nat.beq k j then(bif Nat.beq c e then some () else none) else none
  |_=>none
 |.vw q t=>
  match v with
  |.vw p a=>bif Pl.beq q p then(bif decide (a=t) then some () else none) else none
  |_=>none
 |.sv q t=>
  match v with
  |.sl p a u x=>bif Pl.beq q p then(bif decide (a=t) then some (u,x) else none) else none
  |_=>none
 |.ep q t c=>
  match v with
  |.ep p a r e=>bif Pl.beq q p then(bif decide (a=t) then(bif Nat.beq c e then some r else none) else none) else none
  |_=>none
 |.fn g y=>
  match v with
  |.fn A E=>bif Nat.beq g A then qj y E else none
  |_=>none
def CE(l:fp)(x:l.T):TV:=
 match l,x with
 |.val s,x=>s.enc x
 |.ptr k c,_=>.ptr k c
 |.vw p t,_=>.vw p t
 |.sv p t,x=>.sl p t x.1 x.2
 |.ep p t c,x=>.ep p t x c
 |.fn g a,x=>.fn g (j5 a x)
def CU:TV->TV->Bool|.b false,.b false=>true|.i k n,.i a e=>bif decide (k=a) then(bif decide (n=0) then decide (e=0) else false) else false|.s [],.s []=>true|.nil,.nil=>true|_,_=>false
def rU:List TV->List TV->Bool|[],[]=>true|c::a,d::e=>bif CU c d then rU a e else false|_,_=>false
def p5(l:gh)(v:BC):Option l.T:=
 match l with
 |.st t m=>
  match v with
  |.cells a=>bif okF m a then dec t a else none
  |_=>none
 |.one s=>
  match v with
  |.cells [c]=>s.dec c
  |_=>none
 |.vec t=>
  match v with
  |.vec e j=>if h:e=t then some (jL h j) else none
  |_=>none
 |.zr a=>
  match v with
  |.cells u=>bif rU a u then some () else none
  |_=>none
 |.iy=>
  match v with
  |.iy x=>some x
  |_=>none
def CF(l:gh)(x:l.T):BC:=
 match l,x with
 |.st t m,x=>.cells (je m (enc false t x))
 |.one s,x=>.cells [s.enc x]
 |.vec t,x=>.vec t x
 |.zr a,_=>.cells a
 |.iy,x=>.iy x
def wR:(l:List (Nat×fp))->TS->Option (Gq l)
 |[],_=>some ()
 |p::a,s=>
  match Gd p.2 (s.slot p.1),wR a s with
  |some x,some e=>some (x,e)
  |_,_=>none
def wS:(l:List (Nat×gh))->TS->Option (Gr l)
 |[],_=>some ()
 |p::a,s=>
  match p5 p.2 (s.box p.1),wS a s with
  |some x,some e=>some (x,e)
  |_,_=>none
def Live.dec(l:Live)(s:TS):Option l.V:=
 match wR l.sl s,wS l.bx s with
 |some x,some y=>some (x,y)
 |_,_=>none
def zc:(l:List (Nat×fp))->Gq l->Tr TV|[],_=>pQ|p::a,x=>(zc a x.2).set p.1 (CE p.2 x.1)
def zd:(l:List (Nat×gh))->Gr l->Tr BC|[],_=>rI|p::a,x=>(zd a x.2).set p.1 (CF p.2 x.1)
def Live.enc(l:Live)(x:l.V):TS:=⟨zc l.sl x.1,zd l.bx x.2⟩
def lH:Code->List (Nat×Code)|.seq a b=>lH a++lH b|.cond _ a b=>lH a++lH b|.block id (.loop c)=>(id,c)::lH c|.block _ c=>lH c|.loop c=>lH c|_=>[]
def Jp(id:Nat):List (Nat×Code)->Code|[]=>.skip|(i,c)::r=>bif Nat.beq i id then c else Jp id r
def Fy(id:Nat)(c:Code):Code:=Jp id (lH c)
inductive Ex where
 |normal
 |exit (id:Nat)
variable(D:Ctx R)
def Wd(id:Nat)(s:TS)(K:Ex->TS->Option R):Option R:=
 match D.loops id with
 |some g=>
  match g.si.dec s with
  |some v=>g.L v λo=>K .normal (g.so.enc o)
  |none=>none
 |none=>none
def ev:Code->TS->(Ex->TS->Option R)->Option R
 |.region id j y,s,K=>J6 (D.c.pre id) s λs=>
  match y with
  |false=>KA D.c j.toList j.toList s (K .normal)
  |true=>oK D.c j.toList j.toList [] s (K .normal)
 |.seq a b,s,K=>ev a s λe u=>
  match e with
  |.normal=>ev b u K
  |.exit i=>K (.exit i) u
 |.cond c a b,s,K=>
  match cZ D.c s c with
  |.b x=>tI x (ev a s K) (ev b s K)
  |_=>none
 |.block id (.loop c),s,K=>
  Wd D id s K
 |.block id c,s,K=>ev c s λe u=>
  match e with
  |.normal=>K .normal u
  |.exit i=>bif Nat.beq i id then K .normal u else K (.exit i) u
 |.ret,s,_=>D.CC s
 |.exit id,s,K=>K (.exit id) s
 |.skip,s,K=>K .normal s
 |_,_,_=>none
def Xe(a i:Nat)(p:dL)(x:p.T)(s:TS):TS:=
 match p,x with
 |.val q,x=>s.raw i (q.enc x)
 |.pb t m _,x=>(s.bx (Nat.add a i) (.cells (je m (enc false t x)))).raw i (.ptr (Nat.add a i) 0)
 |.pr t,x=>(s.raw (Nat.add a i) (.own true t x.1)).raw i (.ep (.slot (Nat.add a i)) t x.2 0)
 |.mu t,x=>(s.raw (Nat.add a i) (.own true t x)).raw i (.vw (.slot (Nat.add a i)) t)
 |.rp t,x=>s.raw i (.ip (enc false t x) 0)
 |.bd,x=>(s.bx (Nat.add a i) (.iy x)).raw i (.ptr (Nat.add a i) 0)
 |.fn g e,x=>s.raw i (.fn g (j5 e x))
def pins(e:Nat):Nat->(a:List dL)->og a->TS|_,[],_=>⟨pQ,rI⟩|i,p::a,x=>Xe e i p x.1 (pins e (Nat.succ i) a x.2)
def look(s:TS):TV->TV
 |.vw (.slot j) _=>
  match s.slot j with
  |.own d t a=>.own d t a
  |.dT t a=>.dT t a
  |_=>.un
 |v=>v
def CG(r:fh)(v:TV)(s:TS):Option r.T:=
 match r with
 |.val q=>q.dec v
 |.nb t m=>
  match v with
  |.ptr k 0=>
   match s.box k with
   |.cells a=>bif okF m a then dec t a else none
   |_=>none
  |_=>none
def p6(s:TS):ResultVar->TV
 |.tmp k=>look s (s.slot k)
 |.cell a _=>
  match s.slot a with
  |.ptr k 0=>
   match s.box k with
   |.cells [c]=>c
   |.cells e=>.agg e
   |.vec t j=>.vec t j
   |_=>.un
  |_=>.un
def oQ:(a:List fh)->List ResultVar->TS->Option (jQ a)
 |[],[],_=>some ()
 |r::a,v::e,s=>
  match CG r (p6 s v) s,oQ a e s with
  |some x,some j=>some (x,j)
  |_,_=>none
 |_,_,_=>none
def PC(a i:Nat)(p:dL)(s:TS):Option p.O:=
 match p with
 |.pb t _ y=>
  match s.box (Nat.add a i) with
  |.cells u=>bif okF y u then dec t u else none
  |_=>none
 |.pr t=>
  match s.slot (Nat.add a i) with
  |.own true e j=>if h:e=t then some (jL h j) else none
  |_=>none
 |.mu t=>
  match s.slot (Nat.add a i) with
  |.own true e j=>if h:e=t then some (jL h j) else none
  |_=>none
 |.bd=>
  match s.box (Nat.add a i) with
  |.iy x=>some x
  |_=>none
 |.val _=>some ()
 |.rp _=>some ()
 |.fn _ _=>some ()
def ze(e:Nat):Nat->(a:List dL)->TS->Option (nE a)
 |_,[],_=>some ()
 |i,p::a,s=>
  match PC e i p s,ze e (Nat.succ i) a s with
  |some x,some j=>some (x,j)
  |_,_=>none
def Pb(s:TS):ResultVar->List Nat
 |.tmp k=>
  match s.slot k with
  |.vw (.slot j) _=>
   match s.slot j with
   |.own ..=>[Nat.mul 2 j]
   |_=>[]
  |.own ..=>[Nat.mul 2 k]
  |.agg _=>[Nat.mul 2 k]
  |.ptr j _=>[Nat.succ (Nat.mul 2 j)]
  |_=>[]
 |.cell a _=>
  match s.slot a with
  |.ptr j _=>[Nat.succ (Nat.mul 2 j)]
  |_=>[]
def FA(s:TS):List ResultVar->List Nat|[]=>[]|v::a=>Pb s v++FA s a
def FB(m:Nat):List Nat->Bool|[]=>true|k::r=>bif fJ k r then false else bif Nat.blt k m then FB m r else false
def CH{R:Type}(e:List (Nat×TI))(s:TS):List ResultVar->Option R->Option R
 |[],K=>K
 |.tmp _::j,K=>CH e s j K
 |.cell a t::j,K=>
  match s.slot a with
  |.ptr k _=>
   match s.box k with
   |.cells u=>bif (bif (lx e t).var then(bif Nat.beq (lx e t).sz (pZ u) then(bif (lx e t).ag then(bif Nat.beq (pZ u) 1 then false else true) else Nat.beq (pZ u) 1) else false) else false) then CH e s j K else none
   |.vec _ x=>bif (bif (lx e t).var then(lx e t).ag else false) then ck (dJ (cp (cz x) (lx e t).sz)) λ_=>CH e s j K else none
   |_=>none
  |_=>none
def OH(y:List (Nat×TI))(e:Nat)(a:List ResultVar)(j:List dL)(u:List fh)(g:jQ u×nE j->R)(s:TS):Option R:=
 bif FB (Nat.mul 2 e) (FA s a) then CH y s a (
 match oQ u a s,ze e 0 j s with
 |some x,some o=>some (g (x,o))
 |_,_=>none)
 else none
end
def Gv{R:Type}(D:Ctx R)(u:Nat)(c:Code)(j:List dL)(a:og j):Option R:=
 ev D c (pins u 0 j a) λe s=>
  match e with
  |.normal=>D.CC s
  |.exit _=>none
end
def Ge:List (Nat×TI):=[(2,.int .i64),(3,.int .i64),(4,.bool),(5,.int .u8),(6,.int .u8),(9,.str),(10,.str),(11,.str),(12,.int .u64),(15,.ptr),(16,.ptr),(17,.ptr),(20,.r8),(21,.int .i32),(22,.sl (.int .u8) 1 1),(23,.sl .di 10 168),(24,.sl .stx 3 40),(26,.st .kV 6 [(0,3),(1,23),(2,9),(3,4),(4,23),(5,24)]),(28,.sl .msg 6 64),(32,.sl .op 4 40),(34,.st .stx 3 [(0,3),(1,3),(2,32)]),(36,.st .msg 6 [(0,3),(1,3),(2,3),(3,3),(4,32),(5,4)]),(45,.sl (.int .i64) 1 8),(46,.sl .hold 3 24),(48,.st .di 10 [(0,9),(1,9),(2,9),(3,3),(4,3),(5,3),(6,45),(7,45),(8,45),(9,46)]),(50,.st .hold 3 [(0,3),(1,3),(2,3)]),(52,.ptr),(73,.st .rd 2 [(0,22),(1,3)]),(74,.ptr),(77,.st .op 4 [(0,9),(1,3),(2,3),(3,3)]),(81,.sl .str 1 16),(92,.sl .iP 3 40),(93,.sl .ctx 12 168),(95,.st .e9 7 [(0,23),(1,45),(2,92),(3,9),(4,4),(5,3),(6,93)]),(96,.sl .kV 6 104),(97,.sl .nT 2 24),(99,.st .world 10 [(0,95),(7,96),(8,28),(9,97)]),(140,.sl .event 7 80),(149,.r8),(150,.r8),(167,.st .fI 3 [(0,81),(1,9),(2,3)]),(169,.st .event 7 [(0,3),(1,3),(2,3),(3,4),(4,167)]),(179,.ptr),(181,.iy),(187,.int .u64),(189,.int .u32),(190,.ar 8 (.int .u32)),(194,.ptr),(208,.st .iP 3 [(0,9),(1,3),(2,9)]),(210,.sl .lM 5 80),(211,.sl .mark 2 16),(213,.st .lM 5 [(0,3),(1,3),(2,9),(3,210),(4,211)]),(215,.ar 24 (.int .u8)),(221,.ptr),(223,.int .u64),(224,.int .i64),(227,.ptr),(233,.ar 64 (.int .u32)),(248,.sl (.int .u32) 1 4),(252,.ar 20 (.int .u64)),(253,.ar 65 (.int .u8)),(273,.st .nT 2 [(0,3),(1,9)]),(281,.st .ctx 12 [(0,3),(1,3),(2,3),(3,167),(6,3),(7,3),(8,45),(9,45),(10,45),(11,3)]),(287,.st .mark 2 [(0,3),(1,3)]),(293,.ptr),(296,.ar 256 (.int .u8)),(316,.ar 32 (.int .u8)),(317,.ar 64 (.int .u8)),(335,.ptr),(337,.st .tH 4 [(0,9),(1,3),(2,3),(3,4)]),(342,.sl .ins 4 56),(345,.st .pair 2 [(0,9),(1,3)]),(346,.sl .pair 2 24),(357,.st .ins 4 [(0,3),(1,3),(2,9),(3,211)]),(375,.int .u8),(376,.int .u8),(378,.int .i32),(379,.int .i32)]
def Cg:List Int:=[1779033703,3144134277,1013904242,2773480762,1359893119,2600822924,528734635,1541459225]
def Ch:List Int:=[1116352408,1899447441,3049323471,3921009573,961987163,1508970993,2453635748,2870763221,3624381080,310598401,607225278,1426881987,1925078388,2162078206,2614888103,3248222580,3835390401,4022224774,264347078,604807628,770255983,1249150122,1555081692,1996064986,2554220882,2821834349,2952996808,3210313671,3336571891,3584528711,113926993,338241895,666307205,773529912,1294757372,1396182291,1695183700,1986661051,2177026350,2456956037,2730485921,2820302411,3259730800,3345764771,3516065817,3600352804,4094571909,275423344,430227734,506948616,659060556,883997877,958139571,1322822218,1537002063,1747873779,1955562222,2024104815,2227730452,2361852424,2428436474,2756734187,3204031479,3329325298]
def sa(g:Nat):TV:=bif Nat.beq g 0 then .iv (.int .u32) Cg else bif Nat.beq g 2 then .iv (.int .u32) Ch else .un
end Go.Ev
namespace Go.Sd
open Go
open Go.Ev hiding World Event Rd
section
def cG:Ty->Nat|.bool|.int _|.str=>1|.hold=>3|.di=>10|.mark=>2|.lM=>5|.pair=>2|.ins=>4|.iP=>3|.fI=>3|.op=>4|.msg=>6|.stx=>3|.kV=>6|.ctx=>12|.e9=>7|.nT=>2|.world=>10|.event=>7|.rd=>2|.tH=>4
theorem gV(d:Bool)(t:Ty)(x:El t):(enc d t x).length=cG t:=by cases t<;>rfl
theorem Jq(t:Ty):0<cG t:=by cases t<;>simp[cG]
def jE:(t:Ty)->El t->Value|.bool,x=>.bool x|.int k,x=>.int k x|.str,x=>.string ⟨⟨x⟩⟩|_,_=>undef
inductive Rt where
 |slot (k:Nat)
 |box (k:Nat)
 |cC (k:Nat)
 deriving DecidableEq
abbrev dh:=List (Int×Nat)
def Gf:Ty->Nat
 |.bool=>0
 |.int k=>32+(match k with|.i8=>0|.i16=>1|.i32=>2|.i64=>3|.u8=>4|.u16=>5|.u32=>6|.u64=>7)
 |.str=>1
 |.hold=>2
 |.di=>3
 |.mark=>4
 |.lM=>5
 |.pair=>6
 |.ins=>7
 |.iP=>8
 |.fI=>9
 |.op=>10
 |.msg=>11
 |.stx=>12
 |.kV=>13
 |.ctx=>14
 |.e9=>15
 |.nT=>16
 |.world=>17
 |.event=>18
 |.rd=>19
 |.tH=>20
def cj(t:Ty)(j:Nat):Nat:=64*(j+1)+Gf t
def tg(t:Ty):Int×Nat:=(0,Gf t)
theorem KC(t:Ty)(j:Nat):64<=cj t j:=by simp only[cj];omega
theorem Fe(t:Ty):Gf t<64:=by
 cases t<;>try decide
 rename_i k;cases k<;>decide
theorem F1{i:Int}{j:Nat}{t a:Ty}(h:(i,cj t j)=tg a):False:=by
 have u:=Fe a;have e:=congrArg Prod.snd h;simp only[cj,tg] at e;omega
theorem afH{i:Int}{j:Nat}{t:Ty}(e:64<=j)(h:(i,j)=tg t):False:=by
 have u:=Fe t;have a:=congrArg Prod.snd h;simp only[tg] at a;omega
theorem SA{t t':Ty}(h:Gf t=Gf t'):t=t':=by
 cases t<;>cases t'<;>first
  |rfl
  |(exfalso;revert h;decide)
  |(rename_i k;cases k<;>(exfalso;revert h;decide))
  |(rename_i k a;cases k<;>cases a<;>first|rfl|(exfalso;revert h;decide))
theorem J8{t a:Ty}{j j':Nat}(h:cj t j=cj a j'):t=a/\j=j':=by
 have e:=Fe t;have u:=Fe a;simp only[cj] at h;exact⟨SA (by omega),by omega⟩
inductive G where
 |fr
 |im
 |at(q:Rt) (p:dh)
 deriving DecidableEq
abbrev Gp:=Rt×dh
def gp:Pl->Gp|.slot k=>(.slot k,[])|.cell k c=>(.box k,[(0,c)])|.sub p t r c=>((gp p).1,(gp p).2++[(r,cj t c)])
def kK(m:Option Gp)(r:Int)(j:Nat):Option Gp:=m.map λq=>(q.1,q.2++[(r,j)])
def uY(n:Nat)(fr:Nat×Nat):Prop:=∀j,j<n->¬ (fr.1<=j/\j<fr.2)
def Xf:Ty->Bool|.int .u8=>true|_=>false
structure mz(t:Ty)(n:Nat)(fr:Nat×Nat):Prop where
 un:uY n fr
 mrk:Xf t=false->¬ (fr.1<=n/\n<fr.2)
instance{t:Ty} {n:Nat} {fr:Nat×Nat}:CoeFun (mz t n fr) λ_=>∀j,j<n->¬ (fr.1<=j/\j<fr.2):=⟨λh=>h.un⟩
theorem mz.zero{t:Ty}{n:Nat}:mz t n (0,0):=⟨λj _=>by simp,λ_=>by simp⟩
structure Rc where
 w:World
 γ:Nat->G
 bx:Nat->Nat
 va:Pl->Option Value
def VO(c:Rc):Pl->Prop|.slot _=>True|.cell k _=>c.γ (c.bx k)=.at (.box k) []|.sub p t _ _=>VO c p/\∀b o a e,c.va p=some (.slice (some ⟨b,o,none⟩) a e)->c.γ b=.im\/c.γ b=.at (gp p).1 ((gp p).2++[tg t])
abbrev cellAt(w:World)(b o:Nat):Option Value:=w.cell? ⟨b,o,none⟩
def dC:TV->Bool|.b _|.i _ _|.s _|.nil|.gQ|.dT _ _|.fE _ _|.own _ _ _=>true|_=>false
def fy(a:TV):Bool:=dC a||(match a with|.un=>true|_=>false)
def kg(a:TV):Bool:=fy a||(match a with|.vw _ _=>true|_=>false)
def gZ:TV->Bool|.er _|.lA|.vec _ _=>true|.agg a=>a.all fy|tv=>fy tv
def pq:TV->Bool|.ptr _ _=>true|.ip a _=>a.all dC|_=>false
inductive Rd(c:Rc):Option Gp->TV->Value->Prop
 |un (m v):Rd c m .un v
 |b (m x):Rd c m (.b x) (.bool x)
 |i (m k n):Rd c m (.i k n) (.int k n)
 |s (m x):Rd c m (.s x) (.string ⟨⟨x⟩⟩)
 |nil (m):Rd c m .nil (.slice none 0 0)
 |gQ (m a):Rd c m .gQ (.slice a 0 0)
 |kt (m t a cap):Rd c m (.dT t []) (.slice a 0 cap)
 |ny (m t) (xs:List (El t)) (b o cap) (f:Nat->Nat->Value):xs.length<=cap->c.γ b=.im->
  (∀(r:Nat)x(j:Nat)tv,xs[r]?=some x->(enc false t x)[j]?=some tv->cellAt c.w b (o+r*cG t+j)=some (f r j)/\(f r j).oneCell'=true)->
  (∀(r:Nat)x(j:Nat)tv,xs[r]?=some x->(enc false t x)[j]?=some tv->Rd c none tv (f r j))->Rd c m (.dT t xs) (.slice (some ⟨b,o,none⟩) xs.length cap)
 |p7 (m t a):Rd c m (.fE t []) (.slice a 0 0)
 |p8 (m t) (xs:List (El t)) (b o) (f:Nat->Nat->Value):c.γ b=.im->
  (∀(r:Nat)x(j:Nat)tv,xs[r]?=some x->(enc false t x)[j]?=some tv->cellAt c.w b (o+r*cG t+j)=some (f r j)/\(f r j).oneCell'=true)->
  (∀(r:Nat)x(j:Nat)tv,xs[r]?=some x->(enc false t x)[j]?=some tv->Rd c none tv (f r j))->Rd c m (.fE t xs) (.slice (some ⟨b,o,none⟩) xs.length xs.length)
 |jC (m d t a):Rd c m (.own d t []) (.slice a 0 0)
 |kf (q p d t) (xs:List (El t)) (b o cap cs e fr) (f:Nat->Nat->Value):xs.length<=cap->c.γ b=.at q (p++[tg t])->c.w.heap[b]?=some (.cells cs e fr)->mz t cs.size fr->o+cap*cG t<=cs.size->
  (∀(r:Nat)x(j:Nat)tv,xs[r]?=some x->(enc d t x)[j]?=some tv->cellAt c.w b (o+r*cG t+j)=some (f r j)/\(f r j).oneCell'=true)->
  (∀(r:Nat)x(j:Nat)tv,xs[r]?=some x->(enc d t x)[j]?=some tv->Rd c (some (q,p++[((r:Int),cj t j)])) tv (f r j))->Rd c (some (q,p)) (.own d t xs) (.slice (some ⟨b,o,none⟩) xs.length cap)
 |j4 (q p t) (xs:List (El t)) (r0 c0 b o cap cs e fr) (f:Nat->Nat->Value):xs.length<=cap->c.γ b=.at q (p++[tg t])->c.w.heap[b]?=some (.cells cs e fr)->mz t cs.size fr->o+cap*cG t<=cs.size->
  (∀(r:Nat)x(j:Nat)tv,xs[r]?=some x->(enc true t x)[j]?=some tv->cellAt c.w b (o+r*cG t+j)=some (f r j)/\(f r j).oneCell'=true)->
  (∀(r:Nat)x(j:Nat)tv,xs[r]?=some x->(enc true t x)[j]?=some tv->((r:Int)≠r0\/j≠c0)->Rd c (some (q,p++[((r:Int),cj t j)])) tv (f r j))->Rd c (some (q,p)) (.j4 t xs r0 c0) (.slice (some ⟨b,o,none⟩) xs.length cap)
 |vec (m t) (xs:List (El t)):gk t=false->Rd c m (.vec t xs) (.agg (xs.map (jE t)).toArray)
 |vw (m p t v):VO c p->c.va p=some v->Rd c m (.vw p t) v
 |pa (m p t) (xs:List (El t)) (v u):p.jn=true->VO c p->c.va p=some u->Rd c (some (gp p)) (.own true t xs) v->Rd c m (.pa p t xs) v
 |sl (m p t lo hi a len cap a' cap'):VO c p->c.va p=some (.slice a len cap)->0<=lo->lo<=hi->hi<=(len:Int)->(cap'=0\/∃b o,a=some ⟨b,o,none⟩/\a'=some ⟨b,o+lo.toNat*cG t,none⟩)->
  hi.toNat-lo.toNat<=cap'->cap'+lo.toNat<=cap->Rd c m (.sl p t lo hi) (.slice a' (hi.toNat-lo.toNat) cap')
 |ptr (m k j):Rd c m (.ptr k j) (.pointer (some ⟨c.bx k,j,none⟩))
 |pe (m k n):0<=n->Rd c m (.pe k n) (.pointer (some ⟨c.bx k,n.toNat,none⟩))
 |ep (m p t r j b o len cap):VO c p->c.va p=some (.slice (some ⟨b,o,none⟩) len cap)->0<=r->r<(len:Int)->Rd c m (.ep p t r j) (.pointer (some ⟨b,o+r.toNat*cG t+j,none⟩))
 |ip (m cs j b o) (f:Nat->Value):(∀tv∈cs,dC tv=true)->c.γ b=.im->(∀(i:Nat)tv,cs[i]?=some tv->cellAt c.w b (o+i)=some (f i)/\(f i).oneCell'=true)->(∀(i:Nat)tv,cs[i]?=some tv->Rd c none tv (f i))->
  Rd c m (.ip cs j) (.pointer (some ⟨b,o+j,none⟩))
 |iv (m t) (xs:List (El t)) (b o):c.γ b=.im->gk t=false->(∀(r:Nat)x,xs[r]?=some x->cellAt c.w b (o+r)=some (jE t x))->Rd c m (.iv t xs) (.pointer (some ⟨b,o,none⟩))
 |agg (m cs) (vs:Array Value):(∀tv∈cs,kg tv=true)->vs.size=cs.length->(∀(j:Nat)tv v,cs[j]?=some tv->vs[j]?=some v->v.oneCell'=true)->(∀(j:Nat)tv v,cs[j]?=some tv->vs[j]?=some v->Rd c (kK m 0 j) tv v)->Rd c m (.agg cs) (.agg vs)
 |eY (m cs) (vs:Array Value):(∀tv∈cs,gZ tv=true)->vs.size=cs.length->(∀(j:Nat)tv v,cs[j]?=some tv->vs[j]?=some v->Rd c (kK m 0 j) tv v)->Rd c m (.eY cs) (.tuple vs)
 |fn (m g cap) (vs:Array Value):(∀tv∈cap,pq tv=true)->vs.size=cap.length->(∀(j:Nat)tv v,cap[j]?=some tv->vs[j]?=some v->Rd c none tv v)->Rd c m (.fn g cap) (.func (.func g) #[] vs)
 |lA (m):Rd c m .lA .nilIface
 |np (m):Rd c m .np (.pointer none)
 |sd (m t x):Rd c m (.er true) (.iface t x)
 |sf (m):Rd c m (.er false) .nilIface
inductive MV(p:Pl):TV->Prop
 |vw (t):MV p (.vw p t)
 |pa (t xs):MV p (.pa p t xs)
 |sl (t lo hi):MV p (.sl p t lo hi)
 |ep (t r j):MV p (.ep p t r j)
 |agg (cs t):TV.vw p t∈cs->MV p (.agg cs)
inductive MP(p:Pl):TV->Prop
 |pa (t xs):MP p (.pa p t xs)
inductive MB(k:Nat):TV->Prop
 |ptr (j):MB k (.ptr k j)
 |pe (n):MB k (.pe k n)
 |fn (g cs j):TV.ptr k j∈cs->MB k (.fn g cs)
theorem MP.mv{p:Pl}{tv:TV}(h:MP p tv):MV p tv:=by cases h;exact .pa _ _
theorem Vo{a:TV}(h:fy a=true):dC a=true\/a=.un:=by
 unfold fy at h;cases a<;>simp_all [dC]
theorem aeJ{a:TV}(h:kg a=true):dC a=true\/a=.un\/∃p t,a=.vw p t:=by
 unfold kg fy at h;cases a<;>simp_all [dC]
theorem adl{tv:TV}(h:kg tv=true)(k:Nat):¬ MB k tv:=by
 intro m;cases m<;>simp[kg,fy,dC] at h
theorem NO{tv:TV}(h:kg tv=true)(p:Pl):¬ MP p tv:=by
 intro m;cases m;simp[kg,fy,dC] at h
theorem Vp{a:TV}{e:List TV}{p:Pl}(h:kg a=true)(j:a∈e)(k:MV p a):MV p (.agg e):=by
 cases k<;>first|exact .agg _ _ j|simp[kg,fy,dC] at h
theorem rC{tv:TV}(h:gZ tv=true)(p:Pl):¬ MV p tv:=by
 intro k;cases k<;>simp[gZ,fy,dC] at h;rename_i a;have:=h _ a;simp[fy,dC] at this
theorem BX{tv:TV}(h:gZ tv=true)(k:Nat):¬ MB k tv:=by
 intro m;cases m<;>simp[gZ,fy,dC] at h
theorem Jr{tv:TV}(h:pq tv=true)(p:Pl):¬ MV p tv:=by
 intro k;cases k<;>simp[pq] at h
theorem aeK{a:TV}{e:List TV}{g k:Nat}(h:pq a=true)(j:a∈e)(m:MB k a):MB k (.fn g e):=by
 cases m<;>first|exact .fn _ _ _ j|simp[pq] at h
theorem fZ{tv:TV}(h:dC tv=true)(p:Pl):¬ MV p tv:=by
 intro k;cases k<;>simp[dC] at h
theorem kz{tv:TV}(h:dC tv=true)(p:Nat):¬ MB p tv:=by
 intro k;cases k<;>simp[dC] at h
theorem yB(d:Bool)(t:Ty)(x:El t):∀a∈enc d t x,dC a=true:=by
 cases d<;>cases t<;>simp[enc,sc,dC]
theorem eT{a:Type}{l:List a}{j:Nat}{x:a}(h:l[j]?=some x):x∈l:=ahY h
theorem fN{d:Bool}{t:Ty}{x:El t}{j:Nat}{a:TV}(h:(enc d t x)[j]?=some a):dC a=true:=yB d t x a (eT h)
theorem ln{w w':World}{b o:Nat}(h:w'.heap[b]?=w.heap[b]?):cellAt w' b o=cellAt w b o:=by simp only[cellAt,World.cell?,h]
theorem Rd.mono{c Y:Rc}{m:Option Gp}{A:TV}{v:Value}(h:Rd c m A v):∀(m':Option Gp),
  (∀b,c.γ b=.im->Y.γ b=.im/\Y.w.heap[b]?=c.w.heap[b]?)->
  (∀q p,m=some (q,p)->∃P Q,m'=some (P,Q)/\∀b R,c.γ b=.at q (p++R)->Y.γ b=.at P (Q++R)/\Y.w.heap[b]?=c.w.heap[b]?)->
  (∀k,MB k A->Y.bx k=c.bx k)->(∀p,MV p A->Y.va p=c.va p/\(VO c p->VO Y p))->(∀p,MP p A->∀b R,c.γ b=.at (gp p).1 ((gp p).2++R)->Y.γ b=.at (gp p).1 ((gp p).2++R)/\Y.w.heap[b]?=c.w.heap[b]?)->Rd Y m' A v:=by
 have D:∀(q:Rt)(p:dh),(none:Option Gp)=some (q,p)->∃P Q,(none:Option Gp)=some (P,Q)/\∀b R,c.γ b=.at q (p++R)->Y.γ b=.at P (Q++R)/\Y.w.heap[b]?=c.w.heap[b]?:=λ_ _ h=>by simp at h
 have H:∀{m m':Option Gp}{r:Int}{j:Nat},(∀q p,m=some (q,p)->∃P Q,m'=some (P,Q)/\∀b R,c.γ b=.at q (p++R)->Y.γ b=.at P (Q++R)/\Y.w.heap[b]?=c.w.heap[b]?)->
   ∀q p,kK m r j=some (q,p)->∃P Q,kK m' r j=some (P,Q)/\∀b R,c.γ b=.at q (p++R)->Y.γ b=.at P (Q++R)/\Y.w.heap[b]?=c.w.heap[b]?:=by
  intro m m' r j N q p hs
  cases m with
  |none=>simp[kK] at hs
  |some g=>
   obtain⟨q0,p0⟩:=g
   simp only[kK,jc,cW,eE] at hs
   obtain⟨rfl,rfl⟩:=hs
   obtain⟨P,Q,hm,hf⟩:=N _ _ rfl
   subst hm
   refine⟨P,Q++[(r,j)],rfl,λb R hb=>?_⟩
   have:=hf b ((r,j)::R) (by simpa using hb)
   simpa using this
 induction h with
 |un m v=>intros;exact .un _ _
 |b m x=>intros;exact .b _ _
 |i m k n=>intros;exact .i _ _ _
 |s m x=>intros;exact .s _ _
 |nil m=>intros;exact .nil _
 |gQ m a=>intros;exact .gQ _ _
 |kt m t a cap=>intros;exact .kt _ _ _ _
 |ny m t xs b o cap f hl hg F _ S=>
  intro m' E N U I Z;obtain⟨J,hh⟩:=E b hg;exact .ny _ _ _ _ _ _ f hl J (λr x j A hx y=>by rw[ln hh];exact F r x j A hx y)
   (λr x j A hx y=>S r x j A hx y none E D (λk M=>absurd M (kz (fN y) k)) (λp C=>absurd C (fZ (fN y) p)) (λp C=>absurd C.mv (fZ (fN y) p)))
 |p7 m t a=>intros;exact .p7 _ _ _
 |p8 m t xs b o f hg F _ S=>
  intro m' E N U I Z;obtain⟨J,hh⟩:=E b hg;exact .p8 _ _ _ _ _ f J (λr x j A hx y=>by rw[ln hh];exact F r x j A hx y)
   (λr x j A hx y=>S r x j A hx y none E D (λk M=>absurd M (kz (fN y) k)) (λp C=>absurd C (fZ (fN y) p)) (λp C=>absurd C.mv (fZ (fN y) p)))
 |jC m d t a=>intros;exact .jC _ _ _ _
 |kf q p d t xs b o cap cs e fr f hl hg hh hu hs F _ S=>
  intro m' E N U I Z;obtain⟨P,Q,rfl,hf⟩:=N q p rfl;obtain⟨J,aa⟩:=hf b [tg t] hg;refine .kf _ _ _ _ _ _ _ _ cs e fr f hl J (aa.trans hh) hu hs (λr x j A hx y=>by rw[ln aa];exact F r x j A hx y) (λr x j A hx y=>?_);exact S r x j A hx y _ E (H (m:=some (q,p)) (m':=some (P,Q)) N) (λk M=>absurd M (kz (fN y) k)) (λp C=>absurd C (fZ (fN y) p)) (λp C=>absurd C.mv (fZ (fN y) p))
 |j4 q p t xs r0 c0 b o cap cs e fr f hl hg hh hu hs F _ S=>
  intro m' E N U I Z;obtain⟨P,Q,rfl,hf⟩:=N q p rfl;obtain⟨J,aa⟩:=hf b [tg t] hg;refine .j4 _ _ _ _ _ _ _ _ _ cs e fr f hl J (aa.trans hh) hu hs (λr x j A hx y=>by rw[ln aa];exact F r x j A hx y) (λr x j A hx y ad=>?_);exact S r x j A hx y ad _ E (H (m:=some (q,p)) (m':=some (P,Q)) N) (λk M=>absurd M (kz (fN y) k)) (λp C=>absurd C (fZ (fN y) p)) (λp C=>absurd C.mv (fZ (fN y) p))
 |vec m t xs ht=>intros;exact .vec _ _ _ ht
 |vw m p t v M hv=>intro m' E N U I Z;exact .vw _ _ _ _ ((I p (.vw t)).2 M) ((I p (.vw t)).1.trans hv)
 |pa m p t xs v u ae af ah _ S=>
  intro m' E N U I Z;refine .pa _ _ _ _ _ u ae ((I p (.pa t xs)).2 af) ((I p (.pa t xs)).1.trans ah) (S _ E (λq R hq=>⟨_,_,rfl,λb ρ hb=>?_⟩) (λk M=>by cases M) (λp C=>by cases C) (λp C=>by cases C));simp only[cW] at hq;have:=Z p (.pa t xs) b ρ (by rw[hq];exact hb);rw[hq] at this⊢;exact this
 |sl m p t lo hi a len cap a' ai M hv h1 h2 h3 h4 h5 h6=>intro m' E N U I Z;exact .sl _ _ _ _ _ a len cap _ _ ((I p (.sl t lo hi)).2 M) ((I p (.sl t lo hi)).1.trans hv) h1 h2 h3 h4 h5 h6
 |ptr m k j=>intro m' E N U I Z;rw[<-U k (.ptr j)];exact .ptr _ _ _
 |pe m k n h0=>intro m' E N U I Z;rw[<-U k (.pe n)];exact .pe _ _ _ h0
 |ep m p t r j b o len cap M hv h1 h2=>intro m' E N U I Z;exact .ep _ _ _ _ _ b o len cap ((I p (.ep t r j)).2 M) ((I p (.ep t r j)).1.trans hv) h1 h2
 |ip m cs j b o f C hg F _ S=>
  intro m' E N U I Z;obtain⟨J,hh⟩:=E b hg;exact .ip _ _ _ _ _ f C J (λi A hi=>by rw[ln hh];exact F i A hi) (λi A hi=>S i A hi none E D (λk M=>absurd M (kz (C A (eT hi)) k))
   (λp ab=>absurd ab (fZ (C A (eT hi)) p)) (λp ab=>absurd ab.mv (fZ (C A (eT hi)) p)))
 |iv m t xs b o hg ht F=>
  intro m' E N U I Z;obtain⟨J,hh⟩:=E b hg;exact .iv _ _ _ _ _ J ht (λr x hx=>by rw[ln hh];exact F r x hx)
 |agg m cs vs F hl h1 _ S=>
  intro m' E N U I Z;exact .agg _ _ _ F hl h1 (λj A v y hv=>S j A v y hv _ E (H N) (λk M=>absurd M (adl (F A (eT y)) k)) (λp C=>I p (Vp (F A (eT y)) (eT y) C))
   (λp C=>absurd C (NO (F A (eT y)) p)))
 |eY m cs vs F hl _ S=>
  intro m' E N U I Z;exact .eY _ _ _ F hl (λj A v y hv=>S j A v y hv _ E (H N) (λk M=>absurd M (BX (F A (eT y)) k)) (λp C=>absurd C (rC (F A (eT y)) p)) (λp C=>absurd C.mv (rC (F A (eT y)) p)))
 |fn m g cap vs F hl _ S=>
  intro m' E N U I Z;exact .fn _ _ _ _ F hl (λj A v y hv=>S j A v y hv none E D (λk M=>U k (aeK (F A (eT y)) (eT y) M)) (λp C=>absurd C (Jr (F A (eT y)) p)) (λp C=>absurd C.mv (Jr (F A (eT y)) p)))
 |lA m=>intros;exact .lA _
 |np m=>intros;exact .np _
 |sd m t x=>intros;exact .sd _ _ _
 |sf m=>intros;exact .sf _
theorem Rd.lift{c:Rc}{a:TV}{v:Value}(h:Rd c none a v)(m:Option Gp):Rd c m a v:=h.mono m (λ_ h=>⟨h,rfl⟩) (λ_ _ h=>by simp at h) (λ_ _=>rfl) (λ_ _=>⟨rfl,λh=>h⟩) (λ_ _ _ _ h=>⟨h,rfl⟩)
theorem Rd.same{c:Rc}{m:Option Gp}{a:TV}{v:Value}{c':Rc}(h:Rd c m a v)(u:∀b,c.γ b=.im->c'.γ b=.im/\c'.w.heap[b]?=c.w.heap[b]?)(x:∀q p,m=some (q,p)->∀b e,c.γ b=.at q (p++e)->c'.γ b=.at q (p++e)/\c'.w.heap[b]?=c.w.heap[b]?)(y:∀k,MB k a->c'.bx k=c.bx k)(A:∀p,MV p a->c'.va p=c.va p/\(VO c p->VO c' p))(C:∀p,MP p a->∀b e,c.γ b=.at (gp p).1 ((gp p).2++e)->c'.γ b=.at (gp p).1 ((gp p).2++e)/\c'.w.heap[b]?=c.w.heap[b]?):Rd c' m a v:=h.mono m u (λq p j=>⟨q,p,j,x q p j⟩) y A C
theorem NP(d:Bool)(t:Ty)(x:El t):(enc d t x).map jZ=enc false t x:=by
 cases d<;>cases t<;>simp[enc,jZ,sc]
theorem DK{d:Bool}{t:Ty}{x:El t}{j:Nat}{a:TV}(h:(enc false t x)[j]?=some a):∃kx,(enc d t x)[j]?=some kx/\a=jZ kx:=by
 rw[<-NP d t x,hV] at h;cases e:(enc d t x)[j]? with
 |none=>simp[e] at h
 |some kx=>exact⟨kx,rfl,by simpa[e] using h.symm⟩
theorem Rd.jR{c c':Rc}{m:Option Gp}{C:TV}{v:Value}(h:Rd c m C v):dC C=true->(∀b,c.γ b=.im->c'.γ b=.im/\c'.w.heap[b]?=c.w.heap[b]?)->
  (∀q p,m=some (q,p)->∀b H,c.γ b=.at q (p++H)->c'.γ b=.im/\c'.w.heap[b]?=c.w.heap[b]?)->Rd c' none (jZ C) v:=by
 induction h with
 |b m x=>intros;exact .b _ _
 |i m k n=>intros;exact .i _ _ _
 |s m x=>intros;exact .s _ _
 |nil m=>intros;exact .nil _
 |gQ m a=>intros;exact .gQ _ _
 |kt m t a cap=>intros;exact .kt _ _ _ _
 |ny m t xs b o cap f I D E J _=>
  intro _ F _;exact(Rd.ny none t xs b o cap f I D E J).mono none F (λ_ _ h=>by simp at h) (λk M=>by cases M) (λp y=>by cases y) (λp y=>by cases y)
 |p7 m t a=>intros;exact .p7 _ _ _
 |p8 m t xs b o f D E J _=>
  intro _ F _;exact(Rd.p8 none t xs b o f D E J).mono none F (λ_ _ h=>by simp at h) (λk M=>by cases M) (λp y=>by cases y) (λp y=>by cases y)
 |jC m d t a=>intros;exact .kt _ _ _ _
 |kf q p d t xs b o cap Z e fr f I D hh hu hs E _ U=>
  intro _ F R;obtain⟨N,P⟩:=R q p rfl b [tg t] D;refine .ny _ _ _ _ _ _ f I N (λr x j C hx Q=>?_) (λr x j C hx Q=>?_)
  ·obtain⟨A,u,rfl⟩:=DK (d:=d) Q;rw[ln P];exact E r x j A hx u
  ·obtain⟨A,u,rfl⟩:=DK (d:=d) Q;refine U r x j A hx u (fN u) F (λq2 p2 S b2 H Y=>?_);simp only[cW,eE] at S;obtain⟨rfl,rfl⟩:=S;exact R q p rfl b2 (((r:Int),cj t j)::H) (by simpa using Y)
 |_=>intro h;simp[dC] at h
theorem mK{t:Ty}(h:flat t=true)(d a:Bool)(x:El t):enc d t x=enc a t x:=by cases t<;>simp_all [flat,enc]
theorem ZM(d:Bool)(t:Ty)(x:El t):enc (flat t) t x=(enc d t x).map (if flat t then id else jZ):=by
 cases a:flat t with
 |true=>simp[mK a true d]
 |false=>simp[NP]
theorem Rd.uC{c c':Rc}{q:Rt}{p:dh}{d:Bool}{t:Ty}{xs:List (El t)}{v:Value}(h:Rd c (some (q,p)) (.own d t xs) v)(H:∀b,c.γ b=.im->c'.γ b=.im/\c'.w.heap[b]?=c.w.heap[b]?)
  (h0:∀b t,c.γ b=.at q (p++[tg t])->c'.γ b=.at q (p++[tg t])/\c'.w.heap[b]?=c.w.heap[b]?)(I:∀b r j C,64<=j->c.γ b=.at q (p++(r,j)::C)->c'.γ b=.im/\c'.w.heap[b]?=c.w.heap[b]?):
  Rd c' (some (q,p)) (.own (flat t) t xs) v:=by
 cases h with
 |jC=>exact .jC _ _ _ _
 |kf _ _ _ _ _ b o cap J e fr f M N P Q R S U=>
  obtain⟨D,A⟩:=h0 b t N;have back:∀(x:El t)(j:Nat)u,(enc (flat t) t x)[j]?=some u->∃kx,(enc d t x)[j]?=some kx/\u=(if flat t then id else jZ) kx:=λx j u y=>by
   rw[ZM d t x,hV] at y
   cases a:(enc d t x)[j]? with
   |none=>simp[a] at y
   |some kx=>exact⟨kx,rfl,by simpa[a] using y.symm⟩
  refine .kf _ _ _ _ _ _ _ _ J e fr f M D (A.trans P) Q R (λr x j u hx y=>?_) (λr x j u hx y=>?_)
  ·obtain⟨kx,a,_⟩:=back x j u y;rw[ln A];exact S r x j kx hx a
  ·obtain⟨kx,a,rfl⟩:=back x j u y;have Y:=fN a;have hz:Rd c' none (jZ kx) (f r j):=(U r x j kx hx a).jR Y H (λq2 p2 E b2 C Z=>by
    simp only[cW,eE] at E
    obtain⟨rfl,rfl⟩:=E
    exact I b2 r (cj t j) C (KC t j) (by simpa using Z));cases F:flat t with
   |false=>simpa[F] using hz.lift _
   |true=>
    have:jZ kx=kx:=by
     have:kx∈enc d t x:=eT a
     revert this
     cases t<;>simp_all [flat,enc]<;>(rintro(rfl|rfl|rfl|rfl)<;>rfl)<;>first|(rintro(rfl|rfl|rfl)<;>rfl)|(rintro(rfl|rfl)<;>rfl)|(rintro rfl;rfl)
    rw[this] at hz;simpa[F] using hz.lift _
section
variable{c:Rc}{m:Option Gp}{v:Value}{t:Ty}{xs:List (El t)}
theorem Rd.lu{d:Bool}(h:Rd c m (.own d t xs) v):(xs=[]/\∃a,v=.slice a 0 0)\/∃q p b o cap u e fr,∃f:Nat->Nat->Value,m=some (q,p)/\v=.slice (some ⟨b,o,none⟩) xs.length cap/\xs.length<=cap/\c.γ b=.at q (p++[tg t])/\
  c.w.heap[b]?=some (.cells u e fr)/\mz t u.size fr/\o+cap*cG t<=u.size/\
  (∀(r:Nat)x(j:Nat)y,xs[r]?=some x->(enc d t x)[j]?=some y->cellAt c.w b (o+r*cG t+j)=some (f r j)/\(f r j).oneCell'=true)/\
  (∀(r:Nat)x(j:Nat)y,xs[r]?=some x->(enc d t x)[j]?=some y->Rd c (some (q,p++[((r:Int),cj t j)])) y (f r j)):=by
 cases h with
 |jC _ _ _ a=>exact .inl ⟨rfl,a,rfl⟩
 |kf q p _ _ _ b o cap u e fr f A C D E F H I=>exact .inr ⟨q,p,b,o,cap,u,e,fr,f,rfl,rfl,A,C,D,E,F,H,I⟩
theorem Rd.NQ{y:Int}{A:Nat}(h:Rd c m (.j4 t xs y A) v):∃q p b o cap a e fr,∃f:Nat->Nat->Value,m=some (q,p)/\v=.slice (some ⟨b,o,none⟩) xs.length cap/\xs.length<=cap/\c.γ b=.at q (p++[tg t])/\
  c.w.heap[b]?=some (.cells a e fr)/\mz t a.size fr/\o+cap*cG t<=a.size/\
  (∀(r:Nat)x(j:Nat)u,xs[r]?=some x->(enc true t x)[j]?=some u->cellAt c.w b (o+r*cG t+j)=some (f r j)/\(f r j).oneCell'=true)/\
  (∀(r:Nat)x(j:Nat)u,xs[r]?=some x->(enc true t x)[j]?=some u->((r:Int)≠y\/j≠A)->Rd c (some (q,p++[((r:Int),cj t j)])) u (f r j)):=by
 cases h with
 |j4 q p _ _ _ _ b o cap a e fr f C D E F H I J=>exact⟨q,p,b,o,cap,a,e,fr,f,rfl,rfl,C,D,E,F,H,I,J⟩
theorem Rd.qy(h:Rd c m (.dT t xs) v):(xs=[]/\∃a cap,v=.slice a 0 cap)\/∃b o cap,∃f:Nat->Nat->Value,v=.slice (some ⟨b,o,none⟩) xs.length cap/\xs.length<=cap/\c.γ b=.im/\
  (∀(r:Nat)x(j:Nat)e,xs[r]?=some x->(enc false t x)[j]?=some e->cellAt c.w b (o+r*cG t+j)=some (f r j)/\(f r j).oneCell'=true)/\
  (∀(r:Nat)x(j:Nat)e,xs[r]?=some x->(enc false t x)[j]?=some e->Rd c none e (f r j)):=by
 cases h with
 |kt _ _ a cap=>exact .inl ⟨rfl,a,cap,rfl⟩
 |ny _ _ _ b o cap f u y A C=>exact .inr ⟨b,o,cap,f,rfl,u,y,A,C⟩
theorem Rd.Js(h:Rd c m (.fE t xs) v):(xs=[]/\∃a,v=.slice a 0 0)\/∃b o,∃f:Nat->Nat->Value,v=.slice (some ⟨b,o,none⟩) xs.length xs.length/\c.γ b=.im/\
  (∀(r:Nat)x(j:Nat)e,xs[r]?=some x->(enc false t x)[j]?=some e->cellAt c.w b (o+r*cG t+j)=some (f r j)/\(f r j).oneCell'=true)/\
  (∀(r:Nat)x(j:Nat)e,xs[r]?=some x->(enc false t x)[j]?=some e->Rd c none e (f r j)):=by
 cases h with
 |p7 _ _ a=>exact .inl ⟨rfl,a,rfl⟩
 |p8 _ _ _ b o f u y A=>exact .inr ⟨b,o,f,rfl,u,y,A⟩
theorem Rd.BY(h:Rd c m (.dT t xs) v):∃a cap,v=.slice a xs.length cap/\xs.length<=cap:=by
 rcases h.qy with⟨rfl,a,cap,rfl⟩|⟨b,o,cap,f,rfl,e,_⟩
 ·exact⟨a,cap,rfl,xD _⟩
 ·exact⟨_,_,rfl,e⟩
theorem Rd.Jt{d:Bool}(h:Rd c m (.own d t xs) v):∃a cap,v=.slice a xs.length cap/\xs.length<=cap:=by
 rcases h.lu with⟨rfl,a,rfl⟩|⟨q,p,b,o,cap,u,e,fr,f,_,rfl,j,_⟩
 ·exact⟨a,0,rfl,xD _⟩
 ·exact⟨_,_,rfl,j⟩
theorem Rd.yW(h:Rd c m (.fE t xs) v):Rd c m (.dT t xs) v:=by
 rcases h.Js with⟨rfl,a,rfl⟩|⟨b,o,f,rfl,e,j,u⟩
 ·exact .kt _ _ _ _
 ·exact .ny _ _ _ _ _ _ f (hY _) e j u
end
end
section
section
variable{α:Type}
theorem Na{α:Type}(i j:Nat)(x y:α):(bif Nat.beq i j then x else y)=if i=j then x else y:=by
 cases h:Nat.beq i j
 ·rw[cK (λe=>by subst e;simp at h)];rfl
 ·rw[cJ (gw h)];rfl
theorem ml(z:α)(l:Tr α)(x:α)(r:Tr α)(n:Nat):(Tr.nd l x r).get z n=if n=0 then x else if n % 2=1 then l.get z (n/2) else r.get z (n/2-1):=by
 simp only[Tr.get,Na];rfl
theorem Eg(l:Tr α)(x:α)(r:Tr α)(n:Nat)(v:α):(Tr.nd l x r).set n v=if n=0 then .nd l v r else if n % 2=1 then .nd (l.set (n/2) v) x r else .nd l x (r.set (n/2-1) v):=by
 simp only[Tr.set,Na];rfl
theorem vA(z v:α):∀(t:Tr α)(i j:Nat),i≠j->(t.set i v).get z j=t.get z j
 |.lf,_,_,_=>rfl
 |.nd l x r,i,j,h=>by
  rw[Eg,ml]
  by_cases y:i=0
  ·have e:j≠0:=by omega
   rw[cJ y,ml,cK e,cK e]
  ·rw[cK y]
   by_cases u:i % 2=1
   ·rw[cJ u,ml]
    by_cases e:j=0
    ·rw[cJ e,cJ e]
    ·rw[cK e,cK e]
     by_cases a:j % 2=1
     ·rw[cJ a,cJ a,vA z v l _ _ (by omega)]
     ·rw[cK a,cK a]
   ·rw[cK u,ml]
    by_cases e:j=0
    ·rw[cJ e,cJ e]
    ·rw[cK e,cK e]
     by_cases a:j % 2=1
     ·rw[cJ a,cJ a]
     ·rw[cK a,cK a,vA z v r _ _ (by omega)]
theorem xT(z v:α):∀(t:Tr α)(i:Nat),(t.set i v).get z i=v\/(t.set i v).get z i=z
 |.lf,_=>.inr rfl
 |.nd l x r,i=>by
  rw[Eg]
  by_cases e:i=0
  ·rw[cJ e,ml,cJ e];exact .inl rfl
  ·rw[cK e]
   by_cases a:i % 2=1
   ·rw[cJ a,ml,cK e,cJ a];exact xT z v l _
   ·rw[cK a,ml,cK e,cK a];exact xT z v r _
theorem DQ(z:α)(f:α->α)(a:f z=z):∀(t:Tr α)(i:Nat),(t.map f).get z i=f (t.get z i)
 |.lf,_=>a.symm
 |.nd l x r,i=>by
  simp only[Tr.map];rw[ml,ml];split
  ·rfl
  ·split
   ·exact DQ z f a l _
   ·exact DQ z f a r _
theorem vI(z:α):∀(n i:Nat),(Tr.full z n).get z i=z
 |0,_=>rfl
 |n+1,i=>by
  simp only[Tr.full];rw[ml];split
  ·rfl
  ·split
   ·exact vI z n _
   ·exact vI z n _
end
section
variable(s:TS)
theorem ra{k j:Nat}(v:TV)(h:j≠k):(s.raw k v).slot j=s.slot j:=vA _ _ _ _ _ (oy h)
theorem vJ(k:Nat)(v:TV):(s.raw k v).slot k=v\/(s.raw k v).slot k=.un:=xT _ _ _ _
theorem NR(k j:Nat)(v:BC):(s.bx k v).slot j=s.slot j:=rfl
theorem ui{k j:Nat}(v:BC)(h:j≠k):(s.bx k v).box j=s.box j:=vA _ _ _ _ _ (oy h)
theorem uj(k:Nat)(v:BC):(s.bx k v).box k=v\/(s.bx k v).box k=.none:=xT _ _ _ _
theorem qv(a:Pl->Bool)(k:Nat):(s.kill a).slot k=Ev.kill a (s.slot k):=DQ _ _ rfl _ _
theorem SB(a:Pl->Bool)(k:Nat):(s.kill a).box k=s.box k:=rfl
theorem A9(d k:Nat):(s.fS d).slot k=Ev.fS d (Ev.kill (Pl.gK d) (s.slot k)):=DQ _ (λv=>Ev.fS d (Ev.kill (Pl.gK d) v)) rfl _ _
theorem aaj(d k:Nat):(s.fS d).box k=s.box k:=rfl
end
theorem Zl{a:Pl->Bool}{tv:TV}(h:fy tv=true):j9 a tv=tv:=by
 cases tv<;>simp_all [j9,fy,dC]
theorem aak{a:Pl->Bool}{e:TV}(h:kg e=true):kg (j9 a e)=true:=by
 rcases aeJ h with h|rfl|⟨p,t,rfl⟩
 ·rw[Zl (by simp[fy,h])];simp[kg,fy,h]
 ·rfl
 ·simp only[j9];cases a p<;>rfl
theorem Rd.j9{c:Rc}{m:Option Gp}{e:TV}{v:Value}(h:Rd c m e v)(a:Pl->Bool):Rd c m (Ev.j9 a e) v:=by
 cases e<;>first
  |exact h
  |(simp only[Ev.j9];rename_i p _;cases a p<;>first|exact h|exact .un _ _)
  |(simp only[Ev.j9];rename_i p _ _;cases a p<;>first|exact h|exact .un _ _)
  |(simp only[Ev.j9];rename_i p _ _ _;cases a p<;>first|exact h|exact .un _ _)
theorem Rd.kill{c:Rc}{m:Option Gp}{e:TV}{v:Value}(h:Rd c m e v)(A:Pl->Bool):Rd c m (Ev.kill A e) v:=by
 cases e with
 |agg D=>
  cases h with
  |agg _ _ vs E F H I=>
   refine .agg _ _ _ (λe x=>?_) (by simpa using F) (λj e v y C=>?_) (λj e v y C=>?_)
   ·simp only[gR] at x;obtain⟨a,u,rfl⟩:=x;exact aak (E a u)
   all_goals
    rw[hV] at y;cases u:D[j]? with
    |none=>simp[u] at y
    |some a=>
     simp only[u,jc,cW] at y;subst y
     first|exact H j a v u C|exact(I j a v u C).j9 A
 |_=>exact h.j9 A
theorem sR{u:Pl->Bool}{y:TV}{p:Pl}(h:MV p (Ev.kill u y)):MV p y/\u p=false:=by
 have one:∀{y:TV},(∀A,y≠.agg A)->MV p (j9 u y)->MV p y/\u p=false:=by
  intro y C h
  cases y with
  |vw q t=>simp only[j9] at h;cases e:u q<;>simp[e] at h<;>cases h;exact⟨.vw _,e⟩
  |pa q t F=>simp only[j9] at h;cases e:u q<;>simp[e] at h<;>cases h;exact⟨.pa _ _,e⟩
  |sl q t H I=>simp only[j9] at h;cases e:u q<;>simp[e] at h<;>cases h;exact⟨.sl _ _ _,e⟩
  |ep q t r j=>simp only[j9] at h;cases e:u q<;>simp[e] at h<;>cases h;exact⟨.ep _ _ _,e⟩
  |agg A=>exact absurd rfl (C A)
  |_=>cases h
 cases y with
 |agg A=>
  simp only[Ev.kill] at h;cases h with
  |agg _ t D=>
   simp only[gR] at D;obtain⟨a,E,x⟩:=D;cases a with
   |vw q J=>
    simp only[j9] at x;cases e:u q with
    |true=>simp[e] at x
    |false=>
     simp only[e,cN,TV.vw.injEq] at x;obtain⟨rfl,rfl⟩:=x;exact⟨.agg _ _ E,e⟩
   |pa q _ _=>simp only[j9] at x;cases e:u q<;>simp[e] at x
   |sl q _ _ _=>simp only[j9] at x;cases e:u q<;>simp[e] at x
   |ep q _ _ _=>simp only[j9] at x;cases e:u q<;>simp[e] at x
   |_=>simp[j9] at x
 |_=>exact one (by simp) h
theorem ME{d:Nat}:∀{a:List TV},nn d a=false->∀j,TV.ptr d j∉a
 |[],_,j,h=>by simp at h
 |v::a,h,j,e=>by
  simp only[nn] at h;cases u:ptrTo d v with
  |true=>simp[u] at h
  |false=>
   simp only[u,cN] at h;rcases eo.1 e with rfl|e
   ·simp[ptrTo] at u
   ·exact ME h j e
theorem Rd.fS{c:Rc}{m:Option Gp}{a:TV}{v:Value}(h:Rd c m a v)(d:Nat):Rd c m (Ev.fS d a) v:=by
 cases a<;>first
  |exact h
  |(simp only[Ev.fS];rename_i k _;cases Nat.beq k d<;>first|exact h|exact .un _ _)
  |(simp only[Ev.fS];rename_i _ vs;cases nn d vs<;>first|exact h|exact .un _ _)
theorem SC{d:Nat}{u:TV}{k:Nat}(h:MB k (Ev.fS d u)):MB k u/\k≠d:=by
 cases u with
 |ptr q t=>simp only[Ev.fS] at h;cases a:Nat.beq q d<;>simp[a] at h<;>cases h;exact⟨.ptr _,λe=>by subst e;simp at a⟩
 |pe q t=>simp only[Ev.fS] at h;cases a:Nat.beq q d<;>simp[a] at h<;>cases h;exact⟨.pe _,λe=>by subst e;simp at a⟩
 |fn g y=>
  simp only[Ev.fS] at h;cases a:nn d y<;>simp[a] at h<;>cases h;rename_i j x;exact⟨.fn _ _ _ x,λe=>by subst e;exact ME a j x⟩
 |_=>simp only[Ev.fS] at h;cases h
theorem SD{d:Nat}{tv:TV}{p:Pl}(h:MV p (Ev.fS d tv)):MV p tv:=by
 cases tv with
 |ptr q t=>simp only[Ev.fS] at h;cases a:Nat.beq q d<;>simp[a] at h<;>cases h
 |pe q t=>simp only[Ev.fS] at h;cases a:Nat.beq q d<;>simp[a] at h<;>cases h
 |fn g e=>simp only[Ev.fS] at h;cases a:nn d e<;>simp[a] at h<;>cases h
 |_=>exact h
def va(e:Nat->Bool)(j:Nat->Value)(u:Nat->Nat)(w:World):Pl->Option Value
 |.slot k=>if e k=true then some (j k) else none
 |.cell k c=>cellAt w (u k) c
 |.sub p t r c=>
  match va e j u w p with
  |some (.slice (some ⟨b,o,none⟩) a _)=>if 0<=r/\r<(a:Int)/\c<cG t then cellAt w b (o+r.toNat*cG t+c) else none
  |_=>none
structure Gs where
 γ:Nat->G
 bx:Nat->Nat
 tm:Nat->Value
def Gs.rc(C:Cx)(g:Gs)(w:World):Rc:=⟨w,g.γ,g.bx,va C.vs g.tm g.bx w⟩
def jy(a:TV):Bool:=fy a||(match a with|.j4 _ _ _ _=>true|_=>false)
theorem ri{tv:TV}(h:jy tv=true)(p:Pl):¬ MV p tv:=by
 intro k;cases k<;>simp[jy,fy,dC] at h
theorem Eh{tv:TV}(h:jy tv=true)(p:Nat):¬ MB p tv:=by
 intro k;cases k<;>simp[jy,fy,dC] at h
def Pc(c:Rc)(k:Nat)(x:List TV):Prop:=∃a e fr,c.w.heap[c.bx k]?=some (.cells a e fr)/\uY a.size fr/\c.γ (c.bx k)=.at (.box k) []/\a.size=x.length/\(∀u∈x,jy u=true)/\∀(j:Nat)u v,x[j]?=some u->a[j]?=some v->v.oneCell'=true/\Rd c (some (.box k,[(0,j)])) u v
def afI(c:Rc)(k:Nat)(t:Ty)(j:List (El t)):Prop:=∃a e fr,c.w.heap[c.bx k]?=some (.cells a e fr)/\uY a.size fr/\c.γ (c.bx k)=.at (.box k) []/\gk t=false/\a.toList=j.map (jE t)
def s8(j:Nat->G)(w:World)(q:Rt)(x:cq)(v:Value):Prop:=x.length<=140737488355328->(v=.slice none 0 0/\x=[])\/∃g a e,v=.slice (some ⟨g,0,none⟩) x.length a/\j g=.at q [(0,1),tg (.int .u8)]/\w.heap[g]?=some (.cells e 5 (0,0))/\x.length<=a/\0<a/\a<=maxLen/\e.size=a/\e.toList.take x.length=x.map λc=>Value.int .u8 c.toNat
theorem s8.move{γ a:Nat->G}{w j:World}{q u:Rt}{x:cq}{v:Value}(h:s8 γ w q x v)(y:∀g,γ g=.at q [(0,1),tg (.int .u8)]->a g=.at u [(0,1),tg (.int .u8)]/\j.heap[g]?=w.heap[g]?):s8 a j u x v:=λC=>by
 rcases h C with h|⟨g,cap,e,D,A,E,F⟩
 ·exact .inl h
 ·exact .inr ⟨g,cap,e,D,(y g A).1,(y g A).2.trans E,F⟩
abbrev F3:TypeId:=181
def afJ(c:Rc)(k:Nat)(x:cq):Prop:=∃p v,c.w.heap[c.bx k]?=some (.cells #[p,v] F3 (0,0))/\c.γ (c.bx k)=.at (.box k) []/\(p=.pointer none\/p=.pointer (some ⟨c.bx k,0,none⟩))/\s8 c.γ c.w (.box k) x v
def tw(c:Rc)(k:Nat):BC->Prop|.none=>True|.cells a=>Pc c k a|.vec t e=>afI c k t e|.iy x=>afJ c k x
structure Env where
 n0:Nat
 Xg:Nat->G
 w0:World
structure xq(E:Env)(γ:Nat->G)(w:World):Prop where
 tape:w.tape=E.w0.tape
 os:w.os=E.w0.os
 output:w.output=E.w0.output
 size:E.n0<=w.heap.size
 fr:∀b,b<E.n0->E.Xg b=.fr->γ b=.fr/\w.heap[b]?=E.w0.heap[b]?
 im:∀b,b<E.n0->E.Xg b=.im->γ b=.im/\w.heap[b]?=E.w0.heap[b]?
 new:∀b,w.heap.size<=b->γ b=.fr
structure Rel(C:Cx)(E:Env)(s:TS)(g:Gs)(w:World):Prop where
 fD:∀k,Rd (g.rc C w) (some (.slot k,[])) (s.slot k) (g.tm k)
 boxes:∀k,tw (g.rc C w) k (s.box k)
 cI:xq E g.γ w
 gl:∀i,Rd (g.rc C w) none (C.gl i) (.pointer (some ⟨i,0,none⟩))
 kM:∀i,(∀p,¬ MV p (C.gl i))/\∀k,¬ MB k (C.gl i)
 gb:∀i o,C.gb i=some o->g.γ i=.im/\w.heap[i]?=some o
structure dA(X:Rt->dh->Prop)(γ:Nat->G)(w:World)(γ':Nat->G)(w':World):Prop where
 im:∀b,γ b=.im->γ' b=.im/\w'.heap[b]?=w.heap[b]?
 at':∀b q p,γ b=.at q p->¬ X q p->γ' b=.at q p/\w'.heap[b]?=w.heap[b]?
 fr:∀b,b<w.heap.size->γ b=.fr->γ' b=.fr/\w'.heap[b]?=w.heap[b]?
 size:w.heap.size<=w'.heap.size
 new:∀b,w'.heap.size<=b->γ' b=.fr
 tape:w'.tape=w.tape
 os:w'.os=w.os
 output:w'.output=w.output
theorem xq.next{E:Env}{X:Rt->dh->Prop}{γ e:Nat->G}{w j:World}(h:xq E γ w)(k:dA X γ w e j):xq E e j where
 tape:=k.tape.trans h.tape
 os:=k.os.trans h.os
 output:=k.output.trans h.output
 size:=zO h.size k.size
 fr:=λb a h0=>⟨(k.fr b (LH a h.size) (h.fr b a h0).1).1,(k.fr b (LH a h.size) (h.fr b a h0).1).2.trans (h.fr b a h0).2⟩
 im:=λb a h0=>⟨(k.im b (h.im b a h0).1).1,(k.im b (h.im b a h0).1).2.trans (h.im b a h0).2⟩
 new:=k.new
theorem dA.trans{X Y:Rt->dh->Prop}{γ u a:Nat->G}{w E x:World}(h:dA X γ w u E)(k:dA Y u E a x):dA (λq p=>X q p\/Y q p) γ w a x where
 im:=λb j=>⟨(k.im b (h.im b j).1).1,(k.im b (h.im b j).1).2.trans (h.im b j).2⟩
 at':=λb q p j hx=>by
  obtain⟨y,A⟩:=h.at' b q p j (λe=>hx (.inl e));obtain⟨C,D⟩:=k.at' b q p y (λe=>hx (.inr e));exact⟨C,D.trans A⟩
 fr:=λb j h0=>by
  obtain⟨y,A⟩:=h.fr b j h0;obtain⟨C,D⟩:=k.fr b (LH j h.size) y;exact⟨C,D.trans A⟩
 size:=zO h.size k.size
 new:=k.new
 tape:=k.tape.trans h.tape
 os:=k.os.trans h.os
 output:=k.output.trans h.output
theorem dA.mono{X Y:Rt->dh->Prop}{γ a:Nat->G}{w w':World}(h:dA X γ w a w')(j:∀q p,X q p->Y q p):dA Y γ w a w':={h with at':=λb q p u hx=>h.at' b q p u (λe=>hx (j _ _ e))}
theorem dA.refl{γ:Nat->G}{w:World}(X:Rt->dh->Prop)(a:∀b,w.heap.size<=b->γ b=.fr):dA X γ w γ w:=⟨λ_ h=>⟨h,rfl⟩,λ_ _ _ h _=>⟨h,rfl⟩,λ_ _ h=>⟨h,rfl⟩,hY _,a,rfl,rfl,rfl⟩
structure Kept(C:Cx)(X:Rt->dh->Prop)(g:Gs)(w:World)(g':Gs)(w':World)(tv:TV):Prop where
 bx:∀k,MB k tv->g'.bx k=g.bx k
 va:∀p,MV p tv->(g'.rc C w').va p=(g.rc C w).va p/\(VO (g.rc C w) p->VO (g'.rc C w') p)
 pa:∀p,MP p tv->∀π,¬ X (gp p).1 ((gp p).2++π)
theorem Rel.mV{C:Cx}{E:Env}{s s':TS}{g g':Gs}{w H:World}{X:Rt->dh->Prop}(h:Rel C E s g w)(y:dA X g.γ w g'.γ H)
  (I:∀k,Rd (g'.rc C H) (some (.slot k,[])) (s'.slot k) (g'.tm k)\/(s'.slot k=s.slot k/\g'.tm k=g.tm k/\(∀p,¬ X (.slot k) p)/\Kept C X g w g' H (s.slot k)))
  (P:∀k,tw (g'.rc C H) k (s'.box k)\/(s'.box k=s.box k/\g'.bx k=g.bx k/\∀p,¬ X (.box k) p)):Rel C E s' g' H where
 fD:=λk=>by
  rcases I k with J|⟨J,F,M,h4⟩
  ·exact J
  ·rw[J,F];exact(h.fD k).same (λb a=>y.im b a) (λq p N b π a=>by
    simp only[cW,eE] at N
    obtain⟨rfl,rfl⟩:=N
    exact y.at' b _ _ a (M _)) h4.bx h4.va (λp A b π a=>y.at' b _ _ a (h4.pa p A π))
 boxes:=λk=>by
  rcases P k with J|⟨J,F,M⟩
  ·exact J
  ·rw[J];have a:=h.boxes k;cases hc:s.box k with
   |none=>trivial
   |cells cs=>
    rw[hc] at a;obtain⟨vs,e,fr,Q,hu,R,hl,Y,Z⟩:=a;obtain⟨u,D⟩:=y.at' _ _ _ R (M _);refine⟨vs,e,fr,?_,hu,?_,hl,Y,λj S v U hv=>⟨(Z j S v U hv).1,(Z j S v U hv).2.same (λb a=>y.im b a) (λq p N b π a=>?_) (λi hi=>absurd hi (Eh (Y S (eT U)) i)) (λp A=>absurd A (ri (Y S (eT U)) p)) (λp A=>absurd A.mv (ri (Y S (eT U)) p))⟩⟩
    ·show H.heap[g'.bx k]?=_;rw[F];exact D.trans Q
    ·show g'.γ (g'.bx k)=_;rw[F];exact u
    ·simp only[cW,eE] at N;obtain⟨rfl,rfl⟩:=N;exact y.at' b _ _ a (M _)
   |vec t xs=>
    rw[hc] at a;obtain⟨vs,e,fr,Q,hu,R,hl⟩:=a;obtain⟨u,D⟩:=y.at' _ _ _ R (M _);exact⟨vs,e,fr,by show H.heap[g'.bx k]?=_;rw[F];exact D.trans Q,hu,by show g'.γ (g'.bx k)=_;rw[F];exact u,hl⟩
   |iy x=>
    rw[hc] at a;obtain⟨p,v,Q,R,A,Z⟩:=a;obtain⟨u,D⟩:=y.at' _ _ _ R (M _);refine⟨p,v,by show H.heap[g'.bx k]?=_;rw[F];exact D.trans Q,by show g'.γ (g'.bx k)=_;rw[F];exact u,by show p=_\/p=.pointer (some ⟨g'.bx k,0,none⟩);rw[F];exact A,?_⟩;exact Z.move λg' u=>y.at' g' _ _ u (M _)
 cI:=h.cI.next y
 gl:=λi=>(h.gl i).same (λb a=>y.im b a) (λq p N=>by simp at N) (λk hk=>absurd hk ((h.kM i).2 k)) (λp A=>absurd A ((h.kM i).1 p)) (λp A=>absurd A.mv ((h.kM i).1 p))
 kM:=h.kM
 gb i o hi:=⟨(y.im i (h.gb i o hi).1).1,(y.im i (h.gb i o hi).1).2.trans (h.gb i o hi).2⟩
def tC:Pl->List Pl|.slot _=>[]|.cell _ _=>[]|.sub p _ _ _=>p::tC p
def nW:Pl->Option Nat|.slot k=>some k|.cell _ _=>none|.sub p _ _ _=>nW p
def Cr:Pl->Option Nat|.slot _=>none|.cell k _=>some k|.sub p _ _ _=>Cr p
theorem mM{C:Cx}{X:Rt->dh->Prop}{g g':Gs}{w A:World}(E:dA X g.γ w g'.γ A):∀(p:Pl),VO (g.rc C w) p->
  (∀q∈tC p,∀b t,g.γ b=.at (gp q).1 ((gp q).2++[tg t])->(g'.γ b=.im\/g'.γ b=.at (gp q).1 ((gp q).2++[tg t]))/\A.heap[b]?=w.heap[b]?)->
  (∀k,nW p=some k->C.vs k=true->g'.tm k=g.tm k)->(∀k,Cr p=some k->g'.bx k=g.bx k/\¬ X (.box k) [])->
  (g'.rc C A).va p=(g.rc C w).va p/\VO (g'.rc C A) p
 |.slot k,_,_,F,_=>by
  refine⟨?_,trivial⟩;simp only[Gs.rc,va]
  by_cases D:C.vs k=true
  ·rw[cJ D,cJ D,F k rfl D]
  ·rw[cK D,cK D]
 |.cell k c,y,_,_,H=>by
  obtain⟨u,hx⟩:=H k rfl;simp only[VO,Gs.rc] at y;obtain⟨I,N⟩:=E.at' _ _ _ y hx;refine⟨?_,?_⟩
  ·simp only[Gs.rc,va];rw[u];exact ln N
  ·simp only[VO,Gs.rc];rw[u];exact I
 |.sub p t r c,y,M,F,H=>by
  obtain⟨y,I⟩:=y;obtain⟨x,J⟩:=mM E p y (λq P=>M q (by simp[tC,P])) F H;have j:∀b o a e,(g.rc C w).va p=some (.slice (some ⟨b,o,none⟩) a e)->(g'.γ b=.im\/g'.γ b=.at (gp p).1 ((gp p).2++[tg t]))/\A.heap[b]?=w.heap[b]?:=λb o a e u=>by
   rcases I b o a e u with h|h
   ·exact⟨.inl (E.im b h).1,(E.im b h).2⟩
   ·exact M p (by simp[tC]) b t h
  refine⟨?_,J,λb o a e u=>(j b o a e (x ▸u)).1⟩;simp only[Gs.rc] at x j⊢;simp only[va,x];split
  ·rename_i b o a e u;split
   ·exact ln (j b o a e u).2
   ·rfl
  ·rfl
theorem nO{X:Rt->dh->Prop}{e a:Nat->G}{w j:World}(u:dA X e w a j){p:Pl}(h:∀q∈tC p,∀t:Ty,X (gp q).1 ((gp q).2++[tg t])->False):∀q∈tC p,∀b t,e b=.at (gp q).1 ((gp q).2++[tg t])->(a b=.im\/a b=.at (gp q).1 ((gp q).2++[tg t]))/\j.heap[b]?=w.heap[b]?:=λq x b t y=>⟨.inr (u.at' b _ _ y (λhx=>h q x t hx)).1,(u.at' b _ _ y (λhx=>h q x t hx)).2⟩
theorem wj:∀{p:Pl}{k:Nat},nW p=some k↔(gp p).1=.slot k
 |.slot k,j=>by simp[nW,gp]
 |.cell _ _,j=>by simp[nW,gp]
 |.sub p _ _ _,j=>by simpa[nW,gp] using wj (p:=p)
theorem yK:∀{p:Pl}{k:Nat},Cr p=some k↔(gp p).1=.box k
 |.slot k,j=>by simp[Cr,gp]
 |.cell _ _,j=>by simp[Cr,gp]
 |.sub p _ _ _,j=>by simpa[Cr,gp] using yK (p:=p)
theorem pJ:∀{p q:Pl},q∈tC p->(gp q).1=(gp p).1/\p.jn=true
 |.slot _,_,h=>by simp[tC] at h
 |.cell _ _,_,h=>by simp[tC] at h
 |.sub p _ _ _,q,h=>by
  simp only[tC,eo] at h;refine⟨?_,rfl⟩;rcases h with rfl|h
  ·rfl
  ·exact(pJ h).1
theorem wC:∀{p:Pl}{k:Nat},p.lD k=true↔(gp p).1=.slot k
 |.slot k,j=>by simp only[Pl.lD,gp,Nat.beq_eq,Rt.slot.injEq];exact⟨λh=>h.symm,λh=>h.symm⟩
 |.cell _ _,j=>by simp[Pl.lD,gp]
 |.sub p _ _ _,j=>by simpa[Pl.lD,gp] using wC (p:=p)
theorem uy:∀{p:Pl}{k:Nat},p.gK k=true↔(gp p).1=.box k
 |.slot k,j=>by simp[Pl.gK,gp]
 |.cell k _,j=>by simp only[Pl.gK,gp,Nat.beq_eq,Rt.box.injEq];exact⟨λh=>h.symm,λh=>h.symm⟩
 |.sub p _ _ _,j=>by simpa[Pl.gK,gp] using uy (p:=p)
theorem adm{p:Pl}{k:Nat}:p.nF k=true↔(gp p).1=.slot k/\p.jn=true:=by
 cases p with
 |sub p t r c=>simp only[Pl.nF,wC,gp,Pl.jn,jg]
 |_=>simp[Pl.nF,Pl.jn]
theorem adn{p:Pl}{k:Nat}:p.nG k=true↔(gp p).1=.box k/\p.jn=true:=by
 cases p with
 |sub p t r c=>simp only[Pl.nG,uy,gp,Pl.jn,jg]
 |_=>simp[Pl.nG,Pl.jn]
theorem Rel.tD{C:Cx}{E:Env}{s a:TS}{g:Gs}{w:World}(h:Rel C E s g w)(j:∀k,Rd (g.rc C w) (some (.slot k,[])) (a.slot k) (g.tm k))(u:∀k,a.box k=s.box k\/a.box k=.none):Rel C E a g w:=⟨j,λk=>by rcases u k with e|e<;>rw[e];exact h.boxes k;trivial,h.cI,h.gl,h.kM,h.gb⟩
theorem Rel.kill{C:Cx}{E:Env}{s:TS}{g:Gs}{w:World}(h:Rel C E s g w)(a:Pl->Bool):Rel C E (s.kill a) g w:=h.tD (λk=>by rw[qv];exact(h.fD k).kill a) (λk=>.inl (SB s a k))
theorem Rel.fS{C:Cx}{E:Env}{s:TS}{g:Gs}{w:World}(h:Rel C E s g w)(d:Nat):Rel C E (s.fS d) g w:=h.tD (λk=>by rw[A9];exact((h.fD k).kill _).fS d) (λk=>.inl (aaj s d k))
end
section
section
theorem uE:∀(l:List TV)(n:Nat),nth l n=l[n]?.getD .un
 |[],_=>by simp[nth]
 |_::_,0=>rfl
 |_::r,n+1=>by simp[nth,uE r n]
theorem rD:∀(l:List TV)(n:Nat)(x:TV),kJ l n x=l.set n x
 |[],_,_=>rfl
 |_::_,0,_=>rfl
 |v::r,n+1,x=>by simp[kJ,rD r n x]
theorem yL:∀(n:Nat)(l:List TV),takeN n l=l.take n
 |0,_=>by simp[takeN]
 |n+1,[]=>rfl
 |n+1,v::r=>by simp[takeN,yL n r]
theorem yM:∀(n:Nat)(l:List TV),uM n l=l.drop n
 |0,_=>rfl
 |n+1,[]=>rfl
 |n+1,v::r=>by simp[uM,yM n r]
theorem Ud:∀(l m:List TV),CD l m=l++m
 |[],_=>rfl
 |v::r,m=>by simp[CD,Ud r m]
theorem wD:∀(l:List TV),pZ l=l.length
 |[]=>rfl
 |_::r=>by simp[pZ,wD r]
theorem BZ(a e:List TV)(c:Nat):o4 a c e=a.take c++e++a.drop (c+e.length):=by
 simp only[o4,Ud,yL,yM,wD,jW];rfl
theorem uq{c n:Nat}{cs:List TV}:room c n cs=true↔c+n<=cs.length:=by
 simp only[room,wD,Nat.ble_eq];rfl
variable{α R:Type}{r:R}
theorem eM{o:Option α}{f:α->Option R}:ck o f=some r↔∃x,o=some x/\f x=some r:=zP
theorem dM{c:Bool}{x:Option R}:(bif c then x else none)=some r↔c=true/\x=some r:=by cases c<;>simp
theorem BA{b:Bool}{x y:Option R}:tI b x y=some r↔(b=true/\x=some r)\/(b=false/\y=some r):=by cases b<;>simp[tI]
theorem lp{a:List α}{n:Int}{x:α}:cm a n=some x↔0<=n/\a[n.toNat]?=some x:=by
 unfold cm
 by_cases h:0<=n
 ·rw[cJ h];exact⟨λe=>⟨h,e⟩,λe=>e.2⟩
 ·rw[cK h];exact⟨λe=>by simp at e,λe=>absurd e.1 h⟩
theorem lR{b:Bool}{u:Unit}:dJ b=some u↔b=true:=by cases b<;>simp[dJ]
theorem sJ{a u:List α}{l h:Int}:eR a l h=some u↔(0<=l/\l<=h/\h<=a.length)/\u=(a.drop l.toNat).take (h.toNat-l.toNat):=by
 unfold eR
 by_cases j:0<=l/\l<=h/\h<=a.length
 ·rw[cJ j];exact⟨λe=>⟨j,(gA e).symm⟩,λe=>by rw[e.2]⟩
 ·rw[cK j];exact⟨λe=>by simp at e,λe=>absurd e.1 j⟩
end
theorem Ue{C:Cx}{E:Env}{s:TS}{g:Gs}{w:World}{R:Type}{r:R}(h:Rel C E s g w):∀(p:Pl)(K:TV->Option R),jN C s p K=some r->
  ∃P,K P=some r/\(P=.un\/∃v,(g.rc C w).va p=some v/\Rd (g.rc C w) (some (gp p)) P v/\VO (g.rc C w) p)
 |.slot k,K,j=>by
  simp only[jN,dM] at j;refine⟨_,j.2,.inr ⟨g.tm k,?_,h.fD k,trivial⟩⟩;simp only[Gs.rc,va];rw[cJ j.1]
 |.cell k c,K,j=>by
  simp only[jN] at j;split at j
  ·rename_i cs A;refine⟨_,j,?_⟩;rw[uE];have D:=h.boxes k;rw[A] at D;obtain⟨vs,e,fr,hh,hu,U,hl,hT,Y⟩:=D
   by_cases Q:c<cs.length
   ·right
    have a:c<vs.size:=by omega
    obtain⟨_,h2⟩:=Y c cs[c] vs[c] (eA Q) (ju a);refine⟨vs[c],?_,by rw[eA Q];exact h2,U⟩;have aa:w.heap[g.bx k]?=some (.cells vs e fr):=hh;simp[Gs.rc,va,cellAt,World.cell?,aa,a]
   ·left;simp[mY (by omega:cs.length<=c)]
  ·simp at j
 |.sub p t i c,K,j=>by
  simp only[jN] at j;obtain⟨P,j,S⟩:=Ue h p _ j;have ab:∀(d:Bool)(y:Ty)(xs:List (El y))(x:El y),P=(if d then .own true y xs else P)->y=t->True:=λ_ _ _ _ _ _=>trivial;clear ab;split at j
  ·rename_i d y xs;obtain⟨F,H⟩:=dM.1 j;obtain⟨x,hx,I⟩:=eM.1 H;obtain⟨h0,hx⟩:=lp.1 hx;have F:y=t:=fj F;subst F;refine⟨_,I,?_⟩;rw[uE];rcases S with S|⟨v,J,Y,M⟩
   ·simp at S
   rcases Y.lu with⟨rfl,_⟩|⟨q,π,b,o,ad,cs,e,fr,f,hm,rfl,hl,U,hh,hu,hs,Q,N⟩
   ·simp at hx
   ·simp only[cW] at hm
    by_cases a:c<cG y
    ·right
     have u:(enc d y x)[c]?=some ((enc d y x)[c]'(by rw[gV];exact a)):=eA _;obtain⟨h1,h2⟩:=Q i.toNat x c _ hx u;have h3:=N i.toNat x c _ hx u;refine⟨f i.toNat c,?_,?_,M,λb' o' ae Z A=>?_⟩
     ·have af:i.toNat<xs.length:=(eF.1 hx).1;simp only[Gs.rc] at J⊢;simp only[va,J];rw[cJ ⟨h0,by omega,a⟩];exact h1
     ·rw[u];have hi:((i.toNat:Nat):Int)=i:=by omega
      rw[hi] at h3;simp only[gp,hm];exact h3
     ·have:(g.rc C w).va p=_:=J;rw[this] at A;simp only[cW,Value.slice.injEq,Addr.mk.injEq,jg] at A;obtain⟨⟨rfl,_⟩,_⟩:=A;exact .inr (by rw[hm];exact U)
    ·left;rw[mY (by rw[gV];omega)];rfl
  ·rename_i y xs;obtain⟨F,H⟩:=dM.1 j;obtain⟨x,hx,I⟩:=eM.1 H;obtain⟨h0,hx⟩:=lp.1 hx;have F:y=t:=fj F;subst F;refine⟨_,I,?_⟩;rw[uE];rcases S with S|⟨v,J,Y,M⟩
   ·simp at S
   rcases Y.qy with⟨rfl,_⟩|⟨b,o,ad,f,rfl,hl,U,Q,N⟩
   ·simp at hx
   ·by_cases a:c<cG y
    ·right
     have u:(enc false y x)[c]?=some ((enc false y x)[c]'(by rw[gV];exact a)):=eA _;obtain⟨h1,h2⟩:=Q i.toNat x c _ hx u;have h3:=N i.toNat x c _ hx u;refine⟨f i.toNat c,?_,?_,M,λb' o' ae Z A=>?_⟩
     ·have af:i.toNat<xs.length:=(eF.1 hx).1;simp only[Gs.rc] at J⊢;simp only[va,J];rw[cJ ⟨h0,by omega,a⟩];exact h1
     ·rw[u];exact h3.lift _
     ·have:(g.rc C w).va p=_:=J;rw[this] at A;simp only[cW,Value.slice.injEq,Addr.mk.injEq,jg] at A;obtain⟨⟨rfl,_⟩,_⟩:=A;exact .inl U
    ·left;rw[mY (by rw[gV];omega)];rfl
  ·simp at j
def fQ(C:Cx)(s:TS):Pl->Option TV
 |.slot k=>if C.vs k=true then some (s.slot k) else none
 |.cell k c=>
  match s.box k with
  |.cells j=>some (nth j c)
  |_=>none
 |.sub p t i c=>
  match fQ C s p with
  |some (.own d a e)=>if a=t then(cm e i).map λx=>nth (enc d a x) c else none
  |some (.dT a e)=>if a=t then(cm e i).map λx=>nth (enc false a x) c else none
  |_=>none
theorem uz{C:Cx}{s:TS}{R:Type}:∀(p:Pl)(K:TV->Option R),jN C s p K=(fQ C s p).bind K
 |.slot k,K=>by simp only[jN,fQ];cases C.vs k<;>rfl
 |.cell k c,K=>by simp only[jN,fQ];cases s.box k<;>rfl
 |.sub p t i c,K=>by
  simp only[jN,fQ];rw[uz p];cases fQ C s p with
  |none=>rfl
  |some u=>
   cases u with
   |own d e j=>
    by_cases a:e=t
    ·subst a;simp only[pC,fU,cL,gr];unfold ck;cases cm j i<;>rfl
    ·simp only[pC,cK a,gB a,cN];rfl
   |dT e j=>
    by_cases a:e=t
    ·subst a;simp only[pC,fU,cL,gr];unfold ck;cases cm j i<;>rfl
    ·simp only[pC,cK a,gB a,cN];rfl
   |_=>rfl
theorem oL{C:Cx}{s:TS}{R:Type}{r:R}{p:Pl}{K:TV->Option R}(h:jN C s p K=some r):∃a,fQ C s p=some a/\K a=some r:=by
 rw[uz] at h;exact zP.1 h
theorem sS{C:Cx}{E:Env}{s:TS}{g:Gs}{w:World}(h:Rel C E s g w){p:Pl}{a:TV}(j:fQ C s p=some a):a=.un\/∃v,(g.rc C w).va p=some v/\Rd (g.rc C w) (some (gp p)) a v/\VO (g.rc C w) p:=by
 obtain⟨u,e,x⟩:=Ue (r:=a) h p some (by rw[uz,j];rfl);simp only[cW] at e;subst e;exact x
def eC(q1:Rt)(p1:dh)(q:Rt)(p:dh):Prop:=q=q1/\p1<+:p
def dP(γ:Nat->G)(q1:Rt)(p1:dh)(q2:Rt)(p2:dh):Nat->G:=λb=>
 match γ b with
 |.at q p=>if q=q1/\p1<+:p then .at q2 (p2++p.drop p1.length) else .at q p
 |x=>x
def kY(γ:Nat->G)(q1:Rt)(p1:dh):Nat->G:=λb=>
 match γ b with
 |.at q p=>if q=q1/\p1<+:p then .im else .at q p
 |x=>x
section
variable{γ:Nat->G}{q1 q2 q:Rt}{p1 p2 p π:dh}{b:Nat}
theorem yN(h:γ b=.at q1 (p1++π)):dP γ q1 p1 q2 p2 b=.at q2 (p2++π):=by simp[dP,h]
theorem vX(h:γ b=.at q p)(a:¬ eC q1 p1 q p):dP γ q1 p1 q2 p2 b=.at q p:=by
 simp only[dP,h];exact cK a
theorem qx(h:γ b=.im):dP γ q1 p1 q2 p2 b=.im:=by simp[dP,h]
theorem EI(h:γ b=.fr):dP γ q1 p1 q2 p2 b=.fr:=by simp[dP,h]
theorem Ju(h:γ b=.at q1 (p1++π)):kY γ q1 p1 b=.im:=by simp[kY,h]
theorem SE(h:γ b=.at q p)(a:¬ eC q1 p1 q p):kY γ q1 p1 b=.at q p:=by
 simp only[kY,h];exact cK a
theorem B0(h:γ b=.im):kY γ q1 p1 b=.im:=by simp[kY,h]
theorem NS(h:γ b=.fr):kY γ q1 p1 b=.fr:=by simp[kY,h]
theorem ado(h:γ b=.at q p):kY γ q1 p1 b=.im\/kY γ q1 p1 b=.at q p:=by
 simp only[kY,h];split<;>simp
theorem oG{w:World}(a:∀b,w.heap.size<=b->γ b=.fr):dA (eC q1 p1) γ w (dP γ q1 p1 q2 p2) w:=⟨λ_ h=>⟨qx h,rfl⟩,λ_ _ _ h hx=>⟨vX h hx,rfl⟩,λ_ _ h=>⟨EI h,rfl⟩,hY _,λb e=>EI (a b e),rfl,rfl,rfl⟩
theorem Uf{w:World}(a:∀b,w.heap.size<=b->γ b=.fr):dA (eC q1 p1) γ w (kY γ q1 p1) w:=⟨λ_ h=>⟨B0 h,rfl⟩,λ_ _ _ h hx=>⟨SE h hx,rfl⟩,λ_ _ h=>⟨NS h,rfl⟩,hY _,λb e=>NS (a b e),rfl,rfl,rfl⟩
end
theorem Rd.J9{c:Rc}{m:Option Gp}{a:TV}{v:Value}(h:Rd c m a v){p:Pl}(e:MP p a):p.jn=true:=by
 cases e;cases h;assumption
theorem Q2{C:Cx}{E:Env}{s:TS}{g:Gs}{w:World}{k:Nat}{a:dh}{γ':Nat->G}(h:Rel C E s g w)(x:dA (eC (.slot k) a) g.γ w γ' w)(y:∀j p,MV p (s.slot j)->(gp p).1=.slot k->p.jn=true->False)
  (j:Nat):Kept C (eC (.slot k) a) g w {g with γ:=γ'} w (s.slot j) where
 bx:=λ_ _=>rfl
 va:=λp e=>by
  have:=λu=>mM (C:=C) (g:=g) (g':={g with γ:=γ'}) x p u (nO x λq A _ hx=>y j p e ((pJ A).1 ▸hx.1) (pJ A).2) (λ_ _ _=>rfl) (λi _=>⟨rfl,λhx=>by simp[eC] at hx⟩);exact⟨rfl,λu=>(this u).2⟩
 pa:=λp e π hx=>y j p e.mv hx.1 ((h.fD j).J9 e)
theorem aal{C:Cx}{E:Env}{s:TS}{g:Gs}{w:World}{k c:Nat}{e:dh}{a:Nat->G}(h:Rel C E s g w)(y:dA (eC (.box k) ((0,c)::e)) g.γ w a w)(A:∀j p,MV p (s.slot j)->(gp p).1=.box k->p.jn=true->False)
  (j:Nat):Kept C (eC (.box k) ((0,c)::e)) g w {g with γ:=a} w (s.slot j) where
 bx:=λ_ _=>rfl
 va:=λp u=>by
  have:=λx=>mM (C:=C) (g:=g) (g':={g with γ:=a}) y p x (nO y λq D _ hx=>A j p u ((pJ D).1 ▸hx.1) (pJ D).2) (λ_ _ _=>rfl) (λi _=>⟨rfl,λhx=>by simp[eC] at hx⟩);exact⟨rfl,λx=>(this x).2⟩
 pa:=λp u π hx=>A j p u.mv hx.1 ((h.fD j).J9 u)
theorem HD{s:TS}{k:Nat}:∀j p,MV p ((s.kill (Pl.nF k)).slot j)->(gp p).1=.slot k->p.jn=true->False:=λj p a e u=>by
 rw[qv] at a;have:=(sR a).2;rw[adm.2 ⟨e,u⟩] at this;simp at this
theorem HE{s:TS}{k:Nat}:∀j p,MV p ((s.kill (Pl.nG k)).slot j)->(gp p).1=.box k->p.jn=true->False:=λj p a e u=>by
 rw[qv] at a;have:=(sR a).2;rw[adn.2 ⟨e,u⟩] at this;simp at this
theorem Rel.KD{C:Cx}{E:Env}{s:TS}{g:Gs}{w:World}{k:Nat}{x:dh}{a:Nat->G}{u:TV}(h:Rel C E s g w)(A:dA (eC (.slot k) x) g.γ w a w)(D:∀j p,MV p (s.slot j)->(gp p).1=.slot k->p.jn=true->False)
  (F:Rd (Gs.rc C {g with γ:=a} w) (some (.slot k,[])) u (g.tm k)):Rel C E (s.raw k u) {g with γ:=a} w:=by
 refine h.mV A (λj=>?_) (λj=>.inr ⟨rfl,rfl,λp hx=>by simp[eC] at hx⟩)
 by_cases y:j=k
 ·subst y
  left
  rcases vJ s j u with e|e<;>rw[e]
  ·exact F
  ·exact .un _ _
 ·exact .inr ⟨ra s u y,rfl,λp hx=>y (by simpa[eC] using hx.1),Q2 h A D j⟩
theorem MF{C:Cx}{g:Gs}{w:World}{γ':Nat->G}{k c:Nat}{N:List TV}{π0:dh}{E:TV}(D:Pc (g.rc C w) k N)(F:dA (eC (.box k) ((0,c)::π0)) g.γ w γ' w)(Z:jy E=true)
  (hv:∀v,cellAt w (g.bx k) c=some v->Rd (Gs.rc C {g with γ:=γ'} w) (some (.box k,[(0,c)])) E v):Pc (Gs.rc C {g with γ:=γ'} w) k (N.set c E):=by
 obtain⟨P,e,fr,Q,hu,hg,hl,u,S⟩:=D;have H:=(F.at' _ _ _ hg (by simp[eC])).1;refine⟨P,e,fr,Q,hu,H,by simpa using hl,λx hx=>?_,λj x v a y=>?_⟩
 ·rcases zQ hx with hx|rfl
  ·exact u x hx
  ·exact Z
 ·rw[ahZ] at a;split at a
  ·rename_i A;subst A;split at a
   ·rename_i I;simp only[cW] at a;subst a;have J:w.heap[g.bx k]?=some (.cells P e fr):=Q;refine⟨(S _ _ v (eA I) y).1,hv v ?_⟩;simp[cellAt,World.cell?,J,y]
   ·simp at a
  ·rename_i A;obtain⟨h1,h2⟩:=S j x v a y;refine⟨h1,h2.same (λb D=>F.im b D) (λq p U b π D=>?_) (λi hi=>absurd hi (Eh (u x (eT a)) i)) (λp M=>absurd M (ri (u x (eT a)) p)) (λp M=>absurd M.mv (ri (u x (eT a)) p))⟩;simp only[cW,eE] at U;obtain⟨rfl,rfl⟩:=U;refine F.at' b _ _ D λhx=>?_;obtain⟨_,t,Y⟩:=hx;simp at Y;exact A Y.1
theorem Rel.We{C:Cx}{E:Env}{s:TS}{g:Gs}{w:World}{k c:Nat}{y:List TV}{π0:dh}{u:Nat->G}{x:TV}(h:Rel C E s g w)(F:s.box k=.cells y)(A:dA (eC (.box k) ((0,c)::π0)) g.γ w u w)
  (H:∀j p,MV p (s.slot j)->(gp p).1=.box k->p.jn=true->False)(I:jy x=true)
  (J:∀v,cellAt w (g.bx k) c=some v->Rd (Gs.rc C {g with γ:=u} w) (some (.box k,[(0,c)])) x v):Rel C E (s.bx k (.cells (kJ y c x))) {g with γ:=u} w:=by
 refine h.mV A (λj=>.inr ⟨NR s k j _,rfl,λp hx=>by simp[eC] at hx,aal h A H j⟩) (λj=>?_)
 by_cases D:j=k
 ·subst D
  left
  have a:=h.boxes j;rw[F] at a;rcases uj s j (.cells (kJ y c x)) with e|e<;>rw[e]
  ·rw[rD];exact MF a A I J
  ·trivial
 ·exact .inr ⟨ui s _ D,rfl,λp hx=>D (by simpa[eC] using hx.1)⟩
end
theorem Rd.qB{c:Rc}{m:Option Gp}{a:TV}{v:Value}(h:Rd c m a v)(e:Pl->Bool):Rd c m (Ev.qB e a) v:=by
 cases a<;>first
  |exact h
  |(simp only[Ev.qB];rename_i p _ _;cases e p<;>first|exact h|exact .un _ _)
theorem MG{a:Pl->Bool}{e:TV}{p:Pl}(h:MP p (Ev.qB a e)):a p=false:=by
 cases e with
 |pa q t u=>simp only[Ev.qB] at h;cases j:a q<;>simp[j] at h<;>cases h;exact j
 |_=>cases h
theorem yv(s:TS)(a:Pl->Bool)(k:Nat):(s.fW a).slot k=Ev.qB a (s.slot k):=DQ _ _ rfl _ _
theorem Rel.fW{C:Cx}{E:Env}{s:TS}{g:Gs}{w:World}(h:Rel C E s g w)(a:Pl->Bool):Rel C E (s.fW a) g w:=h.tD (λk=>by rw[yv];exact(h.fD k).qB a) (λ_=>.inl rfl)
theorem Wf{s:TS}{k:Nat}:∀j p,MP p ((s.fW (Pl.lD k)).slot j)->(gp p).1=.slot k->False:=λj p a e=>by
 rw[yv] at a;have:=MG a;rw[wC.2 e] at this;simp at this
theorem Wg{s:TS}{k:Nat}:∀j p,MP p ((s.fW (Pl.gK k)).slot j)->(gp p).1=.box k->False:=λj p a e=>by
 rw[yv] at a;have:=MG a;rw[uy.2 e] at this;simp at this
def PM(e a:Nat->G):Prop:=∀b q p,e b=.at q p->a b=.im\/a b=.at q p
theorem Vq{a:Nat->G}{e:Rt}{j:dh}:PM a (kY a e j):=λ_ _ _ h=>ado h
theorem I3{C:Cx}{g:Gs}{w:World}{a:Nat->G}{X:Rt->dh->Prop}{e:TV}(j:dA X g.γ w a w)(u:PM g.γ a)(hx:∀k,¬ X (.box k) [])(x:∀p,MP p e->∀y,¬ X (gp p).1 ((gp p).2++y)):
  Kept C X g w {g with γ:=a} w e where
 bx:=λ_ _=>rfl
 va:=λp _=>⟨rfl,λA=>(mM (C:=C) (g:=g) (g':={g with γ:=a}) j p A (λ_ _ b _ D=>⟨u b _ _ D,rfl⟩) (λ_ _ _=>rfl) (λi _=>⟨rfl,hx i⟩)).2⟩
 pa:=x
theorem Rel.Wh{C:Cx}{E:Env}{s:TS}{g:Gs}{w:World}{k:Nat}{u:dh}{a:Nat->G}{x:TV}(h:Rel C E s g w)(A:dA (eC (.slot k) u) g.γ w a w)(D:∀j,j≠k->Kept C (eC (.slot k) u) g w {g with γ:=a} w (s.slot j))
  (F:Rd (Gs.rc C {g with γ:=a} w) (some (.slot k,[])) x (g.tm k)):Rel C E (s.raw k x) {g with γ:=a} w:=by
 refine h.mV A (λj=>?_) (λj=>.inr ⟨rfl,rfl,λp hx=>by simp[eC] at hx⟩)
 by_cases y:j=k
 ·subst y
  left
  rcases vJ s j x with e|e<;>rw[e]
  ·exact F
  ·exact .un _ _
 ·exact .inr ⟨ra s x y,rfl,λp hx=>y (by simpa[eC] using hx.1),D j y⟩
theorem Rel.Wi{C:Cx}{E:Env}{s:TS}{g:Gs}{w:World}{k c:Nat}{y:List TV}{π0:dh}{a:Nat->G}{x:TV}(h:Rel C E s g w)(F:s.box k=.cells y)(D:dA (eC (.box k) ((0,c)::π0)) g.γ w a w)
  (H:∀j,Kept C (eC (.box k) ((0,c)::π0)) g w {g with γ:=a} w (s.slot j))(I:jy x=true)
  (J:∀v,cellAt w (g.bx k) c=some v->Rd (Gs.rc C {g with γ:=a} w) (some (.box k,[(0,c)])) x v):Rel C E (s.bx k (.cells (kJ y c x))) {g with γ:=a} w:=by
 refine h.mV D (λj=>.inr ⟨NR s k j _,rfl,λp hx=>by simp[eC] at hx,H j⟩) (λj=>?_)
 by_cases A:j=k
 ·subst A
  left
  have u:=h.boxes j;rw[F] at u;rcases uj s j (.cells (kJ y c x)) with e|e<;>rw[e]
  ·rw[rD];exact MF u D I J
  ·trivial
 ·exact .inr ⟨ui s _ A,rfl,λp hx=>A (by simpa[eC] using hx.1)⟩
def eX(a s:TS):Prop:=∀k p,MV p (a.slot k)->MV p (s.slot k)
theorem eX.refl(s:TS):eX s s:=λ_ _ h=>h
theorem eX.trans{s e a:TS}(h:eX a e)(k:eX e s):eX a s:=λi p j=>k i p (h i p j)
theorem eX.kill(s:TS)(e:Pl->Bool):eX (s.kill e) s:=λi p a=>by rw[qv] at a;exact(sR a).1
theorem aam{a:Pl->Bool}{tv:TV}{p:Pl}(h:MV p (Ev.qB a tv)):MV p tv:=by
 cases tv with
 |pa q t j=>simp only[Ev.qB] at h;cases e:a q<;>simp[e] at h<;>cases h;exact .pa _ _
 |_=>exact h
theorem eX.fW(s:TS)(e:Pl->Bool):eX (s.fW e) s:=λi p a=>by rw[yv] at a;exact aam a
theorem eX.raw(s:TS)(k:Nat){v:TV}(h:∀p,MV p v->MV p (s.slot k)):eX (s.raw k v) s:=λi p a=>by
 by_cases hi:i=k
 ·subst hi;rcases vJ s i v with e|e<;>rw[e] at a
  ·exact h p a
  ·cases a
 ·rwa[ra s v hi] at a
theorem eX.KT{j s:TS}(k:Nat){v:TV}(h0:eX j s)(h:∀p,MV p v->MV p (s.slot k)):eX (j.raw k v) s:=λi p a=>by
 by_cases hi:i=k
 ·subst hi;rcases vJ j i v with e|e<;>rw[e] at a
  ·exact h p a
  ·cases a
 ·rw[ra j v hi] at a;exact h0 i p a
theorem eX.bx(s:TS)(k:Nat)(v:BC):eX (s.bx k v) s:=λi p a=>a
def kE(q:Rt)(p:dh):Prop:=(∃k,q=.box k)/\p=[]
structure FK(Z:Rt->Prop)(γ γ':Nat->G):Prop where
 im:∀b,γ b=.im->γ' b=.im
 at':∀b q p,γ b=.at q p->(Z q->kE q p)->γ' b=.at q p
 fr:∀b,γ b=.fr->γ' b=.fr
theorem FK.refl{Z:Rt->Prop}(γ:Nat->G):FK Z γ γ:=⟨λ_ h=>h,λ_ _ _ h _=>h,λ_ h=>h⟩
theorem FK.trans{Z:Rt->Prop}{γ a Gg:Nat->G}(h:FK Z γ a)(k:FK Z a Gg):FK Z γ Gg:=⟨λb e=>k.im b (h.im b e),λb q p e hz=>k.at' b q p (h.at' b q p e hz) hz,λb e=>k.fr b (h.fr b e)⟩
theorem FK.mono{Z Z':Rt->Prop}{γ γ':Nat->G}(h:FK Z γ γ')(hz:∀q,Z q->Z' q):FK Z' γ γ':=⟨h.im,λb q p a e=>h.at' b q p a (λk=>e (hz q k)),h.fr⟩
def oR(q:Rt)(p:dh):Prop:=∀k,q=.box k->p≠[]
theorem yw{k:Nat}{p:dh}:oR (.slot k) p:=λ_ h=>by simp at h
theorem yC{k:Nat}{p:dh}:oR (.cC k) p:=λ_ h=>by simp at h
theorem DR{q:Rt}{x:Int×Nat}{p:dh}:oR q (x::p):=λ_ _=>by simp
theorem wk:∀(p:Pl),oR (gp p).1 (gp p).2
 |.slot _=>yw
 |.cell _ _=>DR
 |.sub _ _ _ _=>λ_ _=>by simp[gp]
theorem oR.Gw{a q:Rt}{j p:dh}(h:oR a j)(hz:q=a->kE q p)(hx:eC a j q p):False:=by
 obtain⟨u,t,e⟩:=hx;obtain⟨⟨k,x⟩,y⟩:=hz u;subst u;rw[y] at e;simp at e;exact h k x e.1
theorem FK.dP{γ:Nat->G}{q1 q2:Rt}{p1 p2:dh}(a:oR q1 p1):FK (λq=>q=q1) γ (dP γ q1 p1 q2 p2):=⟨λ_ h=>qx h,λ_ _ _ h hz=>vX h (λhx=>a.Gw hz hx),λ_ h=>EI h⟩
theorem FK.jR{γ:Nat->G}{q1:Rt}{p1:dh}(a:oR q1 p1):FK (λq=>q=q1) γ (kY γ q1 p1):=⟨λ_ h=>B0 h,λ_ _ _ h hz=>SE h (λhx=>a.Gw hz hx),λ_ h=>NS h⟩
theorem FK.gi{Z:Rt->Prop}{γ e:Nat->G}{w:World}(h:FK Z γ e)(j:∀b,w.heap.size<=b->γ b=.fr):dA (λq p=>Z q/\¬ kE q p) γ w e w:=⟨λb a=>⟨h.im b a,rfl⟩,λb q p a hz=>⟨h.at' b q p a (λk=>ah0 λj=>hz ⟨k,j⟩),rfl⟩,λb _ a=>⟨h.fr b a,rfl⟩,hY _,λb a=>h.fr b (j b a),rfl,rfl,rfl⟩
def Pd(Z:Rt->Prop):Prop:=∀n,¬ Z (.cC n)
theorem iV:∀(p:Pl)(n:Nat),(gp p).1≠.cC n
 |.slot k,n=>by simp[gp]
 |.cell _ _,n=>by simp[gp]
 |.sub p _ _ _,n=>by simpa[gp] using iV p n
theorem Rd.fk{C:Cx}{g:Gs}{w:World}{e:Nat->G}{Z:Rt->Prop}{n:Nat}{y:dh}{j:TV}{v:Value}(h:Rd (g.rc C w) (some (.cC n,y)) j v)(u:dC j=true)(k:FK Z g.γ e)(hz:Pd Z):Rd (Gs.rc C {g with γ:=e} w) (some (.cC n,y)) j v:=
 h.same (λb x=>⟨k.im b x,rfl⟩) (λq p a b ρ x=>by
  simp only[cW,eE] at a
  obtain⟨rfl,rfl⟩:=a
  exact⟨k.at' b _ _ x (λh=>absurd h (hz _)),rfl⟩) (λi hi=>absurd hi (kz u i)) (λp a=>absurd a (fZ u p)) (λp a=>absurd a.mv (fZ u p))
theorem Rd.Wj{C:Cx}{g:Gs}{w:World}{q J:Rt}{p M:dh}{t:Ty}{H:List (El t)}{x:El t}{v:Value}{i:Int}{j:Nat}(h:Rd (g.rc C w) (some (q,p)) (.own true t H) v)(hx:cm H i=some x):
  Rd (Gs.rc C {g with γ:=dP g.γ q (p++[(i,cj t j)]) J M} w) (some (q,p)) (.j4 t H i j) v:=by
 obtain⟨h0,hx⟩:=lp.1 hx;rcases h.lu with⟨rfl,_⟩|⟨q',p',b,o,cap,Q,e,fr,f,N,rfl,R,S,U,Y,Z,hc,hr⟩
 ·simp at hx
 simp only[cW,eE] at N;obtain⟨rfl,rfl⟩:=N;have A:∀(b:Nat)(r:Nat)(c:Nat)(D:dh),((r:Int)≠i\/c≠j)->g.γ b=.at q ((p++[((r:Int),cj t c)])++D)->dP g.γ q (p++[(i,cj t j)]) J M b=.at q ((p++[((r:Int),cj t c)])++D):=λb r c D a E=>
  vX E (λ⟨_,t,u⟩=>by
   simp at u
   rcases a with h|h
   ·exact h u.1.1.symm
   ·exact h (J8 u.1.2).2.symm)
 refine .j4 _ _ _ _ _ _ _ _ _ Q e fr f R (vX S λ⟨_,t,u⟩=>by simp at u;exact F1 u.1) U Y Z hc (λr y c tv hy F a=>?_);exact(hr r y c tv hy F).same (λb E=>⟨qx E,rfl⟩) (λq3 p3 P b D E=>by
  simp only[cW,eE] at P
  obtain⟨rfl,rfl⟩:=P
  exact⟨A b r c D a E,rfl⟩) (λk hk=>absurd hk (kz (fN F) k)) (λp I=>absurd I (fZ (fN F) p)) (λp I=>absurd I.mv (fZ (fN F) p))
theorem Rd.Cs{C:Cx}{g:Gs}{w:World}{q q2:Rt}{p p2:dh}{e:TV}{v:Value}(h:Rd (g.rc C w) (some (q,p)) e v)(j:dC e=true):Rd (Gs.rc C {g with γ:=dP g.γ q p q2 p2} w) (some (q2,p2)) e v:=
 h.mono _ (λb u=>⟨qx u,rfl⟩) (λx y a=>by
  simp only[cW,eE] at a
  obtain⟨rfl,rfl⟩:=a
  exact⟨_,_,rfl,λb A u=>⟨yN u,rfl⟩⟩) (λi hi=>absurd hi (kz j i)) (λp a=>absurd a (fZ j p)) (λp a=>absurd a.mv (fZ j p))
theorem SF{C:Cx}{s:TS}{p:Pl}{t:Ty}{i:Int}{c:Nat}{u:TV}(h:fQ C s (.sub p t i c)=some u):∃d a x,(fQ C s p=some (.own d t a)\/(d=false/\fQ C s p=some (.dT t a)))/\cm a i=some x/\u=nth (enc d t x) c:=by
 simp only[fQ] at h;split at h
 ·rename_i d y a e;split at h
  ·rename_i j;subst j;simp only[xE] at h;obtain⟨x,hx,rfl⟩:=h;exact⟨d,a,x,.inl e,hx,rfl⟩
  ·simp at h
 ·rename_i y a e;split at h
  ·rename_i j;subst j;simp only[xE] at h;obtain⟨x,hx,rfl⟩:=h;exact⟨false,a,x,.inr ⟨rfl,e⟩,hx,rfl⟩
  ·simp at h
 ·simp at h
theorem Jv{C:Cx}{E:Env}{s:TS}{g:Gs}{w:World}{R:Type}{r:R}{n:Nat}{π0:dh}{Q:TV}{v:Value}(h:Rel C E s g w)(p:Pl){K:TS->Option R}(hg:fQ C s p=some Q)(y:dC Q=true)
  (M:Rd (g.rc C w) (some (gp p)) Q v)(e:mw s p K=some r):
  ∃Y D,K Y=some r/\Rel C E Y {g with γ:=D} w/\Rd (Gs.rc C {g with γ:=D} w) (some (.cC n,π0)) Q v/\FK (λq=>q=(gp p).1) g.γ D/\eX Y s:=by
 have A:∀{q:Rt}{p:dh},dA (eC q p) g.γ w (dP g.γ q p (.cC n) π0) w:=oG h.cI.new;cases p with
 |slot k=>
  simp only[mw] at e;refine⟨_,dP g.γ (.slot k) [] (.cC n) π0,e,?_,M.Cs y,.dP (wk (.slot k)),(eX.raw _ _ (λp a=>by cases a)).trans (eX.kill _ _)⟩;exact(h.kill (Pl.nF k)).KD A HD (.un _ _)
 |cell k c=>
  simp only[mw] at e;split at e
  ·rename_i cs S;refine⟨_,dP g.γ (.box k) [(0,c)] (.cC n) π0,e,?_,M.Cs y,.dP (wk (.cell k c)),(eX.bx _ _ _).trans (eX.kill _ _)⟩;exact(h.kill (Pl.nG k)).We (π0:=[]) S A HE rfl (λ_ _=>.un _ _)
  ·simp at e
 |sub p t i c=>
  obtain⟨d,xs,x,a,hx,rfl⟩:=SF hg;cases p with
  |slot k=>
   simp only[mw] at e;split at e
   ·rename_i u N Z;obtain⟨F,H⟩:=dM.1 e;have F:u=t:=fj F;subst F;have U:fQ C s (.slot k)=some (.own true u N):=by
     simp only[fQ] at a⊢
     rcases a with a|⟨_,a⟩<;>(split at a<;>simp_all)
    rw[U] at a;have I:N=xs/\d=true:=by
     rcases a with a|⟨_,a⟩
     ·simp only[cW,TV.own.injEq,heq_eq_eq,vn] at a;exact⟨a.2,a.1.symm⟩
     ·simp at a
    obtain⟨rfl,rfl⟩:=I;refine⟨_,dP g.γ (.slot k) [(i,cj u c)] (.cC n) π0,H,?_,M.Cs y,.dP (wk (.sub (.slot k) u i c)),(eX.raw _ _ (λp a=>by cases a)).trans (eX.kill _ _)⟩;have P:=h.fD k;rw[Z] at P;exact(h.kill (Pl.nF k)).KD A HD (P.Wj hx)
   ·simp at e
  |cell k j=>
   simp only[mw] at e;split at e
   ·rename_i cs S;split at e
    ·rename_i u N hn;obtain⟨F,H⟩:=dM.1 e;have F:u=t:=fj F;subst F;have U:fQ C s (.cell k j)=some (.own true u N):=by simp[fQ,S,hn]
     rw[U] at a;have I:N=xs/\d=true:=by
      rcases a with a|⟨_,a⟩
      ·simp only[cW,TV.own.injEq,heq_eq_eq,vn] at a;exact⟨a.2,a.1.symm⟩
      ·simp at a
     obtain⟨rfl,rfl⟩:=I;refine⟨_,dP g.γ (.box k) [(0,j),(i,cj u c)] (.cC n) π0,H,?_,M.Cs y,.dP (wk (.sub (.cell k j) u i c)),(eX.bx _ _ _).trans (eX.kill _ _)⟩;refine(h.kill (Pl.nG k)).We (π0:=[(i,cj u c)]) S A HE rfl (λv M=>?_);rcases sS h U with h1|⟨v',J,h1,_⟩
     ·simp at h1
     ·have:v'=v:=by
        simp only[Gs.rc,va] at J
        rw[M] at J;exact(gA J).symm
      subst this;exact h1.Wj hx
    ·simp at e
   ·simp at e
  |sub p u i' c'=>simp[mw] at e
section
open Classical in
noncomputable def j1(γ:Nat->G)(q1:Rt)(p1:dh):Nat->G:=λb=>
 match γ b with
 |.at q p=>if q=q1/\(∃i j a,64<=j/\p=p1++(i,j)::a) then .im else .at q p
 |x=>x
section
variable{γ:Nat->G}{q1 q:Rt}{p1 p:dh}{b:Nat}
theorem B1(h:γ b=.im):j1 γ q1 p1 b=.im:=by simp[j1,h]
theorem NT(h:γ b=.fr):j1 γ q1 p1 b=.fr:=by simp[j1,h]
theorem Vr:PM γ (j1 γ q1 p1):=λb q p h=>by simp only[j1,h];split<;>simp
theorem Ib{t:Ty}(h:γ b=.at q1 (p1++[tg t])):j1 γ q1 p1 b=.at q1 (p1++[tg t]):=by
 simp only[j1,h];rw[cK];rintro⟨_,i,j,u,e,a⟩;have a:=LI a;simp only[lF] at a;exact afH e a.1.symm
theorem B2{i:Int}{j:Nat}{π:dh}(a:64<=j)(h:γ b=.at q1 (p1++(i,j)::π)):j1 γ q1 p1 b=.im:=by
 simp only[j1,h];exact cJ ⟨rfl,i,j,π,a,rfl⟩
theorem FK.j1(a:oR q1 p1):FK (λq=>q=q1) γ (j1 γ q1 p1):=⟨λ_ h=>B1 h,λb q p h hz=>by simp only[Sd.j1,h];exact cK (λk=>a.Gw hz ⟨k.1,by obtain⟨_,i,j,e,_,rfl⟩:=k;exact qZ _ _⟩),λ_ h=>NT h⟩
theorem Nb{w:World}(a:∀b,w.heap.size<=b->γ b=.fr):dA (eC q1 p1) γ w (j1 γ q1 p1) w:=⟨λ_ h=>⟨B1 h,rfl⟩,λb q p h hx=>⟨by simp only[j1,h];exact cK (λk=>hx ⟨k.1,by obtain⟨_,i,j,u,_,rfl⟩:=k;exact qZ _ _⟩),rfl⟩,λ_ _ h=>⟨NT h,rfl⟩,hY _,λb e=>NT (a b e),rfl,rfl,rfl⟩
end
theorem Rel.Jw{C:Cx}{E:Env}{s:TS}{g:Gs}{w:World}{k:Nat}{a:TV}(h:Rel C E s g w)(x:Rd (g.rc C w) (some (.slot k,[])) a (g.tm k)):Rel C E (s.raw k a) g w:=
 h.tD (λj=>by
  by_cases u:j=k
  ·subst u
   rcases vJ s j a with e|e<;>rw[e]
   ·exact x
   ·exact .un _ _
  ·rw[ra s a u];exact h.fD j) (λj=>.inl rfl)
theorem Rel.Ka{C:Cx}{E:Env}{s:TS}{g:Gs}{w:World}{k:Nat}{v:BC}(h:Rel C E s g w)(u:tw (g.rc C w) k v):Rel C E (s.bx k v) g w:=
 ⟨h.fD,λj=>by
   by_cases a:j=k
   ·subst a
    rcases uj s j v with e|e<;>rw[e]
    ·exact u
    ·trivial
   ·rw[ui s v a];exact h.boxes j,h.cI,h.gl,h.kM,h.gb⟩
theorem SG(cs:List TV)(c:Nat):kJ cs c (nth cs c)=cs:=by
 rw[rD,uE]
 by_cases h:c<cs.length
 ·rw[eA h];simp
 ·rw[List.set_eq_of_length_le (by omega)]
def Ct(s:TS):Pl->TV
 |.slot k=>s.slot k
 |.cell k c=>
  match s.box k with
  |.cells a=>nth a c
  |_=>.un
 |.sub p _ _ _=>Ct s p
def wT:Pl->Pl|.slot k=>.slot k|.cell k c=>.cell k c|.sub p _ _ _=>wT p
def ik:TV->Bool|.own _ _ _=>true|_=>false
theorem SH:∀(p:Pl)(t:Ty)(i:Int)(c:Nat),∃a j e,64<=j/\gp (.sub p t i c)=((gp (wT p)).1,(gp (wT p)).2++(a,j)::e)
 |.slot k,t,i,c=>⟨i,cj t c,[],KC _ _,rfl⟩
 |.cell k j,t,i,c=>⟨i,cj t c,[],KC _ _,rfl⟩
 |.sub p t a u,t0,i,c=>by
  obtain⟨y,A,e,x,h⟩:=SH p t a u;refine⟨y,A,e++[(i,cj t0 c)],x,?_⟩;show((gp (.sub p t a u)).1,(gp (.sub p t a u)).2++[(i,cj t0 c)])=_;rw[h];simp[wT]
theorem SI(a:TV):ik (jZ a)=false:=by cases a<;>rfl
theorem rE{t:Ty}{x:El t}{j:Nat}{a:TV}(h:(enc false t x)[j]?=some a):ik a=false:=by
 obtain⟨e,_,rfl⟩:=DK (d:=false) h;exact SI _
theorem wm{a:TV}(h:ik a=true):∃d t,∃xs:List (El t),a=.own d t xs:=by
 cases a<;>simp[ik] at h;exact⟨_,_,_,rfl⟩
theorem Ff{tv:TV}(h:ik tv=false):jZ tv=tv/\Ev.uC tv=tv:=by
 cases tv<;>simp_all [ik,jZ,Ev.uC]
theorem RF{C:Cx}{s:TS}:∀{p:Pl}{e:TV},fQ C s p=some e->ik e=true->ik (Ct s p)=true
 |.slot k,e,h,a=>by
  simp only[fQ] at h;split at h
  ·simp only[cW] at h;subst h;exact a
  ·simp at h
 |.cell k c,e,h,a=>by
  simp only[fQ] at h;split at h
  ·rename_i A y;simp only[cW] at h;subst h;simp only[Ct,y];exact a
  ·simp at h
 |.sub p t i c,e,h,a=>by
  obtain⟨d,D,x,j,_,rfl⟩:=SF h;rcases j with j|⟨rfl,j⟩
  ·exact RF (p:=p) j rfl
  ·exfalso;rw[uE] at a;cases u:(enc false t x)[c]? with
   |none=>rw[u] at a;simp[ik] at a
   |some e=>
    rw[u] at a;have:=rE u;simp[this] at a
theorem Vs(s:TS)(k:Nat):eX ((s.fW (Pl.lD k)).raw k (s.slot k)) s:=eX.KT k (eX.fW _ _) (λ_ h=>h)
theorem Ug{C:Cx}{E:Env}{s:TS}{g:Gs}{w:World}{R:Type}{r:R}(h:Rel C E s g w):∀(p:Pl){K:TS->Option R},tp s p K=some r->
  ∃N A,K N=some r/\Rel C E N {g with γ:=A} w/\FK (λq=>q=(gp p).1) g.γ A/\(ik (Ct s p)=true->∀b i j D,64<=j->g.γ b=.at (gp (wT p)).1 ((gp (wT p)).2++(i,j)::D)->A b=.im)/\eX N s
 |.slot k,K,u=>by
  simp only[tp] at u;cases F:ik (s.slot k) with
  |true=>
   obtain⟨d,t,Q,J⟩:=wm F;have x:dA (eC (.slot k) []) g.γ w (j1 g.γ (.slot k) []) w:=Nb h.cI.new;refine⟨_,j1 g.γ (.slot k) [],u,?_,.j1 (by first|exact yw|exact DR),λ_ b i j D H a=>B2 H a,eX.KT k (eX.fW _ _) (λp y=>by rw[J] at y;cases y)⟩;refine(h.fW (Pl.lD k)).Wh x (λj _=>I3 x Vr (λ_ hx=>by simp[eC] at hx) (λp y D hx=>Wf j p y hx.1)) ?_;have S:=h.fD k;rw[J] at S⊢;exact S.uC (λb a=>⟨B1 a,rfl⟩) (λb t a=>⟨Ib a,rfl⟩) (λb i j D H a=>⟨B2 H a,rfl⟩)
  |false=>
   rw[(Ff F).2] at u;exact⟨_,g.γ,u,(h.fW (Pl.lD k)).Jw (h.fD k),.refl _,(λe=>by simp only[Ct] at e;rw[F] at e;simp at e),λi p y=>Vs s k i p y⟩
 |.cell k c,K,u=>by
  simp only[tp] at u;split at u
  ·rename_i U a;cases F:ik (nth U c) with
   |true=>
    obtain⟨d,t,Q,J⟩:=wm F;have x:dA (eC (.box k) [(0,c)]) g.γ w (j1 g.γ (.box k) [(0,c)]) w:=Nb h.cI.new;refine⟨_,j1 g.γ (.box k) [(0,c)],u,?_,.j1 (by first|exact yw|exact DR),λ_ b i j D H a=>B2 H a,(eX.bx _ _ _).trans (eX.fW _ _)⟩;rw[J];refine(h.fW (Pl.gK k)).Wi (π0:=[]) a x (λj=>I3 x Vr (λ_ hx=>by simp[eC] at hx) (λp y D hx=>Wg j p y hx.1)) rfl (λv Y=>?_);have Z:fQ C s (.cell k c)=some (.own d t Q):=by simp[fQ,a,J]
    rcases sS h Z with P|⟨v',I,P,_⟩
    ·simp at P
    ·have:v'=v:=by
       simp only[Gs.rc,va] at I
       rw[Y] at I;exact(gA I).symm
     subst this;exact Rd.uC P (λb a=>⟨B1 a,rfl⟩) (λb t a=>⟨Ib a,rfl⟩) (λb i j D H a=>⟨B2 H a,rfl⟩)
   |false=>
    rw[(Ff F).2,SG] at u;have M:=h.boxes k;rw[a] at M;exact⟨_,g.γ,u,(h.fW (Pl.gK k)).Ka M,.refl _,(λe=>by simp only[Ct,a] at e;rw[F] at e;simp at e),(eX.bx _ _ _).trans (eX.fW _ _)⟩
  ·simp at u
 |.sub p _ _ _,K,u=>by
  simp only[tp] at u;exact Ug h p u
theorem NU{C:Cx}{E:Env}{s:TS}{g:Gs}{w:World}{R:Type}{r:R}(h:Rel C E s g w):∀(p:Pl){K:TS->Option R},rS s p K=some r->
  ∃S D,K S=some r/\Rel C E S {g with γ:=D} w/\FK (λq=>q=(gp p).1) g.γ D/\(∀a v,fQ C s p=some a->ik a=true->Rd (g.rc C w) (some (gp p)) a v->Rd (Gs.rc C {g with γ:=D} w) none (jZ a) v)/\eX S s
 |.slot k,K,x=>by
  simp only[rS] at x;cases H:ik (s.slot k) with
  |true=>
   obtain⟨d,t,xs,P⟩:=wm H;have F:dA (eC (.slot k) []) g.γ w (kY g.γ (.slot k) []) w:=Uf h.cI.new;have U:∀a v,dC a=true->Rd (g.rc C w) (some (.slot k,[])) a v->Rd (Gs.rc C {g with γ:=kY g.γ (.slot k) []} w) none (jZ a) v:=λa v I A=>
    A.jR I (λb u=>⟨B0 u,rfl⟩) (λq p J b Q u=>by
     simp only[cW,eE] at J
     obtain⟨rfl,rfl⟩:=J
     exact⟨Ju u,rfl⟩)
   refine⟨_,kY g.γ (.slot k) [],x,?_,.jR (by first|exact yw|exact DR),λa v y e A=>?_,eX.KT k (eX.fW _ _) (λp I=>by rw[P] at I;cases I)⟩
   ·refine(h.fW (Pl.lD k)).Wh F (λj _=>I3 F Vq (λ_ hx=>by simp[eC] at hx) (λp I Q hx=>Wf j p I hx.1)) ?_;exact(U _ _ (by rw[P];rfl) (h.fD k)).lift _
   ·obtain⟨d',t',Y,rfl⟩:=wm e;exact U _ v rfl A
  |false=>
   rw[(Ff H).1] at x;refine⟨_,g.γ,x,(h.fW (Pl.lD k)).Jw (h.fD k),.refl _,λa v y e _=>?_,Vs s k⟩;simp only[fQ] at y;split at y
   ·simp only[cW] at y;subst y;rw[H] at e;simp at e
   ·simp at y
 |.cell k c,K,x=>by
  simp only[rS] at x;split at x
  ·rename_i cs u;cases H:ik (nth cs c) with
   |true=>
    obtain⟨d,t,xs,P⟩:=wm H;have F:dA (eC (.box k) [(0,c)]) g.γ w (kY g.γ (.box k) [(0,c)]) w:=Uf h.cI.new;have U:∀a v,dC a=true->Rd (g.rc C w) (some (.box k,[(0,c)])) a v->Rd (Gs.rc C {g with γ:=kY g.γ (.box k) [(0,c)]} w) none (jZ a) v:=λa v I A=>
     A.jR I (λb u=>⟨B0 u,rfl⟩) (λq p J b Q u=>by
      simp only[cW,eE] at J
      obtain⟨rfl,rfl⟩:=J
      exact⟨Ju u,rfl⟩)
    refine⟨_,kY g.γ (.box k) [(0,c)],x,?_,.jR (by first|exact yw|exact DR),λa v y e A=>?_,(eX.bx _ _ _).trans (eX.fW _ _)⟩
    ·refine(h.fW (Pl.gK k)).Wi (π0:=[]) u F (λj=>I3 F Vq (λ_ hx=>by simp[eC] at hx) (λp I Q hx=>Wg j p I hx.1)) (by rw[P];rfl) (λv A=>?_);have y:fQ C s (.cell k c)=some (.own d t xs):=by simp[fQ,u,P]
     rcases sS h y with Z|⟨v',M,Z,_⟩
     ·simp at Z
     ·have:v'=v:=by
        simp only[Gs.rc,va] at M
        rw[A] at M;exact(gA M).symm
      subst this;rw[P];exact(U _ _ rfl Z).lift _
    ·obtain⟨d',t',Y,rfl⟩:=wm e;exact U _ v rfl A
   |false=>
    rw[(Ff H).1,SG] at x;have aa:=h.boxes k;rw[u] at aa;refine⟨_,g.γ,x,(h.fW (Pl.gK k)).Ka aa,.refl _,λa v y e _=>?_,(eX.bx _ _ _).trans (eX.fW _ _)⟩;simp only[fQ,u,cW] at y;subst y;rw[H] at e;simp at e
  ·simp at x
 |.sub p t i c,K,x=>by
  simp only[rS] at x;obtain⟨S,D,Z,h2,h3,h4,h5⟩:=Ug h p x;refine⟨S,D,Z,h2,h3,λa v y H A=>?_,h5⟩;have N:=RF (p:=.sub p t i c) y H;obtain⟨i',j,Q,hj,ab⟩:=SH p t i c;rw[ab] at A;obtain⟨d',t',Y,rfl⟩:=wm H;exact A.jR rfl (λb u=>⟨h3.im b u,rfl⟩) (λq2 p2 J b ρ u=>by
   simp only[cW,eE] at J
   obtain⟨rfl,rfl⟩:=J
   have ad:g.γ b=.at (gp (wT p)).1 ((gp (wT p)).2++(i',j)::Q++ρ):=u
   exact⟨h4 N b i' j (Q++ρ) hj (by simpa using ad),rfl⟩)
theorem RG{C:Cx}{E:Env}{w:World}{R:Type}{r:R}:∀(e:List Pl){s:TS}{g:Gs}{K:TS->Option R},Rel C E s g w->J6 e s K=some r->
  ∃x j,K x=some r/\Rel C E x {g with γ:=j} w
 |[],s,g,K,h,a=>⟨s,g.γ,a,h⟩
 |p::e,s,g,K,h,a=>by
  simp only[J6] at a;obtain⟨J,y,A,D,_,_⟩:=NU h p a;obtain⟨F,u,H,I⟩:=RG e D A;exact⟨F,u,H,I⟩
theorem Rd.any{c:Rc}{m:Option Gp}{a:TV}{v:Value}(h:Rd c m a v)(y:dC a=true)(x:ik a=false)(A:Option Gp):Rd c A a v:=by
 cases h with
 |kt=>exact .kt _ _ _ _
 |ny _ _ _ _ _ _ f C e j u=>exact .ny _ _ _ _ _ _ f C e j u
 |p7=>exact .p7 _ _ _
 |p8 _ _ _ _ _ f e j u=>exact .p8 _ _ _ _ _ f e j u
 |b=>exact .b _ _
 |i=>exact .i _ _ _
 |s=>exact .s _ _
 |nil=>exact .nil _
 |gQ=>exact .gQ _ _
 |jC=>simp[ik] at x
 |kf=>simp[ik] at x
 |_=>simp[dC] at y
theorem Rd.Fg{c:Rc}{m E:Option Gp}{t:Ty}{y:List (El t)}{a F:Option Addr}{len cap e:Nat}{lo hi:Int}(h:Rd c m (.dT t y) (.slice a len cap))(U:0<=lo)(Y:lo<=hi)(N:hi<=y.length)
  (H:e=0\/∃b o,a=some ⟨b,o,none⟩/\F=some ⟨b,o+lo.toNat*cG t,none⟩)(P:hi.toNat-lo.toNat<=e):Rd c E (.dT t ((y.drop lo.toNat).take (hi.toNat-lo.toNat))) (.slice F (hi.toNat-lo.toNat) e):=by
 have u:((y.drop lo.toNat).take (hi.toNat-lo.toNat)).length=hi.toNat-lo.toNat:=by simp;omega
 rcases h.qy with⟨rfl,_⟩|⟨b,o,I,f,J,Z,Q,R,S⟩
 ·simp at N;have:lo.toNat=0/\hi.toNat=0:=by omega
  simp only[List.drop_nil,List.take_nil,this.1,this.2];exact .kt _ _ _ _
 ·simp only[Value.slice.injEq] at J;obtain⟨rfl,rfl,rfl⟩:=J
  by_cases hz:hi.toNat-lo.toNat=0
  ·rw[hz];simp only[xF];exact .kt _ _ _ _
  ·rcases H with H|⟨b',o',M,rfl⟩
   ·omega
   ·simp only[cW,Addr.mk.injEq,jg] at M;obtain⟨rfl,rfl⟩:=M;have A:∀(r:Nat)(x:El t),((y.drop lo.toNat).take (hi.toNat-lo.toNat))[r]?=some x->y[lo.toNat+r]?=some x:=λr x hx=>by
     rw[oz] at hx
     split at hx
     ·rwa[vp] at hx
     ·simp at hx
    have:=Rd.ny (c:=c) E t ((y.drop lo.toNat).take (hi.toNat-lo.toNat)) b (o+lo.toNat*cG t) e (λr j=>f (lo.toNat+r) j) (by rw[u];exact P) Q (λr x j C hx D=>by
     have:=R _ x j C (A r x hx) D
     rw[jv] at this
     rw[show o+lo.toNat*cG t+r*cG t+j=o+(lo.toNat*cG t+r*cG t)+j by omega]
     exact this) (λr x j C hx D=>S _ x j C (A r x hx) D);rw[u] at this;exact this
structure qk(c:Rc)(G:Gp)(tv:TV)(v:Value):Prop where
 vw:∀p t,tv=.vw p t->c.va p=some v
 sl:∀p t lo hi,tv=.sl p t lo hi->∃a len cap a' cap',c.va p=some (.slice a len cap)/\v=.slice a' (hi.toNat-lo.toNat) cap'/\0<=lo/\lo<=hi/\hi<=(len:Int)/\
  (cap'=0\/∃b o,a=some ⟨b,o,none⟩/\a'=some ⟨b,o+lo.toNat*cG t,none⟩)/\hi.toNat-lo.toNat<=cap'/\cap'+lo.toNat<=cap
 pl:dC tv=true->Rd c (some G) tv v
theorem Rd.Gx{c:Rc}{G:Gp}{a:TV}{v:Value}(h:Rd c (some G) a v):qk c G a v where
 vw:=λp t e=>by subst e;cases h;assumption
 sl:=λp t lo hi e=>by subst e;cases h;exact⟨_,_,_,_,_,by assumption,rfl,by assumption,by assumption,by assumption,by assumption,by assumption,by assumption⟩
 pl:=λ_=>h
theorem qk.fk{C:Cx}{g:Gs}{w:World}{a:Nat->G}{Z:Rt->Prop}{n:Nat}{e:dh}{j:TV}{v:Value}(h:qk (g.rc C w) (.cC n,e) j v)(k:FK Z g.γ a)(hz:Pd Z):qk (Gs.rc C {g with γ:=a} w) (.cC n,e) j v where
 vw:=h.vw
 sl:=h.sl
 pl:=λu=>(h.pl u).fk u k hz
def Zv(a:List TV)(q:Rt):Prop:=∃e∈a,∃p,MV p e/\(gp p).1=q
theorem SJ(a:List TV):Pd (Zv a):=λn⟨_,_,p,_,h⟩=>iV p n h
theorem KE{C:Cx}{E:Env}{s:TS}{g:Gs}{w:World}{R:Type}{r:R}{m:Bool->Pl->Bool}{n:Nat}{π0:dh}{tv:TV}{v:Value}{K:TV->TS->Option R}(h:Rel C E s g w)(N:qk (g.rc C w) (.cC n,π0) tv v)
  (j:cv C m tv s K=some r):
  ∃aa D y,K aa D=some r/\Rel C E D {g with γ:=y} w/\Rd (Gs.rc C {g with γ:=y} w) (some (.cC n,π0)) aa v/\dC aa=true/\FK (λq=>∃p,MV p tv/\(gp p).1=q) g.γ y/\eX D s:=by
 unfold cv at j;split at j
 ·rename_i p t;obtain⟨x,P,j⟩:=oL j;have F:=N.vw p t rfl;split at j
  ·rename_i d t' xs;rcases sS h P with Q|⟨v',A,Q,_⟩
   ·simp at Q
   have:v'=v:=by rw[F] at A;exact(gA A).symm
   subst this;split at j
   ·obtain⟨D,y,h2,h3,h4,S,h6⟩:=NU h p j;exact⟨_,D,y,h2,h3,(S _ _ P rfl Q).lift _,rfl,h4.mono (λq hq=>⟨p,.vw _,hq.symm⟩),h6⟩
   ·obtain⟨D,y,h2,h3,h4,S,h6⟩:=Jv (n:=n) (π0:=π0) h p P rfl Q j;exact⟨_,D,y,h2,h3,h4,rfl,S.mono (λq hq=>⟨p,.vw _,hq.symm⟩),h6⟩
  ·rename_i t' xs;rcases sS h P with Q|⟨v',A,Q,_⟩
   ·simp at Q
   have:v'=v:=by rw[F] at A;exact(gA A).symm
   subst this;exact⟨_,s,g.γ,j,h,Q.any rfl rfl _,rfl,.refl _,.refl _⟩
  ·simp at j
 ·rename_i p t0 lo hi;obtain⟨x,P,j⟩:=oL j;obtain⟨a,af,cap,a',U,F,rfl,Q,h2,h3,h4,S,h6⟩:=N.sl p t0 lo hi rfl;split at j
  ·rename_i d t xs;obtain⟨ht,H⟩:=dM.1 j;have ht:t=t0:=fj ht;subst ht;rcases sS h P with Y|⟨v',A,Y,_⟩
   ·simp at Y
   have:v'=.slice a af cap:=by rw[F] at A;exact(gA A).symm
   subst this;split at H
   ·obtain⟨ys,ab,I⟩:=eM.1 H;obtain⟨⟨h8,h9,J⟩,rfl⟩:=sJ.1 ab;obtain⟨D,y,ad,ae,ah,ai,aj⟩:=NU h p I;have:=ai _ _ P rfl Y;exact⟨_,D,y,ad,ae,Rd.Fg this h8 h9 J h4 S,rfl,ah.mono (λq hq=>⟨p,.sl _ _ _,hq.symm⟩),aj⟩
   ·obtain⟨u,hu,I⟩:=eM.1 H;have Z:=lR.1 hu;simp only[oY,dF] at Z;obtain⟨rfl,ap⟩:=Z;obtain⟨D,y,h8,h9,J,ad,ae⟩:=Jv (n:=n) (π0:=π0) h p P rfl Y I;refine⟨_,D,y,h8,h9,?_,rfl,ad.mono (λq hq=>⟨p,.sl _ _ _,hq.symm⟩),ae⟩;have e0:hi.toNat-(0:Int).toNat=xs.length:=by simp;omega
    rw[e0] at S⊢;rcases J.lu with⟨rfl,a0,M⟩|⟨q,p',b,o,an,cs,e,fr,f,hm,M,hl,ak,hh,am,hs,hc,hr⟩
    ·simp only[Value.slice.injEq] at M;obtain⟨_,_,rfl⟩:=M;have:U=0:=by omega
     subst this;exact .jC _ _ _ _
    ·simp only[Value.slice.injEq] at M;obtain⟨rfl,rfl,rfl⟩:=M;rw[hm];rcases h4 with rfl|⟨b',o',hb,rfl⟩
     ·have:xs=[]:=LJ (by omega);subst this;exact .jC _ _ _ _
     ·simp only[cW,Addr.mk.injEq,jg] at hb;obtain⟨rfl,rfl⟩:=hb;have ao:U*cG t<=cap*cG t:=mh _ (by simpa using h6);simp only[Int.toNat_zero,GV,q6];exact .kf _ _ _ _ _ _ _ _ cs e fr f S ak hh am (by omega) hc hr
  ·rename_i t xs;obtain⟨ht,H⟩:=dM.1 j;have ht:t=t0:=fj ht;subst ht;obtain⟨ys,ab,I⟩:=eM.1 H;obtain⟨⟨h8,h9,J⟩,rfl⟩:=sJ.1 ab;rcases sS h P with Y|⟨v',A,Y,_⟩
   ·simp at Y
   have:v'=.slice a af cap:=by rw[F] at A;exact(gA A).symm
   subst this;exact⟨_,s,g.γ,I,h,Rd.Fg Y h8 h9 J h4 S,rfl,.refl _,.refl _⟩
  ·simp at j
 ·exact⟨_,s,g.γ,j,h,N.pl rfl,rfl,.refl _,.refl _⟩
 ·exact⟨_,s,g.γ,j,h,N.pl rfl,rfl,.refl _,.refl _⟩
 ·exact⟨_,s,g.γ,j,h,(N.pl rfl).yW,rfl,.refl _,.refl _⟩
 ·exact⟨_,s,g.γ,j,h,N.pl rfl,rfl,.refl _,.refl _⟩
 ·exact⟨_,s,g.γ,j,h,N.pl rfl,rfl,.refl _,.refl _⟩
 ·exact⟨_,s,g.γ,j,h,N.pl rfl,rfl,.refl _,.refl _⟩
 ·exact⟨_,s,g.γ,j,h,N.pl rfl,rfl,.refl _,.refl _⟩
 ·exact⟨_,s,g.γ,j,h,N.pl rfl,rfl,.refl _,.refl _⟩
 ·simp at j
theorem OI{C:Cx}{E:Env}{w:World}{R:Type}{r:R}{m:Bool->Pl->Bool}{n:Nat}:∀(y:List TV){s:TS}{g:Gs}{F:List Value}{j0:Nat}{K:List TV->TS->Option R},Rel C E s g w->F.length=y.length->
  (∀(j:Nat)a v,y[j]?=some a->F[j]?=some v->qk (g.rc C w) (.cC n,[(0,j0+j)]) a v)->pn C m y s K=some r->
  ∃e N A,K e N=some r/\Rel C E N {g with γ:=A} w/\e.length=y.length/\(∀a∈e,dC a=true)/\(∀(j:Nat)a v,e[j]?=some a->F[j]?=some v->Rd (Gs.rc C {g with γ:=A} w) (some (.cC n,[(0,j0+j)])) a v)/\FK (Zv y) g.γ A/\eX N s
 |[],s,g,F,j0,K,h,J,M,H=>⟨[],s,g.γ,H,h,rfl,by simp,by simp,.refl _,.refl _⟩
 |v::y,s,g,[],j0,K,h,J,M,H=>by simp at J
 |v::y,s,g,x::F,j0,K,h,J,M,H=>by
  simp only[pn] at H;obtain⟨P,s1,aa,h1,h2,h3,Y,Z,h6⟩:=KE h (M 0 v x rfl rfl) H;obtain⟨e,s2,Q,k1,k2,k3,k4,k5,k6,k7⟩:=OI y (j0:=j0+1) h2 (by simpa using J) (λj a u I D=>by
   have h0:=(M (j+1) a u (by simpa using I) (by simpa using D)).fk Z (λn⟨p,_,h⟩=>iV p n h)
   rwa[show j0+(j+1)=j0+1+j by omega] at h0) h1;refine⟨P::e,s2,Q,k1,k2,by simp[k3],λa S=>?_,λj a u I D=>?_,(Z.mono (λq⟨p,U,hq⟩=>⟨v,by simp,p,U,hq⟩)).trans (k6.mono (λq⟨u,D,U⟩=>⟨u,by simp[D],U⟩)),k7.trans h6⟩
  ·rcases eo.1 S with rfl|S
   ·exact Y
   ·exact k4 a S
  ·cases j with
   |zero=>
    simp at I D;subst I;subst D;exact h3.fk Y k6 (SJ y)
   |succ j=>
    rw[show j0+(j+1)=j0+1+j by omega];exact k5 j a u (by simpa using I) (by simpa using D)
end
def Gs.set(g:Gs)(d:Nat)(v:Value):Gs:={g with tm:=λj=>if j=d then v else g.tm j}
def Gs.put(g:Gs)(d:Option Nat)(v:Value):Gs:=
 match d with
 |some d=>g.set d v
 |none=>g
structure eb(nt:Nat)(g:Gs)(a:Act):Prop where
 df:a.defers=[]
 sz:a.tmps.size=nt
 tm:∀k,k<nt->a.tmps.getD k undef=g.tm k
def gN(a:Nat):Option Nat->Prop|some d=>d<a|none=>True
theorem eb.put{j:Nat}{g:Gs}{a:Act}{d:Option Nat}{v:Value}(h:eb j g a)(x:gN j d):eb j (g.put d v) (a.put d v):=by
 cases d with
 |none=>exact h
 |some d=>
  refine⟨h.df,by simpa[Act.put] using h.sz,λk u=>?_⟩;simp only[Act.put,Gs.put,Gs.set,tX]
  by_cases e:k=d
  ·subst e;rw[ah1 (by rw[h.sz];exact u),cJ rfl];rfl
  ·rw[Yt (oy e),cK e,<-tX];exact h.tm k u
theorem eb.same{e:Nat}{g g':Gs}{a:Act}(h:eb e g a)(j:g'.tm=g.tm):eb e g' a:=⟨h.df,h.sz,λk u=>by rw[j];exact h.tm k u⟩
def gf:TV->Bool|.own _ _ _|.j4 _ _ _ _|.agg _|.eY _=>false|_=>true
theorem Rd.anyM{c:Rc}{m:Option Gp}{y:TV}{v:Value}(h:Rd c m y v)(x:gf y=true)(E:Option Gp):Rd c E y v:=by
 cases h with
 |un=>exact .un _ _
 |b=>exact .b _ _
 |i=>exact .i _ _ _
 |s=>exact .s _ _
 |nil=>exact .nil _
 |gQ=>exact .gQ _ _
 |kt=>exact .kt _ _ _ _
 |ny _ _ _ _ _ _ f F A C D=>exact .ny _ _ _ _ _ _ f F A C D
 |p7=>exact .p7 _ _ _
 |p8 _ _ _ _ _ f A C D=>exact .p8 _ _ _ _ _ f A C D
 |jC=>simp[gf] at x
 |kf=>simp[gf] at x
 |j4=>simp[gf] at x
 |vec _ _ _ H=>exact .vec _ _ _ H
 |vw _ _ _ _ a e=>exact .vw _ _ _ _ a e
 |pa _ _ _ _ _ _ a e j u=>exact .pa _ _ _ _ _ _ a e j u
 |sl _ _ _ _ _ _ _ _ _ _ a e j u I h6 J M=>exact .sl _ _ _ _ _ _ _ _ _ _ a e j u I h6 J M
 |ptr=>exact .ptr _ _ _
 |pe _ _ _ h0=>exact .pe _ _ _ h0
 |ep _ _ _ _ _ _ _ _ _ a e j u=>exact .ep _ _ _ _ _ _ _ _ _ a e j u
 |ip _ _ _ _ _ f a e j u=>exact .ip _ _ _ _ _ f a e j u
 |iv _ _ _ _ _ a e j=>exact .iv _ _ _ _ _ a e j
 |agg=>simp[gf] at x
 |eY=>simp[gf] at x
 |fn _ _ _ _ a e j=>exact .fn _ _ _ _ a e j
 |lA=>exact .lA _
 |np=>exact .np _
 |sd=>exact .sd _ _ _
 |sf=>exact .sf _
theorem Rd.KF{c:Rc}{m:Option Gp}{a:TV}{v:Value}(h:Rd c m a v){p:Pl}(x:MV p a):∃u,c.va p=some u:=by
 cases x with
 |vw=>cases h;exact⟨_,by assumption⟩
 |pa=>cases h;exact⟨_,by assumption⟩
 |sl=>cases h;exact⟨_,by assumption⟩
 |ep=>cases h;exact⟨_,by assumption⟩
 |agg E t y=>
  cases h with
  |agg _ _ vs F H I A=>
   obtain⟨j,C,D⟩:=pD y;have e:=A j _ (vs[j]'(by omega)) (by rw[eA C,D]) (ju _);generalize kK m 0 j=J at e;cases e;exact⟨_,by assumption⟩
theorem KG{e:Nat->Bool}{j:Nat->Value}{x:Nat->Nat}{w:World}:∀{p:Pl}{u:Value}{d:Nat},va e j x w p=some u->nW p=some d->e d=true
 |.slot k,u,d,h,a=>by
  simp only[nW,cW] at a;subst a;simp only[va] at h;split at h
  ·assumption
  ·simp at h
 |.cell _ _,u,d,h,a=>by simp[nW] at a
 |.sub p t r c,u,d,h,a=>by
  simp only[va] at h;split at h
  ·rename_i y;exact KG y a
  ·simp at h
theorem Nc{D:Nat->Bool}{C:Nat->Value}{E:Nat->Nat}{w:World}:∀{p:Pl}{u:Value}{d:Nat},va D C E w p=some u->nW p=some d->p.jn=true->∃a j x,C d=.slice a j x
 |.slot k,u,d,h,e,A=>by simp[Pl.jn] at A
 |.cell _ _,u,d,h,e,A=>by simp[Pl.jn] at A
 |.sub p t r c,u,d,h,e,_=>by
  simp only[va] at h;split at h
  ·rename_i b o j x y;cases p with
   |slot k=>
    simp only[nW,cW] at e;subst e;simp only[va] at y;split at y
    ·exact⟨_,_,_,gA y⟩
    ·simp at y
   |cell _ _=>simp[nW] at e
   |sub F H I J=>exact Nc y e rfl
  ·simp at h
theorem Vt{c:Rc}{m:Option Gp}(v:Value):Rd c m (qh v) v:=by
 unfold qh;split
 ·exact .b _ _
 ·exact .i _ _ _
 ·rename_i x;have:(⟨⟨x.data.toList⟩⟩:ByteArray)=x:=by cases x;simp
  have h:=Rd.s (c:=c) m x.data.toList;rwa[this] at h
 ·exact .nil _
 ·exact .lA _
 ·exact .np _
 ·exact .un _ _
theorem Uh(v:Value):gf (qh v)=true:=by
 unfold qh;split<;>rfl
theorem FC(v:Value)(h:∀a,v≠.agg a):xk v=qh v:=by
 cases v<;>first|rfl|exact absurd rfl (h _)
def PN:Value->Bool|.agg a=>a.all λv=>v.oneCell'&&kg (qh v)|_=>true
def fe(a:Nat):Operand->Bool|.tmp k=>Nat.blt k a|.const v=>PN v|_=>true
theorem Vu{c:Rc}{m:Option Gp}(v:Value)(x:PN v=true):Rd c m (xk v) v:=by
 cases v with
 |agg D=>
  simp only[xk];simp only[PN,Array.all_eq_true_iff_forall_mem] at x;refine .agg _ _ _ (λA e=>?_) (by simp) (λj A v u y=>?_) (λj A v u y=>?_)
  ·simp only[gR,Array.mem_toList_iff] at e;obtain⟨a,C,rfl⟩:=e;have:=x a C;simp at this;exact this.2
  ·have:=x v (Yu y);simp at this;exact this.1
  ·rw[hV,lG,y] at u;simp only[jc,cW] at u;subst u;exact Vt v
 |_=>rw[FC _ (by simp)];exact Vt _
def iK:Operand->Option Gp|.tmp k=>some (.slot k,[])|_=>none
theorem aeL{C:Cx}{E:Env}{s:TS}{g:Gs}{w:World}(h:Rel C E s g w)(k:Nat):Rd (g.rc C w) (some (.slot k,[])) (mU C k (s.slot k)) (g.tm k):=by
 have e:=h.fD k;have a:∀t,Rd (g.rc C w) (some (.slot k,[])) (bif C.vs k then .vw (.slot k) t else .un) (g.tm k):=λt=>by
  cases j:C.vs k with
  |true=>exact .vw _ _ _ _ trivial (by simp only[Gs.rc,va];rw[cJ j])
  |false=>exact .un _ _
 unfold mU;split
 ·exact a _
 ·exact a _
 ·exact e
theorem iF{C:Cx}{E:Env}{s:TS}{g:Gs}{w:World}{e:Nat}{a:Act}(h:Rel C E s g w)(l:eb e g a){x:Operand}(hx:fe e x=true):Rd (g.rc C w) (iK x) (cZ C s x) (a.eval x):=by
 cases x with
 |tmp k=>
  simp only[cZ,Act.eval,iK];rw[l.tm k (by simpa[fe,sB] using hx)];exact aeL h k
 |const v=>exact Vu v hx
 |global i=>exact h.gl i
 |func n=>exact .fn _ _ _ _ (by simp) (by simp) (by simp)
theorem Ic{C:Cx}{s:TS}(e:∀i,gf (C.gl i)=true){x:Operand}:(∃a,cZ C s x=.agg a)\/(∃a,cZ C s x=.eY a)\/gf (cZ C s x)=true:=by
 cases x with
 |tmp k=>
  simp only[cZ];cases j:s.slot k<;>simp[mU,gf]<;>(try(cases C.vs k<;>simp))
 |const v=>
  cases v with
  |agg a=>exact .inl ⟨_,rfl⟩
  |_=>exact .inr (.inr (by simp only[cZ];rw[FC _ (by simp)];exact Uh _))
 |global i=>exact .inr (.inr (e i))
 |func n=>exact .inr (.inr rfl)
theorem Pe{C:Cx}{E:Env}{s:TS}{g:Gs}{w:World}{k:Nat}(h:Rel C E s g w)(A:∀a x y,g.tm k≠.slice a x y):∀j p,MV p (s.slot j)->(gp p).1=.slot k->p.jn=true->False:=λj p D F H=>by
 obtain⟨u,I⟩:=(h.fD j).KF D;obtain⟨a,x,y,e⟩:=Nc I (wj.2 F) H;exact A _ _ _ e
theorem CI{C:Cx}{E:Env}{s:TS}{g:Gs}{w:World}{Y n:Nat}{a:Act}(h:Rel C E s g w)(l:eb Y g a)(hg:∀i,gf (C.gl i)=true){x:Operand}(hx:fe Y x=true):
  ∃γ',Rel C E (ir s x) {g with γ:=γ'} w/\Rd (Gs.rc C {g with γ:=γ'} w) (some (.cC n,[])) (cZ C s x) (a.eval x)/\FK (λq=>∃k,x=.tmp k/\q=.slot k) g.γ γ':=by
 have hv:=iF h l hx;have u:gf (cZ C s x)=true->ir s x=s->∃γ',Rel C E (ir s x) {g with γ:=γ'} w/\Rd (Gs.rc C {g with γ:=γ'} w) (some (.cC n,[])) (cZ C s x) (a.eval x)/\FK (λq=>∃k,x=.tmp k/\q=.slot k) g.γ γ':=
  λha P=>⟨g.γ,by rw[P];exact h,hv.anyM ha _,.refl _⟩;cases x with
 |tmp k=>
  have I:(∀D,s.slot k=D->cZ C s (.tmp k)=D->(∀a j cap,g.tm k≠.slice a j cap)->Rd (g.rc C w) (some (.slot k,[])) D (g.tm k)->gf D=false->(∀p,¬ MP p D)->(∀i,¬ MB i D)->ir s (.tmp k)=s.raw k .un->
    ∃γ',Rel C E (ir s (.tmp k)) {g with γ:=γ'} w/\Rd (Gs.rc C {g with γ:=γ'} w) (some (.cC n,[])) (cZ C s (.tmp k)) (a.eval (.tmp k))/\FK (λq=>∃Z,Operand.tmp k=.tmp Z/\q=.slot Z) g.γ γ'):=by
   intro D A ho y F _ Q R P
   have J:dA (eC (.slot k) []) g.γ w (dP g.γ (.slot k) [] (.cC n) []) w:=oG h.cI.new
   refine⟨dP g.γ (.slot k) [] (.cC n) [],?_,?_,(FK.dP yw).mono (λq N=>⟨k,rfl,N⟩)⟩
   ·rw[P];exact h.KD J (Pe h y) (.un _ _)
   ·rw[ho];have S:a.eval (.tmp k)=g.tm k:=l.tm k (by simpa[fe,sB] using hx);rw[S];refine F.mono _ (λb U=>⟨qx U,rfl⟩) (λq p N=>?_) (λi M=>absurd M (R i)) (λp H=>?_) (λp H=>absurd H (Q p))
    ·simp only[cW,eE] at N;obtain⟨rfl,rfl⟩:=N;exact⟨_,_,rfl,λb π U=>⟨yN U,rfl⟩⟩
    ·have:=Q2 (γ':=dP g.γ (.slot k) [] (.cC n) []) h J (Pe h y) k;exact this.va p (by rw[A];exact H)
  cases A:s.slot k with
  |agg D=>
   have F:=h.fD k;rw[A] at F;have y:∀a j cap,g.tm k≠.slice a j cap:=λa j cap e=>by rw[e] at F;cases F
   exact I _ A (by simp[cZ,A,mU]) y F rfl (λp H=>by cases H) (λi M=>by cases M) (by simp[ir,A])
  |eY D=>
   have F:=h.fD k;rw[A] at F;have y:∀a j cap,g.tm k≠.slice a j cap:=λa j cap e=>by rw[e] at F;cases F
   exact I _ A (by simp[cZ,A,mU]) y F rfl (λp H=>by cases H) (λi M=>by cases M) (by simp[ir,A])
  |_=>exact u (by simp only[cZ,A,mU];first|rfl|(cases C.vs k<;>rfl)) (by simp[ir,A])
 |const v=>
  cases v with
  |agg D=>
   refine⟨g.γ,h,?_,.refl _⟩;exact Vu (.agg D) hx
  |_=>exact u (by simp only[cZ];rw[FC _ (by simp)];exact Uh _) rfl
 |global i=>exact u (hg i) rfl
 |func i=>exact u rfl rfl
theorem Rel.WG{C:Cx}{E:Env}{s:TS}{g:Gs}{w:World}{n d:Nat}{D:TV}{v:Value}(h:Rel C E s g w)(Q:Rd (g.rc C w) (some (.cC n,[])) D v)(u:∀j p,MV p (s.slot j)->(gp p).1≠.slot d)(R:∀p,MV p D->(gp p).1≠.slot d):
  Rel C E (s.raw d D) (Gs.set {g with γ:=dP g.γ (.cC n) [] (.slot d) []} d v) w:=by
 have x:dA (eC (.cC n) []) g.γ w (Gs.set {g with γ:=dP g.γ (.cC n) [] (.slot d) []} d v).γ w:=oG h.cI.new;have F:∀p,(gp p).1≠.slot d->(Gs.rc C (Gs.set {g with γ:=dP g.γ (.cC n) [] (.slot d) []} d v) w).va p=(g.rc C w).va p/\(VO (g.rc C w) p->VO (Gs.rc C (Gs.set {g with γ:=dP g.γ (.cC n) [] (.slot d) []} d v) w) p):=λp y=>by
  have a:∀k,nW p=some k->C.vs k=true->(Gs.set {g with γ:=dP g.γ (.cC n) [] (.slot d) []} d v).tm k=g.tm k:=λk u _=>by
   simp only[Gs.set]
   exact cK (λe=>y (by rw[<-e];exact wj.1 u))
  have I:va C.vs (Gs.set {g with γ:=dP g.γ (.cC n) [] (.slot d) []} d v).tm g.bx w p=va C.vs g.tm g.bx w p:=by
   have:∀q:Pl,nW q=nW p->va C.vs (Gs.set {g with γ:=dP g.γ (.cC n) [] (.slot d) []} d v).tm g.bx w q=va C.vs g.tm g.bx w q:=by
    intro q A
    induction q with
    |slot k=>
     simp only[va]
     by_cases u:C.vs k=true
     ·rw[cJ u,cJ u,a k (by rw[<-A];rfl) u]
     ·rw[cK u,cK u]
    |cell=>rfl
    |sub q t r c S=>simp only[va];rw[S A]
   exact this p rfl
  refine⟨I,λJ=>?_⟩;exact(mM (C:=C) (g:=g) (g':=Gs.set {g with γ:=dP g.γ (.cC n) [] (.slot d) []} d v) x p J (nO x λq A _ hx=>iV q n hx.1) a (λk _=>⟨rfl,λhx=>by simp[eC] at hx⟩)).2
 refine h.mV x (λj=>?_) (λj=>.inr ⟨rfl,rfl,λp hx=>by simp[eC] at hx⟩)
 by_cases M:j=d
 ·subst M
  left
  have N:(Gs.set {g with γ:=dP g.γ (.cC n) [] (.slot j) []} j v).tm j=v:=by simp[Gs.set]
  rw[N];rcases vJ s j D with e|e<;>rw[e]
  ·refine Q.mono _ (λb H=>⟨qx H,rfl⟩) (λq p A=>?_) (λ_ _=>rfl) (λp y=>F p (R p y)) (λp y b P H=>⟨vX H (λhx=>iV p n hx.1),rfl⟩);simp only[cW,eE] at A;obtain⟨rfl,rfl⟩:=A;exact⟨_,_,rfl,λb P H=>⟨yN H,rfl⟩⟩
  ·exact .un _ _
 ·refine .inr ⟨ra s D M,by simp only[Gs.set];exact cK M,λp hx=>by simp[eC] at hx,?_⟩;exact⟨λ_ _=>rfl,λp y=>F p (u j p y),λp y P hx=>iV p n hx.1⟩
theorem Rel.put{C:Cx}{E:Env}{s:TS}{g:Gs}{w:World}{n:Nat}{d:Option Nat}{A:TV}{v:Value}(h:Rel C E s g w)(x:Rd (g.rc C w) (some (.cC n,[])) A v):
  ∃γ',Rel C E (dZ C s d A) (Gs.put {g with γ:=γ'} d v) w/\FK (λq=>q=.cC n) g.γ γ':=by
 cases d with
 |none=>exact⟨g.γ,h,.refl _⟩
 |some d=>
  refine⟨dP g.γ (.cC n) [] (.slot d) [],?_,.dP yC⟩;simp only[dZ,TS.put,Gs.put];cases D:C.vs d with
  |true=>
   refine(h.kill (Pl.lD d)).WG (x.kill (Pl.lD d)) (λj p a e=>?_) (λp a e=>?_)
   ·rw[qv] at a;have:=(sR a).2;rw[wC.2 e] at this;simp at this
   ·have:=(sR a).2;rw[wC.2 e] at this;simp at this
  |false=>
   refine h.WG x (λj p a e=>?_) (λp a e=>?_)
   ·obtain⟨u,y⟩:=(h.fD j).KF a;have:=KG y (wj.2 e);rw[D] at this;simp at this
   ·obtain⟨u,y⟩:=x.KF a;have:=KG y (wj.2 e);rw[D] at this;simp at this
end Go.Sd
namespace Go.Sd
open Go Go.RowKit
open Go.Ev hiding World Event Rd
section
theorem Rd.oS{c:Rc}{m:Option Gp}{x:Bool}{v:Value}(h:Rd c m (.b x) v):v=.bool x:=by cases h;rfl
theorem Rd.ka{c:Rc}{m:Option Gp}{k:IntKind}{n:Int}{v:Value}(h:Rd c m (.i k n) v):v=.int k n:=by cases h;rfl
theorem Rd.nq{c:Rc}{m:Option Gp}{x:cq}{v:Value}(h:Rd c m (.s x) v):v=.string ⟨⟨x⟩⟩:=by cases h;rfl
def zC:TV->Value->Bool|.un,v=>v.oneCell'|.b x,.bool y=>x==y|.i k n,.int e j=>decide (k=e)&&decide (n=j)|.s x,.string y=>x==y.data.toList|.nil,.slice none 0 0=>true|.dT _ [],.slice _ 0 0=>true|_,_=>false
def j6:List TV->List Value->Bool|[],[]=>true|t::e,v::j=>zC t v&&j6 e j|_,_=>false
theorem Wk{c:Rc}{m:Option Gp}{tv:TV}{v:Value}(h:zC tv v=true):Rd c m tv v/\v.oneCell'=true/\fy tv=true:=by
 unfold zC at h;split at h
 ·exact⟨.un _ _,h,rfl⟩
 ·simp at h;subst h;exact⟨.b _ _,rfl,rfl⟩
 ·simp at h;obtain⟨rfl,rfl⟩:=h;exact⟨.i _ _ _,rfl,rfl⟩
 ·rename_i x y;simp at h;have:(⟨⟨x⟩⟩:ByteArray)=y:=by cases y;rename_i d;cases d;simp at h;simp[h]
  rw[<-this];exact⟨.s _ _,rfl,rfl⟩
 ·exact⟨.nil _,rfl,rfl⟩
 ·exact⟨.kt _ _ _ _,rfl,rfl⟩
 ·simp at h
theorem Ci{c:Rc}{m:Nat->Option Gp}:∀{e:List TV}{x:List Value},j6 e x=true->x.length=e.length/\∀(j:Nat)tv v,e[j]?=some tv->x[j]?=some v->Rd c (m j) tv v/\v.oneCell'=true/\fy tv=true
 |[],[],_=>⟨rfl,by simp⟩
 |[],_::_,h=>by simp[j6] at h
 |_::_,[],h=>by simp[j6] at h
 |t::e,v::x,h=>by
  simp only[j6,du] at h;obtain⟨F,H⟩:=h;obtain⟨I,J⟩:=Ci (m:=λj=>m (j+1)) H;refine⟨by simp[I],λj tv u y D=>?_⟩;cases j with
  |zero=>simp at y D;subst y;subst D;exact Wk F
  |succ j=>exact J j tv u (by simpa using y) (by simpa using D)
def p9(P:Program)(t:TypeId):Bool:=
 match P.underlying t with
 |some (.struct _)|some (.array _ _)=>true
 |_=>false
def lU(P:Program)(t:TypeId):List Value:=
 match P.info? t with
 |some i=>
  match i.zero with
  |some z=>z.cells.toList
  |none=>[]
 |none=>[]
def uZ(P:Program)(t:TypeId):Bool:=
 match P.info? t with
 |some i=>i.zero.isSome
 |none=>false
def Gy(P:Program)(e:Ty)(j:TypeId):Bool:=
 match e,P.underlying j with
 |.int k,some (.int u)=>decide (k=u)
 |.str,some .string=>true
 |.bool,some .bool=>true
 |e,some (.struct _)=>Ev.gk e
 |_,_=>false
def zf(P:Program)(e:Ty)(j:TypeId):Bool:=(P.cellsOf j==cG e)&&uZ P j&&j6 (Ev.enc false e (po e)) (lU P j)&&Gy P e j
def nQ:List (Nat×Nat)->List Field->Bool|[],[]=>true|(e,j)::r,f::fs=>(e==f.offset)&&(j==f.type)&&(f.name != "_")&&nQ r fs|_,_=>false
def mb(P:Program)(C:Cx)(n:Nat)(F:TI)(u:Option TypeDesc):Bool:=
    match F,u with
    |.bool,some .bool=>j6 (zero C 4 n) (lU P n)
    |.int k,some (.int H)=>decide (k=H)&&j6 (zero C 4 n) (lU P n)
    |.str,some .string=>j6 (zero C 4 n) (lU P n)
    |.sl e I D,some (.slice j)=>zf P e j&&(I==cG e)&&(P.bytesOf j==D)&&j6 (zero C 4 n) (lU P n)
    |.st _ _ fs,some (.struct J)=>nQ fs J.toList&&j6 (zero C 4 n) (lU P n)&&fs.all λp=>(C.cX p.2).var
    |.ar x e,some (.array y j)=>(x==y)&&zf P e j&&(cG e==1)&&!(p9 P j)&&!(Ev.gk e)&&j6 (List.replicate x (nth (Ev.enc false e (po e)) 0)) (lU P n)
    |.ptr,some (.pointer _)=>j6 (zero C 4 n) (lU P n)
    |.r8,some (.interface _)=>j6 (zero C 4 n) (lU P n)
    |_,_=>false
def iX(P:Program)(C:Cx)(n:Nat)(ti:TI):Bool:=
 match ti with
 |.other=>true
 |.iy=>Nat.beq n F3&&(uZ P n&&(P.cellsOf n==2)&&(match lU P n with|[.pointer none,.slice none 0 0]=>true|_=>false))
 |ti=>(P.cellsOf n==ti.sz)&&(p9 P n==ti.ag)&&Nat.blt 0 ti.sz&&uZ P n&&
  mb P C n ti (P.underlying n)
structure fK(P:Program)(C:Cx):Prop where
 ty:∀n,iX P C n (C.cX n)=true
 gl:∀i,gf (C.gl i)=true
theorem afK{P:Program}{C:Cx}(h:C.ty.all (λp=>iX P C p.1 p.2)=true)(n:Nat):iX P C n (C.cX n)=true:=by
 have j:∀(l:List (Nat×TI)),l.all (λp=>iX P C p.1 p.2)=true->iX P C n (lx l n)=true:=by
  intro l
  induction l with
  |nil=>intro _;rfl
  |cons p r u=>
   intro h
   simp only[GW,du] at h
   simp only[lx,Na]
   split
   ·rename_i e;rw[<-e];exact h.1
   ·exact u h.2
 exact j _ h
section
variable{P:Program}{C:Cx}{w:World}{n:Nat}
theorem Mp{t:TypeId}(h:0<P.cellsOf t):∃i,P.info? t=some i/\i.size=P.cellsOf t:=by
 unfold Program.cellsOf at*;cases e:P.info? t with
 |none=>simp[e] at h
 |some i=>exact⟨i,rfl,rfl⟩
theorem vK{t:TypeId}(h:0<P.cellsOf t):(sizeOf t).run P w=.ok (P.cellsOf t) w:=by
 obtain⟨i,e,j⟩:=Mp h;simp[sizeOf,typeInfo,e,j]
theorem pR(h:iX P C n (C.cX n)=true)(j:(C.cX n).var=true):P.cellsOf n=(C.cX n).sz/\0<(C.cX n).sz/\p9 P n=(C.cX n).ag/\(∃d,P.underlying n=some d)/\uZ P n=true:=by
 unfold iX at h;split at h
 ·rename_i e;rw[e] at j;simp[TI.var] at j
 ·rename_i e;rw[e] at j;simp[TI.var] at j
 ·simp only[du,pE,sB] at h;obtain⟨⟨⟨⟨x,y⟩,D⟩,F⟩,u⟩:=h;refine⟨x,D,y,?_,F⟩;cases H:P.underlying n with
  |none=>rw[H] at u;unfold mb at u;split at u<;>simp_all
  |some d=>exact⟨d,rfl⟩
theorem Ba{d:TypeDesc}(h:P.underlying n=some d):(isAgg n).run P w=.ok (p9 P n) w:=by
 simp only[isAgg,underlying,p9,Sem.run_bind,run_program,Result.andThen,h,Sem.run_pure];cases d<;>rfl
theorem KH(e:TI)(h:e.ag=false):e.sz=1:=by cases e<;>simp_all [TI.ag,TI.sz]
theorem KI{t:Ty}{m:Nat}{fs:List (Nat×Nat)}(h:iX P C n (C.cX n)=true)(x:C.cX n=.st t m fs):∃j,P.underlying n=some (.struct j)/\nQ fs j.toList=true/\j6 (zero C 4 n) (lU P n)=true/\∀p∈fs,(C.cX p.2).var=true:=by
 rw[x] at h;simp only[iX,du] at h;obtain⟨_,e⟩:=h;cases u:P.underlying n with
 |none=>rw[u] at e;simp[mb] at e
 |some d=>?_
 rw[u] at e;cases d<;>simp only[mb,du,pE,lj,jh,dF,reduceCtorEq] at e;exact⟨_,rfl,e.1.1,e.1.2,e.2⟩
theorem uR{e:Ty}{x fR:Nat}(h:iX P C n (C.cX n)=true)(D:C.cX n=.sl e x fR):∃u,P.underlying n=some (.slice u)/\zf P e u=true/\x=cG e/\P.bytesOf u=fR:=by
 rw[D] at h;simp only[iX,du] at h;obtain⟨_,j⟩:=h;cases y:P.underlying n with
 |none=>rw[y] at j;simp[mb] at j
 |some d=>?_
 rw[y] at j;cases d<;>simp only[mb,du,pE,lj,jh,dF,reduceCtorEq] at j;exact⟨_,rfl,j.1.1.1,j.1.1.2,j.1.2⟩
theorem F4{e:Ty}{j:Nat}(h:iX P C n (C.cX n)=true)(D:C.cX n=.ar j e):∃x,P.underlying n=some (.array j x)/\zf P e x=true/\cG e=1/\p9 P x=false/\Ev.gk e=false/\j6 (List.replicate j (nth (Ev.enc false e (po e)) 0)) (lU P n)=true:=by
 rw[D] at h;simp only[iX,du] at h;obtain⟨_,u⟩:=h;cases y:P.underlying n with
 |none=>rw[y] at u;simp[mb] at u
 |some d=>?_
 rw[y] at u;cases d<;>simp only[mb,du,pE,lj,jh,dF,reduceCtorEq] at u;obtain⟨⟨⟨⟨⟨rfl,F⟩,H⟩,I⟩,J⟩,M⟩:=u;exact⟨_,rfl,F,H,I,J,M⟩
theorem adp(h:iX P C n (C.cX n)=true)(x:(C.cX n).var=true)(F:∀j e,C.cX n≠.ar j e):j6 (zero C 4 n) (lU P n)=true:=by
 cases y:C.cX n with
 |other=>rw[y] at x;simp[TI.var] at x
 |iy=>rw[y] at x;simp[TI.var] at x
 |ar j e=>exact absurd y (F j e)
 |_=>
  rw[y] at h;simp only[iX,du] at h;obtain⟨_,u⟩:=h;cases D:P.underlying n with
  |none=>rw[D] at u;simp[mb] at u
  |some d=>
   rw[D] at u;cases d<;>simp only[mb,du,reduceCtorEq,iN] at u
   first|exact u|exact u.2|exact u.1.2
theorem uF(h:iX P C n (C.cX n)=true)(u:C.cX n=.str):P.underlying n=some .string:=by
 rw[u] at h;simp only[iX,du] at h;obtain⟨_,e⟩:=h;cases j:P.underlying n with
 |none=>rw[j] at e;simp[mb] at e
 |some d=>?_
 rw[j] at e;cases d<;>simp only[mb,du,pE,lj,jh,dF,reduceCtorEq] at e;rfl
theorem Ui(h:iX P C n (C.cX n)=true)(u:C.cX n=.bool):P.underlying n=some .bool:=by
 rw[u] at h;simp only[iX,du] at h;obtain⟨_,e⟩:=h;cases j:P.underlying n with
 |none=>rw[j] at e;simp[mb] at e
 |some d=>?_
 rw[j] at e;cases d<;>simp only[mb,du,pE,lj,jh,dF,reduceCtorEq] at e;rfl
theorem Vv{k:IntKind}(h:iX P C n (C.cX n)=true)(u:C.cX n=.int k):P.underlying n=some (.int k):=by
 rw[u] at h;simp only[iX,du] at h;obtain⟨_,e⟩:=h;cases j:P.underlying n with
 |none=>rw[j] at e;simp[mb] at e
 |some d=>?_
 rw[j] at e;cases d<;>simp only[mb,du,pE,lj,jh,dF,reduceCtorEq] at e;rw[e.1]
theorem aeM(h:iX P C n (C.cX n)=true)(u:C.cX n=.r8):∃x,P.underlying n=some (.interface x):=by
 rw[u] at h;simp only[iX,du] at h;obtain⟨_,e⟩:=h;cases j:P.underlying n with
 |none=>rw[j] at e;simp[mb] at e
 |some d=>?_
 rw[j] at e;cases d<;>simp only[mb,du,pE,lj,jh,dF,reduceCtorEq] at e;exact⟨_,rfl⟩
end
structure Out(C:Cx)(E:Env)(nt:Nat)(X:Rt->dh->Prop)(d:Option Nat)(nb:Nat->Prop)(g:Gs)(w:World)(s':TS)(a':Act)(w':World)(g':Gs):Prop where
 rel:Rel C E s' g' w'
 CV:eb nt g' a'
 gi:dA X g.γ w g'.γ w'
 tm:∀k,d≠some k->g'.tm k=g.tm k
 bx:∀k,¬ nb k->g'.bx k=g.bx k
def u2(P:Program)(o:Oper)(a:Act)(w:World)(u:Act->World->Prop):Prop:=∀(next:Act->World->Prop)(Q:Exit->Act->World->Prop),(∀e j,u e j->next e j)->o.wp P a w next Q
def XZ(Z:Rt->Prop)(q:Rt)(p:dh):Prop:=(Z q\/∃n,q=.cC n)/\¬ kE q p
def gx{R:Type}(P:Program)(C:Cx)(E:Env)(nt:Nat)(o:Oper)(g:Gs)(a:Act)(w:World)(K:TS->Option R)(r:R)(Z:Rt->Prop):Prop:=∃e,K e=some r/\u2 P o a w (λj u=>∃x,Out C E nt (XZ Z) o.dst (λ_=>False) g w e j u x)
theorem FD(g:Gs)(d:Option Nat)(v:Value):(g.put d v).γ=g.γ:=by cases d<;>rfl
theorem FE(g:Gs)(d:Option Nat)(v:Value):(g.put d v).bx=g.bx:=by cases d<;>rfl
theorem Kb(g:Gs)(d:Option Nat)(v:Value)(k:Nat)(h:d≠some k):(g.put d v).tm k=g.tm k:=by
 cases d with
 |none=>rfl
 |some d=>simp only[Gs.put,Gs.set];exact cK (λe=>h (by rw[e]))
theorem FK.xz{Z:Rt->Prop}{γ e:Nat->G}{w:World}(h:FK (λq=>Z q\/∃n,q=.cC n) γ e)(j:∀b,w.heap.size<=b->γ b=.fr):dA (XZ Z) γ w e w:=h.gi j
section
variable{P:Program}{C:Cx}{E:Env}{nt n:Nat}{o:Oper}{s A:TS}{g:Gs}{a:Act}{w:World}{R:Type}{r:R}{K:TS->Option R}{Z:Rt->Prop}{γ1:Nat->G}{tv:TV}{v:Value}
theorem qz(y:Rel C E A {g with γ:=γ1} w)(D:FK Z g.γ γ1)(F:∀b,w.heap.size<=b->g.γ b=.fr)(l:eb nt g a)(H:gN nt o.dst)(I:Rd (Gs.rc C {g with γ:=γ1} w) (some (.cC n,[])) tv v)
  (J:(execOp a.eval o).run P w=.ok (.value v) w)(j:K (dZ C A o.dst tv)=some r):gx P C E nt o g a w K r Z:=by
 obtain⟨u,M,f2⟩:=y.put (d:=o.dst) I;refine⟨_,j,λnext Q e=>?_⟩;simp only[Oper.wp,J,Oper.upon];refine e _ _ ⟨_,M,(l.same (g':={g with γ:=u}) rfl).put H,?_,λk j=>Kb _ _ _ _ j,λk _=>by rw[FE]⟩;rw[FD];exact FK.xz ((D.mono (λq x=>.inl x)).trans (f2.mono (λq x=>.inr ⟨n,x⟩))) F
theorem j8(h:Rel C E s g w)(l:eb nt g a)(e:gN nt o.dst){m:Option Gp}(j:Rd (g.rc C w) m tv v)(u:gf tv=true)(x:(execOp a.eval o).run P w=.ok (.value v) w)(y:K (dZ C s o.dst tv)=some r):gx P C E nt o g a w K r Z:=qz (n:=0) (γ1:=g.γ) h (.refl _) h.cI.new l e (j.anyM u _) x y
theorem gx.mono{Z':Rt->Prop}(h:gx P C E nt o g a w K r Z)(hz:∀q,Z q->Z' q):gx P C E nt o g a w K r Z':=by
 obtain⟨j,u,x⟩:=h;refine⟨j,u,λnext Q y=>x next Q (λD F⟨H,e⟩=>y D F ⟨H,{e with gi:=e.gi.mono (λq p hx=>⟨hx.1.imp (hz q) id,hx.2⟩)}⟩)⟩
def qR(x:Operand)(q:Rt):Prop:=∃k,x=.tmp k/\q=.slot k
theorem Jx(hC:fK P C)(h:Rel C E s g w)(l:eb nt g a)(u:gN nt o.dst){x:Operand}(e:o.op=.move x)(hx:fe nt x=true)(j:Ev.step C o s K=some r):gx P C E nt o g a w K r (qR x):=by
 simp only[Ev.step,e] at j;obtain⟨γ1,y,D,F⟩:=CI (n:=0) h l hC.gl hx;exact qz y F h.cI.new l u D (by simp[execOp,e]) j
theorem NV(hC:fK P C)(h:Rel C E s g w)(l:eb nt g a)(M:gN nt o.dst){c x y:Operand}(D:o.op=.pick c x y)(N:fe nt c=true)(hx:fe nt x=true)(Q:fe nt y=true)(e:Ev.step C o s K=some r):
  gx P C E nt o g a w K r (λq=>qR x q\/qR y q):=by
 simp only[Ev.step,D] at e;split at e
 ·rename_i b S;have u:=iF h l N;rw[S] at u;have j:=u.oS;rcases BA.1 e with⟨rfl,e⟩|⟨rfl,e⟩
  ·obtain⟨γ1,F,H,I⟩:=CI (n:=0) h l hC.gl hx;exact qz F (I.mono λq J=>.inl J) h.cI.new l M H (by simp[execOp,D,j,asBool]) e
  ·obtain⟨γ1,F,H,I⟩:=CI (n:=0) h l hC.gl Q;exact qz F (I.mono λq J=>.inr J) h.cI.new l M H (by simp[execOp,D,j,asBool]) e
 ·simp at e
theorem Uj{R:Type}{r:R}{c:Rc}{m:Option Gp}{p:TV}{u:Value}{n:Nat}{K:TV->Option R}(h:Rd c m p u)(e:qM p n K=some r):∃b H I,u=.pointer (some ⟨b,H,none⟩)/\K I=some r/\Rd c m I (.pointer (some ⟨b,H+n,none⟩))/\gf I=true:=by
 have N:∀x y:Nat,x+Nat.add y n=x+y+n:=λx y=>(oA x y n).symm;cases p with
 |ptr k j=>
  simp only[qM] at e;cases h;exact⟨_,_,_,rfl,e,.ptr _ _ _,rfl⟩
 |ep p t i j=>
  simp only[qM] at e;cases h;rename_i J M D F;refine⟨_,_,_,rfl,e,?_,rfl⟩;rw[<-N];exact Rd.ep m p t i (Nat.add j n) _ _ _ _ J M D F
 |ip Q j=>
  simp only[qM] at e;cases h with
  |ip _ _ _ b o f S U D F=>?_
  refine⟨_,_,_,rfl,e,?_,rfl⟩;rw[<-N];exact Rd.ip m Q (Nat.add j n) _ _ f S U D F
 |pe k i=>
  simp only[qM] at e;obtain⟨D,F⟩:=dM.1 e;have:n=0:=gw D;subst this;cases h;exact⟨_,_,_,rfl,F,.pe _ _ _ (by assumption),rfl⟩
 |iv t Y=>
  simp only[qM] at e;obtain⟨D,F⟩:=dM.1 e;have:n=0:=gw D;subst this;cases h;exact⟨_,_,_,rfl,F,.iv _ _ _ _ _ (by assumption) (by assumption) (by assumption),rfl⟩
 |_=>simp[qM] at e
theorem Ie(a:Addr)(h:a.spot=none)(n:Nat):a.add n=⟨a.block,a.off+n,none⟩:=by
 cases a;simp_all [Addr.add]
theorem QE(h:Rel C E s g w)(l:eb nt g a)(y:gN nt o.dst){x:Operand}(j:o.op=.nilCheck x)(hx:fe nt x=true)(u:Ev.step C o s K=some r):gx P C E nt o g a w K r Z:=by
 simp only[Ev.step,j] at u;obtain⟨b,D,J,F,e,H,I⟩:=Uj (iF h l hx) u;exact j8 h l y H I (by simp[execOp,j,F]) e
theorem Mb:∀{fs:List (Nat×Nat)}{x:List Field}{j e u:Nat},nQ fs x=true->nv fs j=some (e,u)->∃f,x[j]?=some f/\f.offset=e/\f.type=u/\(e,u)∈fs
 |[],_,_,_,_,_,h=>by simp[nv] at h
 |_::_,[],_,_,_,h,_=>by simp[nQ] at h
 |(D,F)::fs,f::x,0,e,u,h,y=>by
  simp only[nQ,du,pE] at h;simp only[nv,cW,eE] at y;obtain⟨rfl,rfl⟩:=y;exact⟨f,rfl,h.1.1.1.symm,h.1.1.2.symm,by simp⟩
 |(D,F)::fs,f::x,j+1,e,u,h,y=>by
  simp only[nQ,du,pE] at h;obtain⟨H,I,J,M,N⟩:=Mb h.2 (by simpa[nv] using y);exact⟨H,by simpa using I,J,M,by simp[N]⟩
theorem Qv(hC:fK P C)(h:Rel C E s g w)(l:eb nt g a)(J:gN nt o.dst){t:Nat}{x:Operand}{j:Nat}(I:o.op=.fieldAddr t x j)(hx:fe nt x=true)(e:Ev.step C o s K=some r):gx P C E nt o g a w K r Z:=by
 simp only[Ev.step,I] at e;split at e
 ·rename_i t' m fs M;split at e
  ·rename_i N ft Q;obtain⟨gs,S,U,_,u⟩:=KI (hC.ty t) M;obtain⟨f,y,rfl,rfl,Y⟩:=Mb U Q;obtain⟨b,aa,p',D,F,hr,ha⟩:=Uj (iF h l hx) e;obtain⟨ab,ad,_⟩:=pR (hC.ty f.type) (u _ Y);have hs:=vK (P:=P) (w:=w) (t:=f.type) (by omega);have H:¬ P.cellsOf f.type=0:=by omega
   rw[lG] at y;refine j8 h l J hr ha ?_ F;simp[execOp,I,Instr.fieldAt,underlying,S,y,D,Instr.sureAddr,Go.fieldPlace,hs,H,Ie]
  ·simp at e
 ·simp at e
theorem Uk(h:Rel C E s g w)(l:eb nt g a)(F:gN nt o.dst){H:UnOp}{t:Nat}{x:Operand}(D:o.op=.unOp H t x)(hx:fe nt x=true)(e:Ev.step C o s K=some r):gx P C E nt o g a w K r Z:=by
 simp only[Ev.step,D] at e;have j:=iF h l hx;unfold La at e;split at e
 ·rename_i k n u;rw[u] at j;have y:=j.ka;exact j8 h l F (.i none k _) rfl (by simp[execOp,D,y,Op.unary,Op.intArith,gj]) e
 ·rename_i b u;rw[u] at j;have y:=j.oS;exact j8 h l F (.b none _) rfl (by simp[execOp,D,y,Op.unary,cD]) e
 ·rename_i k n u;rw[u] at j;have y:=j.ka;exact j8 h l F (.i none k _) rfl (by simp[execOp,D,y,Op.unary,Op.intBits,tj,eP]) e
 ·simp at e
theorem Qr(hC:fK P C)(h:Rel C E s g w)(l:eb nt g a)(J:gN nt o.dst){t:Nat}{x:Operand}(F:o.op=.makeInterface t x)(j:Ev.step C o s K=some r)(M:C.cX t≠.iy):gx P C E nt o g a w K r Z:=by
 simp only[Ev.step,F] at j;have y:(C.cX t).var=true->C.cX t≠.r8->K (dZ C s o.dst (.er true))=some r->gx P C E nt o g a w K r Z:=λu N j=>by
  obtain⟨_,_,_,⟨d,H⟩,_⟩:=pR (hC.ty t) u
  refine j8 h l J (.sd none t (a.eval x)) rfl ?_ j
  simp only[execOp,F,Instr.makeInterface,underlying,Sem.run_bind,run_program,Result.andThen,H,Sem.run_pure]
  cases d<;>first|rfl|skip
  exfalso
  have:=hC.ty t
  unfold iX at this
  split at this
  ·rename_i e;rw[e] at u;simp[TI.var] at u
  ·rename_i e;rw[e] at u;simp[TI.var] at u
  ·simp only[du] at this;obtain⟨_,I⟩:=this;rw[H] at I;generalize C.cX t=D at*;cases D<;>simp[mb] at I N
 split at j
 ·simp at j
 ·simp at j
 ·rename_i Q S;refine y ?_ (λe=>Q e) j;generalize C.cX t=D at*;cases D<;>first|rfl|exact absurd rfl M|exact absurd rfl S
theorem MH:∀{e:List TV},Kz e=true->∀tv∈e,∃k j,tv=.ptr k j
 |[],_,tv,h=>by simp at h
 |v::e,u,tv,h=>by
  cases v<;>simp only[Kz] at u<;>first|(simp at u;done)|skip
  rcases eo.1 h with rfl|h
  ·exact⟨_,_,rfl⟩
  ·exact MH u tv h
theorem QF(h:Rel C E s g w)(l:eb nt g a)(Q:gN nt o.dst){I:FuncId}{x y:Array Operand}(J:o.op=.makeFunc (.func I) x y)(hx:x=#[])(S:∀z∈y.toList,fe nt z=true)(M:Ev.step C o s K=some r):gx P C E nt o g a w K r Z:=by
 subst hx;simp only[Ev.step,J] at M;obtain⟨N,U⟩:=dM.1 M;refine j8 (v:=.func (.func I) #[] (y.map a.eval)) (m:=none) h l Q ?_ rfl (by simp[execOp,J,Instr.makeFunc]) U;refine .fn _ _ _ _ (λtv Y=>?_) (by simp) (λj tv v F H=>?_)
 ·obtain⟨k,j,rfl⟩:=MH N tv Y;rfl
 ·rw[hV] at F;rw[ah2] at H;cases u:y[j]? with
  |none=>simp[u] at H
  |some z=>
   simp only[u,jc,cW] at H;rw[lG,u] at F;simp only[jc,cW] at F;subst F;subst H;have D:cZ C s z∈y.toList.map (cZ C s):=gR.2 ⟨z,by simpa using Yu u,rfl⟩;obtain⟨k,i,e⟩:=MH N _ D;exact(iF h l (S z (by simpa using Yu u))).anyM (by rw[e];rfl) _
end
end
section
section
variable{P:Program}{C:Cx}{w:World}{op:BinOp}{t:TypeId}{x y:Operand}{R:Type}{r:R}{K:TV->Option R}
def Lb(P:Program)(w:World)(op:BinOp)(t:TypeId)(x y:Operand)(e j:Value)(K:TV->Option R)(r:R):Prop:=
 ∃v tv,K tv=some r/\((do eqGuard op t x y e j;binOp op t e j):Sem Value).run P w=.ok v w/\(∀c m,Rd c m tv v)/\gf tv=true
theorem rP{e j:Value}{k:IntKind}{n:Int}(u:K (.i k n)=some r)(A:((do eqGuard op t x y e j;binOp op t e j):Sem Value).run P w=.ok (.int k n) w):Lb P w op t x y e j K r:=⟨_,_,u,A,λ_ _=>.i _ _ _,rfl⟩
theorem mN{e j:Value}{b:Bool}(u:K (.b b)=some r)(A:((do eqGuard op t x y e j;binOp op t e j):Sem Value).run P w=.ok (.bool b) w):Lb P w op t x y e j K r:=⟨_,_,u,A,λ_ _=>.b _ _,rfl⟩
theorem Vw{k D:IntKind}{a c:Int}(F:K9 op=true\/D=k)(e:zB op k a c K=some r):Lb P w op t x y (.int k a) (.int D c) K r:=by
 have H:(eqGuard op t x y (.int k a) (.int D c)).run P w=.ok () w:=by
  unfold eqGuard
  cases op<;>simp
 have u:∀v,(binOp op t (.int k a) (.int D c)).run P w=.ok v w->((do eqGuard op t x y (.int k a) (.int D c);binOp op t (.int k a) (.int D c)):Sem Value).run P w=.ok v w:=λv I=>by
  simp only[Sem.run_bind,H,Result.andThen,I]
 cases op<;>simp only[zB,K9,iN,false_or,eM] at e F
 case shl=>
  obtain⟨n,j,e⟩:=e;unfold oW at j;split at j
  ·simp at j
  ·rename_i A;simp only[cW] at j;subst j;exact rP e (u _ (by simp[binOp,Op.shift,A]))
 case shr=>
  obtain⟨n,j,e⟩:=e;unfold ko at j;split at j
  ·simp at j
  ·rename_i A;simp only[cW] at j;subst j;exact rP e (u _ (by simp[binOp,Op.shift,A]))
 case quo=>
  subst F;obtain⟨n,j,e⟩:=e;unfold jB at j;split at j
  ·simp at j
  ·rename_i A;simp only[cW] at j;subst j;exact rP e (u _ (by simp[binOp,Op.intDiv,A]))
 case rem=>
  subst F;obtain⟨n,j,e⟩:=e;unfold jY at j;split at j
  ·simp at j
  ·rename_i A;simp only[cW] at j;subst j;exact rP e (u _ (by simp[binOp,Op.intDiv,A]))
 all_goals subst F
 case add=>exact rP e (u _ (by simp[binOp,Op.intArith,cw]))
 case sub=>exact rP e (u _ (by simp[binOp,Op.intArith,cQ]))
 case mul=>exact rP e (u _ (by simp[binOp,Op.intArith,ez]))
 case and=>exact rP e (u _ (by simp[binOp,Op.intBits,gW]))
 case or=>exact rP e (u _ (by simp[binOp,Op.intBits,lC]))
 case xor=>exact rP e (u _ (by simp[binOp,Op.intBits,eP]))
 case andNot=>exact rP e (u _ (by simp[binOp,Op.intBits,WD]))
 case eql=>exact mN e (u _ (by simp[binOp,Op.intCmp,cp];rfl))
 case neq=>exact mN e (u _ (by simp[binOp,Op.intCmp,cp,cD];rfl))
 case lss=>exact mN e (u _ (by simp[binOp,Op.intCmp,cA]))
 case leq=>exact mN e (u _ (by simp[binOp,Op.intCmp,dz]))
 case gtr=>exact mN e (u _ (by simp[binOp,Op.intCmp,cA]))
 case geq=>exact mN e (u _ (by simp[binOp,Op.intCmp,dz]))
theorem WH(a b:List UInt8):(a==b)=decide (a=b):=by by_cases h:a=b<;>simp[h]
theorem I4(l:List UInt8):(ByteArray.mk ⟨l⟩).toList=l:=by rw[ByteArray.toList_eq]
theorem afL{k F:IntKind}{a c:Int}{j u:List TV}{q:Bool}(h:js (.i k a::j) (.i F c::u)=some q):∃A,js j u=some A/\q=(cp a c&&A):=by
 cases j with
 |nil=>
  cases u with
  |nil=>simp only[js,cW] at h;exact⟨true,rfl,by simp[h]⟩
  |cons d u=>simp[js] at h
 |cons e j=>
  cases D:js (e::j) u with
  |none=>simp[js,D] at h
  |some A=>simp only[js,D,cW] at h;exact⟨A,rfl,h.symm⟩
theorem afM{a c:cq}{j u:List TV}{q:Bool}(h:js (.s a::j) (.s c::u)=some q):∃A,js j u=some A/\q=(dm a c&&A):=by
 cases j with
 |nil=>
  cases u with
  |nil=>simp only[js,cW] at h;exact⟨true,rfl,by simp[h]⟩
  |cons d u=>simp[js] at h
 |cons e j=>
  cases D:js (e::j) u with
  |none=>simp[js,D] at h
  |some A=>simp only[js,D,cW] at h;exact⟨A,rfl,h.symm⟩
theorem afN{a c:Bool}{j u:List TV}{q:Bool}(h:js (.b a::j) (.b c::u)=some q):∃A,js j u=some A/\q=(kq a c&&A):=by
 cases j with
 |nil=>
  cases u with
  |nil=>simp only[js,cW] at h;exact⟨true,rfl,by simp[h]⟩
  |cons d u=>simp[js] at h
 |cons e j=>
  cases D:js (e::j) u with
  |none=>simp[js,D] at h
  |some A=>simp only[js,D,cW] at h;exact⟨A,rfl,h.symm⟩
theorem Ul(hC:fK P C)(Y ys:Array Value)(d:Nat):∀(fs:List (Nat×Nat))(gs:List Field)(n:Nat)(cs ds:List TV)(q:Bool),nQ fs gs=true->tq C fs n cs ds=true->
  (∀(j:Nat)tv,cs[j]?=some tv->∃v c m,Y[n+j]?=some v/\Rd c m tv v)->(∀(j:Nat)tv,ds[j]?=some tv->∃v c m,ys[n+j]?=some v/\Rd c m tv v)->js cs ds=some q->
  (Op.eqFields (d+1) Y ys gs).run P w=.ok q w
 |[],[],n,[],[],q,_,_,_,_,h=>by simp only[js,cW] at h;subst h;simp[Op.eqFields]
 |[],_::_,_,_,_,_,h,_,_,_,_=>by simp[nQ] at h
 |_::_,[],_,_,_,_,h,_,_,_,_=>by simp[nQ] at h
 |[],[],_,_::_,_,_,_,h,_,_,_=>by simp[tq] at h
 |[],[],_,[],_::_,_,_,h,_,_,_=>by simp[tq] at h
 |_::_,_::_,_,[],_,_,_,h,_,_,_=>by simp[tq] at h
 |_::_,_::_,_,_::_,[],_,_,h,_,_,_=>by simp[tq] at h
 |(aj,ft)::fs,f::gs,n,c::cs,e::ds,q,hp,D,hx,hy,h=>by
  simp only[nQ,du,pE,bne_iff_ne] at hp;obtain⟨⟨⟨rfl,rfl⟩,I⟩,hp⟩:=hp;simp only[tq] at D;cases F:Nat.beq f.offset n with
  |false=>rw[F] at D;simp at D
  |true=>
   rw[F,cL] at D;have F:=gw F;obtain⟨vx,cx,mx,aa,ab⟩:=hx 0 c rfl;obtain⟨vy,cy,my,ad,ae⟩:=hy 0 e rfl;have af:∀(j:Nat)tv,cs[j]?=some tv->∃v c m,Y[n+1+j]?=some v/\Rd c m tv v:=λj tv hj=>by
    rw[show n+1+j=n+(j+1) by omega];exact hx (j+1) tv (by simpa using hj)
   have ah:∀(j:Nat)tv,ds[j]?=some tv->∃v c m,ys[n+1+j]?=some v/\Rd c m tv v:=λj tv hj=>by
    rw[show n+1+j=n+(j+1) by omega];exact hy (j+1) tv (by simpa using hj)
   have ih:=λD q' hq=>Ul hC Y ys d fs gs (n+1) cs ds q' hp D af ah hq;have u:∀(zs:Array Value)(v:Value)(dd:TypeDesc),P.underlying f.type=some dd->p9 P f.type=false->zs[n]?=some v->(part f.type zs f.offset).run P w=.ok v w:=λzs v dd A ai hz=>by
    simp[part,Ba A,ai,F,hz]
   split at D
   ·rename_i k k1 a k2 b J;cases S:decide (k1=k)<;>rw[S] at D<;>simp only[cL,cN] at D
    ·simp at D
    cases U:decide (k2=k)<;>rw[U] at D<;>simp only[cL,cN] at D
    ·simp at D
    have S:=fj S;have U:=fj U;subst S;subst U;have A:=Vv (hC.ty f.type) J;have M:=ab.ka;have N:=ae.ka;subst M;subst N;obtain⟨q',Q,rfl⟩:=afL h;simp only[Op.eqFields,cJ I,Sem.run_bind,u Y _ _ A (by simp[p9,A]) aa,u ys _ _ A (by simp[p9,A]) ad,Result.andThen];rw[show(Op.equalIn (d+1) f.type (.int k2 a) (.int k2 b)).run P w=.ok (a==b) w by simp[Op.equalIn,run_underlying A]];have:=ih D q' Q;simp only[cp]
    by_cases H:a=b
    ·simp[H,this]
    ·simp[H]
   ·rename_i a b J;have A:=uF (hC.ty f.type) J;have M:=ab.nq;have N:=ae.nq;subst M;subst N;obtain⟨q',Q,rfl⟩:=afM h;simp only[Op.eqFields,cJ I,Sem.run_bind,u Y _ _ A (by simp[p9,A]) aa,u ys _ _ A (by simp[p9,A]) ad,Result.andThen];rw[run_equalIn_string w d f.type _ _ A];have:=ih D q' Q;simp only[I4,dm]
    by_cases H:a=b
    ·simp[H,this]
    ·simp[H]
   ·rename_i a b J;have A:=Ui (hC.ty f.type) J;have M:=ab.oS;have N:=ae.oS;subst M;subst N;obtain⟨q',Q,rfl⟩:=afN h;simp only[Op.eqFields,cJ I,Sem.run_bind,u Y _ _ A (by simp[p9,A]) aa,u ys _ _ A (by simp[p9,A]) ad,Result.andThen];rw[run_equalIn_bool' w d f.type _ _ A];have:=ih D q' Q;simp only[kq]
    by_cases H:a=b
    ·simp[H,this]
    ·simp[H]
   ·simp at D
def Gh(P:Program)(C:Cx)(t:TypeId)(y:Operand):Bool:=
 match C.cX t with
 |.st _ _ _=>!P.stoodInHeld t&&!P.eqGuardType P.depth t
 |.r8=>match y with|.const _=>true|_=>false
 |_=>true
theorem Y8(d:Nat){e:Array (String×TypeId)}{j:TypeId}{v:Value}(h:P.underlying t=some (.interface e)):(Op.equalIn (d+1) t (.iface j v) .nilIface).run P w=.ok false w:=by simp[Op.equalIn,run_underlying h]
theorem Y9(d:Nat){e:Array (String×TypeId)}(h:P.underlying t=some (.interface e)):(Op.equalIn (d+1) t .nilIface .nilIface).run P w=.ok true w:=by simp[Op.equalIn,run_underlying h]
theorem aeN(hC:fK P C){vx vy:Value}{H ty:TV}{c:Rc}{m m':Option Gp}(hx:Rd c m H vx)(I:Rd c m' ty vy)(A:Gh P C t y=true)(F:Gt C (C.cX t) H ty=true)(e:CS op H ty K=some r):Lb P w op t x y vx vy K r:=by
 unfold CS at e;split at e
 ·rename_i k a k' c';have D:=hx.ka;have J:=I.ka;subst D;subst J;cases Y:K9 op with
  |true=>rw[Y] at e;exact Vw (.inl Y) e
  |false=>
   rw[Y,cN] at e;obtain⟨D,J⟩:=dM.1 e;exact Vw (.inr (fj D)) J
 ·rename_i a b;have D:=hx.nq;have J:=I.nq;subst D;subst J;have hg:(eqGuard op t x y (.string ⟨⟨a⟩⟩) (.string ⟨⟨b⟩⟩)).run P w=.ok () w:=by
   unfold eqGuard
   cases op<;>simp
  have go:∀v,(binOp op t (.string ⟨⟨a⟩⟩) (.string ⟨⟨b⟩⟩)).run P w=.ok v w->((do eqGuard op t x y (.string ⟨⟨a⟩⟩) (.string ⟨⟨b⟩⟩);binOp op t (.string ⟨⟨a⟩⟩) (.string ⟨⟨b⟩⟩)):Sem Value).run P w=.ok v w:=λv M=>by
   simp only[Sem.run_bind,hg,Result.andThen,M]
  split at e
  ·obtain⟨z,hz,e⟩:=eM.1 e;unfold cV at hz;split at hz
   ·simp at hz
   ·rename_i h0;simp only[cW] at hz;subst hz;refine⟨_,_,e,go (.string ⟨⟨a++b⟩⟩) ?_,λ_ _=>.s _ _,rfl⟩;have Y:∀l:List UInt8,(ByteArray.mk ⟨l⟩).size=l.length:=λl=>rfl;have D:¬ ((((ByteArray.mk ⟨a⟩).size+(ByteArray.mk ⟨b⟩).size:Nat):Int)>IntKind.i64.max):=by simpa only[Y] using h0
    have aa:(ByteArray.mk ⟨a⟩++ByteArray.mk ⟨b⟩)=ByteArray.mk ⟨a++b⟩:=by
     apply ByteArray.ext
     simp
    simp only[binOp,Op.stringOp,cK D,aa];rfl
  ·exact mN e (go _ (by simp[binOp,Op.stringOp,I4,dm,WH]))
  ·exact mN e (go _ (by simp[binOp,Op.stringOp,I4,dm,cD,bne,WH]))
  ·exact mN e (go _ (by simp[binOp,Op.stringOp,I4,PA]))
  ·simp at e
 ·rename_i a b;have D:=hx.oS;have J:=I.oS;subst D;subst J;have hb:C.cX t=.bool:=by
   cases N:C.cX t<;>rw[N] at F<;>first|rfl|(simp[Gt,jf] at F)
  have Q:=Ui (hC.ty t) hb;have A:(Op.equal t (.bool a) (.bool b)).run P w=.ok (a==b) w:=run_equalIn_bool' w 9999 t a b Q;split at e
  ·exact mN e (by simp[eqGuard,binOp,A,kq];rfl)
  ·exact mN e (by simp[eqGuard,binOp,A,kq,cD];rfl)
  ·simp at e
 ·rename_i a;have hi:C.cX t=.r8:=by
   cases N:C.cX t<;>rw[N] at F<;>first|rfl|(simp[Gt,jf] at F)
  obtain⟨ms,Q⟩:=aeM (hC.ty t) hi;have af:vy=.nilIface:=by cases I;rfl
  subst af;have ah:∃v,y=.const v:=by
   simp only[Gh,hi] at A
   split at A
   ·exact⟨_,rfl⟩
   ·simp at A
  obtain⟨v,rfl⟩:=ah;cases a with
  |true=>
   obtain⟨H,u,rfl⟩:∃H u,vx=.iface H u:=by cases hx;exact⟨_,_,rfl⟩
   have A:(Op.equal t (.iface H u) .nilIface).run P w=.ok false w:=Y8 9999 Q;split at e
   ·exact mN e (by simp[eqGuard,binOp,A,cD])
   ·exact mN e (by simp[eqGuard,binOp,A])
   ·simp at e
  |false=>
   obtain rfl:vx=.nilIface:=by cases hx;rfl
   have A:(Op.equal t .nilIface .nilIface).run P w=.ok true w:=Y9 9999 Q;split at e
   ·exact mN e (by simp[eqGuard,binOp,A,cD])
   ·exact mN e (by simp[eqGuard,binOp,A])
   ·simp at e
 ·rename_i cs ds;simp only[Gt] at F;split at F
  ·rename_i t' m' fs ab;obtain⟨gs,Q,hp,_,_⟩:=KI (hC.ty t) ab;simp only[Gh,ab,du,lj] at A;have ad:P.fieldsOf t=gs:=by simp[Program.fieldsOf,Q]
   cases hx with
   |agg _ _ S aj ak _ hx=>
   cases I with
   |agg _ _ U am an _ I=>
   have ae:∀q,js cs ds=some q->(Op.equalIn 10000 t (.agg S) (.agg U)).run P w=.ok q w:=λq hq=>by
    rw[run_equalIn_struct w 9999 t S U (by rw[ad];exact Q) A.1,ad]
    refine Ul hC S U 9998 fs gs.toList 0 cs ds q hp F (λj tv hj=>?_) (λj tv hj=>?_) hq
    ·have ai:=(eF.1 hj).1;have M:S[j]?=some (S[j]'(by omega)):=ju _;exact⟨_,_,_,by rw[ia];exact M,hx j tv _ hj M⟩
    ·have ai:=(eF.1 hj).1;have M:U[j]?=some (U[j]'(by omega)):=ju _;exact⟨_,_,_,by rw[ia];exact M,I j tv _ hj M⟩
   split at e
   ·rename_i q hq;exact mN e (by simp only[Sem.run_bind,run_eqGuard_agg w _ t x y S U A.2,Result.andThen,run_eql_struct,ae q hq])
   ·rename_i q hq;exact mN e (by simp only[Sem.run_bind,run_eqGuard_agg w _ t x y S U A.2,Result.andThen,run_neq_struct,ae q hq,cD])
   ·simp at e
  ·simp at F
 ·simp at e
end
section
variable{P:Program}{C:Cx}{E:Env}{nt n:Nat}{o:Oper}{s i:TS}{g:Gs}{a:Act}{w:World}{R:Type}{r:R}{K:TS->Option R}{Z:Rt->Prop}{γ1:Nat->G}{tv:TV}{v:Value}
theorem SK(hC:fK P C)(h:Rel C E s g w)(l:eb nt g a)(H:gN nt o.dst){op:BinOp}{t I:Nat}{x y:Operand}(D:o.op=.binOp op t x y I)(hx:fe nt x=true)(J:fe nt y=true)(M:Gh P C t y=true)(F:Ev.step C o s K=some r):
  gx P C E nt o g a w K r Z:=by
 simp only[Ev.step,D] at F;obtain⟨N,Q⟩:=dM.1 F;have e:=iF h l hx;have j:=iF h l J;obtain⟨v,tv,u,S,A,U⟩:=aeN (P:=P) (w:=w) (x:=x) (y:=y) hC e j M N Q;refine j8 h l H (A _ none) U ?_ u;simp only[execOp,D];have:=S;simp only[Sem.run_bind] at this⊢;rw[this];rfl
end
end
section
theorem pN{C:Cx}{E:Env}{s:TS}{g:Gs}{w:World}{p:Pl}{tv:TV}{v:Value}(h:Rel C E s g w)(j:(g.rc C w).va p=some v)(u:fQ C s p=some tv):tv=.un\/Rd (g.rc C w) (some (gp p)) tv v:=by
 rcases sS h u with e|⟨D,e,x,_⟩
 ·exact .inl e
 ·rw[j] at e;cases e;exact .inr x
theorem rf{P:Program}{e:Ty}{y:TypeId}(h:zf P e y=true):P.cellsOf y=cG e/\0<P.cellsOf y/\uZ P y=true/\j6 (Ev.enc false e (po e)) (lU P y)=true/\Gy P e y=true:=by
 simp only[zf,du,pE] at h;exact⟨h.1.1.1,by rw[h.1.1.1];exact Jq e,h.1.1.2,h.1.2,h.2⟩
section
variable{P:Program}{C:Cx}{w:World}{t y:TypeId}
theorem Y7(u:P.underlying t=some (.slice y))(x:0<P.cellsOf y){b off e cap:Nat}{n:Int}{k:IntKind}(D:0<=n)(F:n<e):
  (Instr.indexAt t (.slice (some ⟨b,off,none⟩) e cap) (.int k n)).run P w=.ok (.pointer (some ⟨b,off+n.toNat*P.cellsOf y,none⟩)) w:=by
 have j:=vK (P:=P) (w:=w) x;simp[Instr.indexAt,asIntOf,run_underlying u,D,F,j,Ie]
theorem Qt{e:Nat}(u:P.underlying t=some (.array e y))(x:0<P.cellsOf y){b off:Nat}{n:Int}{k:IntKind}(D:0<=n)(F:n<e):
  (Instr.indexAt t (.pointer (some ⟨b,off,none⟩)) (.int k n)).run P w=.ok (.pointer (some ⟨b,off+n.toNat*P.cellsOf y,none⟩)) w:=by
 have j:=vK (P:=P) (w:=w) x;simp[Instr.indexAt,asIntOf,run_underlying u,Instr.sureAddr,D,F,j,Ie]
theorem y6{t:Ty}(h:Ev.gk t=false)(d:Bool)(x:El t):∃tv,Ev.enc d t x=[tv]/\(∀c m,Rd c m tv (jE t x))/\dC tv=true/\gf tv=true/\(jE t x).oneCell'=true:=by
 cases t<;>simp[Ev.gk] at h
 ·exact⟨_,rfl,λ_ _=>.b _ _,rfl,rfl,rfl⟩
 ·exact⟨_,rfl,λ_ _=>.i _ _ _,rfl,rfl,rfl⟩
 ·exact⟨_,rfl,λ_ _=>.s _ _,rfl,rfl,rfl⟩
theorem Rd.Kc{c:Rc}{m:Option Gp}{t:Ty}{u:List (El t)}{x:El t}{b e n:Nat}{f:Nat->Nat->Value}(D:c.γ b=.im)(hx:u[n]?=some x)(F:∀(r:Nat)x(j:Nat)tv,u[r]?=some x->(enc false t x)[j]?=some tv->cellAt c.w b (e+r*cG t+j)=some (f r j)/\(f r j).oneCell'=true)(H:∀(r:Nat)x(j:Nat)tv,u[r]?=some x->(enc false t x)[j]?=some tv->Rd c none tv (f r j)):Rd c m (.ip (enc false t x) 0) (.pointer (some ⟨b,e+n*cG t,none⟩)):=.ip m _ 0 b _ (λj=>f n j) (yB false t x) D (λi tv hi=>F n x i tv hx hi) (λi tv hi=>H n x i tv hx hi)
end
section
variable{P:Program}{C:Cx}{E:Env}{nt n:Nat}{o:Oper}{s A:TS}{g:Gs}{a:Act}{w:World}{R:Type}{r:R}{K:TS->Option R}{Z:Rt->Prop}{γ1:Nat->G}{tv:TV}{v:Value}
theorem Qw(hC:fK P C)(h:Rel C E s g w)(l:eb nt g a)(hd:gN nt o.dst){t:Nat}{x i:Operand}(ho:o.op=.indexAddr t x i)(hx:fe nt x=true)(hi:fe nt i=true)(j:Ev.step C o s K=some r):gx P C E nt o g a w K r Z:=by
 simp only[Ev.step,ho] at j;obtain⟨J,j⟩:=dM.1 j;have H:=iF h l hx;have av:=iF h l hi;unfold tK at j;split at j
 ·rename_i k n ay;rw[ay] at av;have ao:=av.ka;have af:∀e sz fR,C.cX t=.sl e sz fR->∀{b off I cap:Nat}{p':TV},a.eval x=.slice (some ⟨b,off,none⟩) I cap->0<=n->n<I->(∃m,Rd (g.rc C w) m p' (.pointer (some ⟨b,off+n.toNat*cG e,none⟩)))->gf p'=true->K (dZ C s o.dst p')=some r->gx P C E nt o g a w K r Z:=by
   intro e sz fR D b off I cap p' am Q h1 ⟨m,hr⟩ ha j
   obtain⟨y,hu,ai,_,_⟩:=uR (hC.ty t) D
   obtain⟨aj,ak,_⟩:=rf ai
   refine j8 h l hd hr ha ?_ j
   simp only[execOp,ho,am,ao]
   have:=Y7 (w:=w) (k:=k) (cap:=cap) (b:=b) (off:=off) hu ak Q h1
   rw[aj] at this
   simp[this]
  split at j
  ·rename_i p t1 M;rw[M] at H J;obtain⟨e,sz,fR,D⟩:∃e sz fR,C.cX t=.sl e sz fR:=by
    cases N:C.cX t<;>rw[N] at J<;>first|exact⟨_,_,_,rfl⟩|simp[jf] at J
   simp only[D,TI.Xd] at j;obtain⟨tv,hg,j⟩:=oL j;have ah:VO (g.rc C w) p/\(g.rc C w).va p=some (a.eval x):=by generalize iK x=m at H;cases H;exact⟨by assumption,by assumption⟩
   have S:=pN h ah.2 hg;split at j
   ·rename_i d t2 xs;obtain⟨U,j⟩:=dM.1 j;have U:=fj U;subst U;obtain⟨z,F,j⟩:=eM.1 j;obtain⟨Q,F⟩:=lp.1 F;have ad:=(eF.1 F).1;rcases S with S|S
    ·simp at S
    rcases S.lu with⟨rfl,_⟩|⟨q,π,b,off,cap,cs,ee,fr,f,hm,hv,_⟩
    ·simp at F
    ·exact af _ _ _ D hv Q (by omega) ⟨none,by have:=Rd.ep (c:=g.rc C w) none p e n 0 b off xs.length cap ah.1 (by rw[ah.2,hv]) Q (by omega);simpa using this⟩ rfl j
   ·rename_i t2 xs r0 c0;obtain⟨U,j⟩:=dM.1 j;have U:=fj U;subst U;obtain⟨z,F,j⟩:=eM.1 j;obtain⟨Q,F⟩:=lp.1 F;have ad:=(eF.1 F).1;rcases S with S|S
    ·simp at S
    obtain⟨q,π,b,off,cap,cs,ee,fr,f,hm,hv,_⟩:=S.NQ;exact af _ _ _ D hv Q (by omega) ⟨none,by have:=Rd.ep (c:=g.rc C w) none p e n 0 b off xs.length cap ah.1 (by rw[ah.2,hv]) Q (by omega);simpa using this⟩ rfl j
   ·rename_i t2 xs;obtain⟨U,j⟩:=dM.1 j;have U:=fj U;subst U;obtain⟨z,F,j⟩:=eM.1 j;obtain⟨Q,F⟩:=lp.1 F;have ad:=(eF.1 F).1;rcases S with S|S
    ·simp at S
    rcases S.qy with⟨rfl,_⟩|⟨b,off,cap,f,hv,_,Y,hc,hr⟩
    ·simp at F
    ·exact af _ _ _ D hv Q (by omega) ⟨none,Rd.Kc Y F hc hr⟩ rfl j
   ·simp at j
  ·rename_i p t1 lo an M;rw[M] at H J;obtain⟨e,sz,fR,D⟩:∃e sz fR,C.cX t=.sl e sz fR:=by
    cases N:C.cX t<;>rw[N] at J<;>first|exact⟨_,_,_,rfl⟩|simp[jf] at J
   rw[D] at J;simp only[jf,dF] at J;subst J;obtain⟨tv,hg,j⟩:=oL j;obtain⟨aa,I,cap,a',ae,ah,am,aw,h1,h2,h3,h4,h5,h6⟩:∃aa I cap a' ae,VO (g.rc C w) p/\(g.rc C w).va p=some (.slice aa I cap)/\a.eval x=.slice a' (an.toNat-lo.toNat) ae/\0<=lo/\lo<=an/\an<=(I:Int)/\
     (ae=0\/∃b o,aa=some ⟨b,o,none⟩/\a'=some ⟨b,o+lo.toNat*cG e,none⟩)/\an.toNat-lo.toNat<=ae/\ae+lo.toNat<=cap:=by
    generalize iK x=m at H
    generalize a.eval x=u at H
    cases H;exact⟨_,_,_,_,_,by assumption,by assumption,rfl,by assumption,by assumption,by assumption,by assumption,by assumption,by assumption⟩
   have S:=pN h am hg;split at j
   ·rename_i d t2 xs;obtain⟨U,ap⟩:=dM.1 j;have U:=fj U;clear j;subst U;obtain⟨ys,aq,j⟩:=eM.1 ap;obtain⟨⟨_,_,h9⟩,rfl⟩:=sJ.1 aq;obtain⟨z,F,j⟩:=eM.1 j;obtain⟨Q,F⟩:=lp.1 F;have ad:=(eF.1 F).1;simp only[kh,mF] at ad;rcases h4 with h4|⟨b,off,rfl,rfl⟩
    ·omega
    refine af _ _ _ D aw Q (by omega) ⟨none,?_⟩ rfl j;have:=Rd.ep (c:=g.rc C w) none p t2 (lo+n) 0 b off I cap ah am (by omega) (by omega);rw[show(lo+n).toNat=lo.toNat+n.toNat by omega,jv] at this;simpa[oX,oA] using this
   ·rename_i t2 xs;obtain⟨U,ap⟩:=dM.1 j;have U:=fj U;clear j;subst U;obtain⟨ys,aq,j⟩:=eM.1 ap;obtain⟨⟨_,_,h9⟩,rfl⟩:=sJ.1 aq;obtain⟨z,F,j⟩:=eM.1 j;obtain⟨Q,F⟩:=lp.1 F;have ad:=(eF.1 F).1;simp only[kh,mF] at ad;rcases h4 with h4|⟨b,off,rfl,rfl⟩
    ·omega
    rcases S with S|S
    ·simp at S
    rcases S.qy with⟨rfl,_⟩|⟨b',aF,aG,f,hv,_,Y,hc,hr⟩
    ·simp at F
    ·simp only[Value.slice.injEq,cW,Addr.mk.injEq,jg] at hv;obtain⟨⟨rfl,rfl⟩,rfl,rfl⟩:=hv;have az:xs[lo.toNat+n.toNat]?=some z:=by
      rw[oz] at F
      split at F
      ·rwa[vp] at F
      ·simp at F
     refine af _ _ _ D aw Q (by omega) ⟨none,?_⟩ rfl j;have:=Rd.Kc (m:=none) Y az hc hr;rwa[jv,<-oA] at this
   ·simp at j
  ·rename_i t2 xs M;rw[M] at H J;obtain⟨e,sz,fR,D⟩:∃e sz fR,C.cX t=.sl e sz fR:=by
    cases N:C.cX t<;>rw[N] at J<;>first|exact⟨_,_,_,rfl⟩|simp[jf] at J
   rw[D] at J;simp only[jf,dF] at J;subst J;obtain⟨z,F,j⟩:=eM.1 j;obtain⟨Q,F⟩:=lp.1 F;have ad:=(eF.1 F).1;rcases H.qy with⟨rfl,_⟩|⟨b,off,cap,f,hv,_,Y,hc,hr⟩
   ·simp at F
   ·exact af _ _ _ D hv Q (by omega) ⟨none,Rd.Kc Y F hc hr⟩ rfl j
  ·rename_i t2 xs M;rw[M] at H J;obtain⟨e,sz,fR,D⟩:∃e sz fR,C.cX t=.sl e sz fR:=by
    cases N:C.cX t<;>rw[N] at J<;>first|exact⟨_,_,_,rfl⟩|simp[jf] at J
   rw[D] at J;simp only[jf,dF] at J;subst J;obtain⟨z,F,j⟩:=eM.1 j;obtain⟨Q,F⟩:=lp.1 F;have ad:=(eF.1 F).1;rcases H.Js with⟨rfl,_⟩|⟨b,off,f,hv,Y,hc,hr⟩
   ·simp at F
   ·exact af _ _ _ D hv Q (by omega) ⟨none,Rd.Kc Y F hc hr⟩ rfl j
  ·rename_i k1 c1 M;rw[M] at H J;obtain⟨I,e,D⟩:∃I e,C.cX t=.ar I e:=by
    cases N:C.cX t<;>rw[N] at J<;>first|exact⟨_,_,rfl⟩|simp[jf] at J
   obtain⟨y,hu,ai,h1,_,_,_⟩:=F4 (hC.ty t) D;obtain⟨aj,ak,_⟩:=rf ai;split at j
   ·rename_i t2 xs hb;obtain⟨_,j⟩:=dM.1 j;obtain⟨au,j⟩:=dM.1 j;have au:=gw au;subst au;obtain⟨_,ab,j⟩:=eM.1 j;have ab:=lR.1 ab;simp only[cA,D,TI.len,dF] at ab;obtain⟨z,F,j⟩:=eM.1 j;obtain⟨Q,_⟩:=lp.1 F;have hv:a.eval x=.pointer (some ⟨g.bx k1,0,none⟩):=by generalize iK x=m at H;generalize a.eval x=u at H;cases H;rfl
    refine j8 h l hd (Rd.pe none k1 n Q) rfl ?_ j;have:=Qt (P:=P) (w:=w) (k:=k) (b:=g.bx k1) (off:=0) hu ak Q ab;rw[aj,h1] at this;simp only[execOp,ho,hv,ao];simp at this;simp[this,Gs.rc]
   ·simp at j
  ·rename_i t2 xs M;rw[M] at H J;obtain⟨I,e,D⟩:∃I e,C.cX t=.ar I e:=by
    cases N:C.cX t<;>rw[N] at J<;>first|exact⟨_,_,rfl⟩|simp[jf] at J
   obtain⟨y,hu,ai,h1,_,_,_⟩:=F4 (hC.ty t) D;obtain⟨aj,ak,_⟩:=rf ai;obtain⟨_,ab,j⟩:=eM.1 j;have ab:=lR.1 ab;simp only[cA,D,TI.len,dF] at ab;obtain⟨z,F,j⟩:=eM.1 j;obtain⟨Q,F⟩:=lp.1 F;obtain⟨b,off,hv,Y,aA,aB⟩:∃b off,a.eval x=.pointer (some ⟨b,off,none⟩)/\(g.rc C w).γ b=.im/\Ev.gk t2=false/\(∀(r:Nat)x,xs[r]?=some x->cellAt (g.rc C w).w b (off+r)=some (jE t2 x)):=by
    generalize iK x=m at H
    generalize a.eval x=u at H
    cases H;exact⟨_,_,rfl,by assumption,by assumption,by assumption⟩
   obtain⟨tv,ax,aC,aH,_,aD⟩:=y6 aA false z;refine j8 h l hd (Rd.ip none (enc false t2 z) 0 b (off+n.toNat) (λ_=>jE t2 z) (yB false t2 z) Y (λi aE hi=>?_) (λi aE hi=>?_)) rfl ?_ j
   ·rw[ax] at hi;cases i with
    |zero=>exact⟨aB _ _ F,aD⟩
    |succ i=>simp at hi
   ·rw[ax] at hi;cases i with
    |zero=>simp at hi;subst hi;exact aC _ _
    |succ i=>simp at hi
   ·have:=Qt (P:=P) (w:=w) (k:=k) (b:=b) (off:=off) hu ak Q ab;rw[aj,h1] at this;simp only[execOp,ho,hv,ao];simp at this;simp[this]
  ·simp at j
 ·simp at j
end
end
section
section
variable{P:Program}{C:Cx}{w:World}{t:TypeId}
theorem run_load(hC:fK P C)(x:(C.cX t).var=true){b e:Nat}{vs:List Value}(A:vs.length=(C.cX t).sz)(F:∀(j:Nat)v,vs[j]?=some v->cellAt w b (e+j)=some v):
  (loadVar t ⟨b,e,none⟩).run P w=.ok (if(C.cX t).ag=true then .agg vs.toArray else vs[0]?.getD undef) w:=by
 obtain⟨J,N,H,⟨d,I⟩,_⟩:=pR (hC.ty t) x;have u:∀j,(⟨b,e,none⟩:Addr).add j=⟨b,e+j,none⟩:=λj=>by unfold Addr.add;split<;>simp_all
 cases D:(C.cX t).ag with
 |true=>
  have:=run_loadCells_list (P:=P) w ⟨b,e,none⟩ vs (λj v x=>by rw[u];exact F j v x);rw[A,<-J] at this;simp[loadVar,Ba I,H,D,vK (P:=P) (w:=w) (t:=t) (by omega),this]
 |false=>
  have M:=KH _ D;rw[M] at A
  match vs,A with
  |[v],_=>
   have:=F 0 v rfl;simp at this;simp[loadVar,Ba I,H,D,this]
theorem Rd.rM{c:Rc}{ag:Bool}{e:List TV}{vs:List Value}(x:vs.length=e.length)(F:ag=false->e.length=1)(H:∀tv∈e,kg tv=true)(I:∀v∈vs,v.oneCell'=true)
  (A:∀(j:Nat)tv v,e[j]?=some tv->vs[j]?=some v->∀m,Rd c m tv v)(m:Option Gp):Rd c m (Ev.rM ag e) (if ag=true then .agg vs.toArray else vs[0]?.getD undef):=by
 cases ag with
 |true=>
  simp only[Ev.rM,cL,gr];refine .agg _ _ _ H (by simpa using x) (λj tv v D u=>?_) (λj tv v D u=>?_)
  ·exact I v (ahY (by simpa using u))
  ·exact A j tv v D (by simpa using u) _
 |false=>
  have:=F rfl
  match e,vs,this,x with
  |[tv],[v],_,_=>exact A 0 tv v rfl rfl m
theorem Ei(f:Nat->Pl):∀(e:List TV)(j i:Nat),(rL f j e)[i]?=(e[i]?).map (Ev.viewAt (f (j+i)))
 |[],_,_=>by simp[rL]
 |c::e,j,0=>by simp[rL]
 |c::e,j,i+1=>by
  simp only[rL,Yv];rw[Ei f e (j.succ) i,show j.succ+i=j+(i+1) by omega]
theorem Ej(f:Nat->Pl):∀(e:List TV)(j:Nat),(rL f j e).length=e.length
 |[],_=>rfl
 |c::e,j=>by simp[rL,Ej f e]
theorem Q3{p:Pl}{tv:TV}(h:jy tv=true):kg (Ev.viewAt p tv)=true:=by
 cases tv<;>simp_all [jy,Ev.viewAt,kg,fy,dC]
theorem RH{c:Rc}{m:Option Gp}{p:Pl}{tv:TV}{v:Value}(h:Rd c m tv v)(x:jy tv=true)(e:VO c p)(j:c.va p=some v)(u:Option Gp):Rd c u (Ev.viewAt p tv) v:=by
 cases tv<;>first
  |exact .vw _ _ _ _ e j
  |(exact h.anyM rfl u)
  |(simp[jy,fy,dC] at x)
theorem rb{tv:TV}(h:dC tv=true):jy tv=true:=by simp[jy,fy,h]
theorem Br{tv:TV}(h:dC tv=true):kg tv=true:=by simp[kg,fy,h]
theorem oI{e:Type}{l:List e}{c n j:Nat}{x:e}(h:((l.drop c).take n)[j]?=some x):l[c+j]?=some x/\j<n:=by
 rw[oz] at h;split at h
 ·rw[vp] at h;exact⟨h,by assumption⟩
 ·simp at h
end
section
variable{P:Program}{C:Cx}{E:Env}{nt n:Nat}{o:Oper}{s y:TS}{g:Gs}{a:Act}{w:World}{R:Type}{r:R}{K:TS->Option R}{Z:Rt->Prop}{γ1:Nat->G}{tv:TV}{v:Value}
theorem aeO(hC:fK P C)(h:Rel C E s g w){t:Nat}(ad:(C.cX t).var=true){p:TV}{u:Value}{m:Option Gp}{K:TV->Option R}(hp:Rd (g.rc C w) m p u)(D:tJ C s (C.cX t).sz (C.cX t).ag p K=some r):
  ∃b F v tv,u=.pointer (some ⟨b,F,none⟩)/\K tv=some r/\(loadVar t ⟨b,F,none⟩).run P w=.ok v w/\∀m,Rd (g.rc C w) m tv v:=by
 have aL:=(pR (hC.ty t) ad).2.1;have ae:∀{b F:Nat}{cs:List TV}{vs:List Value},cs.length=(C.cX t).sz->vs.length=cs.length->(∀tv∈cs,kg tv=true)->(∀v∈vs,v.oneCell'=true)->(∀(j:Nat)tv v,cs[j]?=some tv->vs[j]?=some v->∀m,Rd (g.rc C w) m tv v)->
   (∀(j:Nat)v,vs[j]?=some v->cellAt w b (F+j)=some v)->K (Ev.rM (C.cX t).ag cs)=some r->u=.pointer (some ⟨b,F,none⟩)->
   ∃b F v tv,u=.pointer (some ⟨b,F,none⟩)/\K tv=some r/\(loadVar t ⟨b,F,none⟩).run P w=.ok v w/\∀m,Rd (g.rc C w) m tv v:=λM ax hT ho hr hc D hu=>
  ⟨_,_,_,_,hu,D,run_load hC ad (by rw[ax,M]) hc,λm=>Rd.rM ax (λha=>by rw[M];exact KH _ ha) hT ho hr m⟩
 have ay:∀{b F:Nat}{t':Ty}{U:List (El t')},Ev.gk t'=false->(C.cX t).ag=true->(U.length:Int)=(C.cX t).sz->(∀(j:Nat)x,U[j]?=some x->cellAt w b (F+j)=some (jE t' x))->K (.vec t' U)=some r->u=.pointer (some ⟨b,F,none⟩)->
   ∃b F v tv,u=.pointer (some ⟨b,F,none⟩)/\K tv=some r/\(loadVar t ⟨b,F,none⟩).run P w=.ok v w/\∀m,Rd (g.rc C w) m tv v:=λ{b F t' U}Y ha M hc D hu=>by
  refine⟨_,_,_,_,hu,D,run_load hC ad (vs:=U.map (jE t')) (by simp;omega) (λj v A=>?_),λm=>?_⟩
  ·rw[hV] at A;cases hx:U[j]? with
   |none=>simp[hx] at A
   |some x=>simp only[hx,jc,cW] at A;subst A;exact hc j x hx
  ·rw[cJ ha];exact .vec _ _ _ Y
 unfold tJ at D;split at D
 ·rename_i k c;have hu:u=.pointer (some ⟨g.bx k,c,none⟩):=by cases hp;rfl
  have aa:=h.boxes k;split at D
  ·rename_i cs hb;obtain⟨I,D⟩:=dM.1 D;have I:=uq.1 I;rw[hb] at aa;obtain⟨vs,e,fr,hh,aj,hg,M,hT,hr⟩:=aa;have af:w.heap[g.bx k]?=some (.cells vs e fr):=hh;have ah:∀j v,vs[j]?=some v->cellAt w (g.bx k) j=some v:=λj v A=>by simp[cellAt,World.cell?,af,A]
   rw[yL,yM] at D;refine ae (cs:=rL (λj=>.cell k (Nat.add c j)) 0 ((cs.drop c).take (C.cX t).sz)) (vs:=(vs.toList.drop c).take (C.cX t).sz) ?_ ?_ ?_ ?_ ?_ ?_ D hu
   ·rw[Ej];simp;omega
   ·rw[Ej];simp;omega
   ·intro tv N;obtain⟨i,hi⟩:=qo N;rw[Ei] at hi;simp only[xE] at hi;obtain⟨ai,hi,rfl⟩:=hi;exact Q3 (hT ai (eT (oI hi).1))
   ·intro v H;obtain⟨i,hi⟩:=qo H;have:=(oI hi).1;have ak:c+i<cs.length:=by have:=(eF.1 this).1;simp at this;omega
    exact(hr (c+i) _ v (eA ak) (by simpa using this)).1
   ·intro j tv v A H m;rw[Ei] at A;simp only[xE] at A;obtain⟨ai,A,rfl⟩:=A;have h1:=(oI A).1;have h2:vs[c+j]?=some v:=by simpa using(oI H).1
    refine RH (p:=.cell k (Nat.add c (0+j))) (hr _ _ _ h1 h2).2 (hT _ (eT h1)) hg ?_ m;simp only[Gs.rc,va,ia];exact ah _ _ h2
   ·intro j v A;exact ah _ _ (by simpa using(oI A).1)
  ·rename_i t' U hb;obtain⟨ha,D⟩:=dM.1 D;obtain⟨am,D⟩:=dM.1 D;have am:=gw am;subst am;obtain⟨_,ab,D⟩:=eM.1 D;have ab:(U.length:Int)=(C.cX t).sz:=fj (lR.1 ab);rw[hb] at aa;obtain⟨vs,e,fr,hh,aj,hg,Y,M⟩:=aa;have af:w.heap[g.bx k]?=some (.cells vs e fr):=hh;refine ay Y ha ab (λj x A=>?_) D hu;have:vs[j]?=some (jE t' x):=by rw[<-lG,M,hV,A];rfl
   simp[cellAt,World.cell?,af,this]
  ·simp at D
 ·rename_i k i;have aa:=h.boxes k;split at D
  ·rename_i t' U hb;obtain⟨x,hx,D⟩:=eM.1 D;obtain⟨h0,hx⟩:=lp.1 hx;have hu:u=.pointer (some ⟨g.bx k,i.toNat,none⟩):=by cases hp;rfl
   cases ha:(C.cX t).ag with
   |true=>rw[ha] at D;simp at D
   |false=>
    rw[ha,cN] at D;rw[hb] at aa;obtain⟨vs,e,fr,hh,aj,hg,Y,M⟩:=aa;have af:w.heap[g.bx k]?=some (.cells vs e fr):=hh;obtain⟨tv,N,aD,an,_,aE⟩:=y6 Y false x;have H:vs[i.toNat]?=some (jE t' x):=by rw[<-lG,M,hV,hx];rfl
    refine ae (cs:=[tv]) (vs:=[jE t' x]) (by simp[KH _ ha]) rfl (by simp[Br an]) (by simp[aE]) (λj ai v A H=>?_) (λj v A=>?_) (by rw[N] at D;simpa[ha,Ev.rM] using D) hu
    ·cases j with
     |zero=>simp at A H;subst A;subst H;exactλm=>aD _ m
     |succ j=>simp at A
    ·cases j with
     |zero=>simp at A;subst A;simp[cellAt,World.cell?,af,H]
     |succ j=>simp at A
  ·simp at D
 ·rename_i p t0 i c;obtain⟨tv,hg,D⟩:=oL D;obtain⟨b,o,ao,ap,aF,aq,h0,ak,hu⟩:∃b o ao ap,VO (g.rc C w) p/\(g.rc C w).va p=some (.slice (some ⟨b,o,none⟩) ao ap)/\0<=i/\i<(ao:Int)/\u=.pointer (some ⟨b,o+i.toNat*cG t0+c,none⟩):=by
   cases hp;exact⟨_,_,_,_,by assumption,by assumption,by assumption,by assumption,rfl⟩
  have M:=pN h aq hg;split at D
  ·rename_i d t' U;obtain⟨ht,au⟩:=dM.1 D;have ht:=fj ht;clear D;subst ht;obtain⟨x,hx,D⟩:=eM.1 au;obtain⟨_,hx⟩:=lp.1 hx;obtain⟨I,D⟩:=dM.1 D;have I:=uq.1 I;rw[yL,yM] at D;rcases M with M|M
   ·simp at M
   rcases M.lu with⟨rfl,_⟩|⟨q,π,b',o',az,cs,e,fr,f,hm,H,aG,av,hh,aj,hs,hc,hr⟩
   ·simp at hx
   simp only[Value.slice.injEq,cW,Addr.mk.injEq,jg] at H;obtain⟨⟨rfl,rfl⟩,rfl,rfl⟩:=H;have aA:=gV d t' x;refine ae (cs:=rL (λj=>.sub p t' i (Nat.add c j)) 0 (((enc d t' x).drop c).take (C.cX t).sz)) (vs:=(List.range (C.cX t).sz).map λj=>f i.toNat (c+j)) ?_ ?_ ?_ ?_ ?_ ?_ D hu
   ·rw[Ej];simp;omega
   ·rw[Ej];simp;omega
   ·intro tv N;obtain⟨j,A⟩:=qo N;rw[Ei] at A;simp only[xE] at A;obtain⟨ai,A,rfl⟩:=A;exact Q3 (rb (fN (oI A).1))
   ·intro v H;simp only[gR,xG] at H;obtain⟨j,A,rfl⟩:=H;exact(hc _ x (c+j) _ hx (eA (by omega))).2
   ·intro j tv v A H m;rw[Ei] at A;simp only[xE] at A;obtain⟨ai,A,rfl⟩:=A;obtain⟨h1,h2⟩:=oI A;rw[hV,zR h2] at H;simp only[jc,cW] at H;subst H;have aH:=hc _ x (c+j) _ hx h1;have aB:c+j<cG t':=by have:=(eF.1 h1).1;rwa[aA] at this
    refine RH (p:=.sub p t' i (Nat.add c (0+j))) (hr _ x (c+j) _ hx h1) (rb (fN h1)) ⟨aF,λb2 o2 aJ aK aw=>?_⟩ ?_ m
    ·rw[aq] at aw;simp only[cW,Value.slice.injEq,Addr.mk.injEq,jg] at aw;obtain⟨⟨rfl,_⟩,_⟩:=aw;simp only[cW] at hm;rw[hm];exact .inr av
    ·have aC:va C.vs g.tm g.bx w p=some (.slice (some ⟨b,o,none⟩) U.length ap):=aq;simp only[Gs.rc,va,aC];rw[cJ ⟨h0,ak,by simpa using aB⟩];have:=aH.1;simp only[ia];exact this
   ·intro j v A;rw[hV] at A;cases J:(List.range (C.cX t).sz)[j]? with
    |none=>simp[J] at A
    |some j'=>
     obtain⟨Q,S⟩:=eF.1 J;simp at Q S;subst S;rw[J] at A;simp only[jc,cW] at A;subst A;have:=(hc _ x (c+j) _ hx (eA (by omega))).1;rw[oA];exact this
  ·rename_i t' U;obtain⟨ht,au⟩:=dM.1 D;have ht:=fj ht;clear D;subst ht;obtain⟨x,hx,D⟩:=eM.1 au;obtain⟨_,hx⟩:=lp.1 hx;obtain⟨I,D⟩:=dM.1 D;have I:=uq.1 I;rw[yL,yM] at D;rcases M with M|M
   ·simp at M
   rcases M.qy with⟨rfl,_⟩|⟨b',o',az,f,H,aG,av,hc,hr⟩
   ·simp at hx
   simp only[Value.slice.injEq,cW,Addr.mk.injEq,jg] at H;obtain⟨⟨rfl,rfl⟩,rfl,rfl⟩:=H;have aA:=gV false t' x;refine ae (cs:=((enc false t' x).drop c).take (C.cX t).sz) (vs:=(List.range (C.cX t).sz).map λj=>f i.toNat (c+j)) ?_ ?_ ?_ ?_ ?_ ?_ D hu
   ·simp;omega
   ·simp;omega
   ·intro tv N;obtain⟨j,A⟩:=qo N;exact Br (fN (oI A).1)
   ·intro v H;simp only[gR,xG] at H;obtain⟨j,A,rfl⟩:=H;exact(hc _ x (c+j) _ hx (eA (by omega))).2
   ·intro j tv v A H m;obtain⟨h1,h2⟩:=oI A;rw[hV,zR h2] at H;simp only[jc,cW] at H;subst H;exact(hr _ x (c+j) _ hx h1).lift m
   ·intro j v A;rw[hV] at A;cases J:(List.range (C.cX t).sz)[j]? with
    |none=>simp[J] at A
    |some j'=>
     obtain⟨Q,S⟩:=eF.1 J;simp at Q S;subst S;rw[J] at A;simp only[jc,cW] at A;subst A;have:=(hc _ x (c+j) _ hx (eA (by omega))).1;rw[oA];exact this
  ·simp at D
 ·rename_i cs c;obtain⟨I,D⟩:=dM.1 D;have I:=uq.1 I;rw[yL,yM] at D;obtain⟨b,o,f,hu,an,av,hc,hr⟩:∃b o,∃f:Nat->Value,u=.pointer (some ⟨b,o+c,none⟩)/\(∀tv∈cs,dC tv=true)/\(g.rc C w).γ b=.im/\(∀(i:Nat)tv,cs[i]?=some tv->cellAt (g.rc C w).w b (o+i)=some (f i)/\(f i).oneCell'=true)/\(∀(i:Nat)tv,cs[i]?=some tv->Rd (g.rc C w) none tv (f i)):=by
   cases hp with
   |ip _ _ _ b o f h1 h2 h3 h4=>exact⟨b,o,f,rfl,h1,h2,h3,h4⟩
  refine ae (cs:=(cs.drop c).take (C.cX t).sz) (vs:=(List.range (C.cX t).sz).map λj=>f (c+j)) ?_ ?_ ?_ ?_ ?_ ?_ D hu
  ·simp;omega
  ·simp;omega
  ·intro tv N;obtain⟨j,A⟩:=qo N;exact Br (an tv (eT (oI A).1))
  ·intro v H;simp only[gR,xG] at H;obtain⟨j,A,rfl⟩:=H;exact(hc (c+j) _ (eA (by omega))).2
  ·intro j tv v A H m;obtain⟨h1,h2⟩:=oI A;rw[hV,zR h2] at H;simp only[jc,cW] at H;subst H;exact(hr (c+j) _ h1).lift m
  ·intro j v A;rw[hV] at A;cases J:(List.range (C.cX t).sz)[j]? with
   |none=>simp[J] at A
   |some j'=>
    obtain⟨Q,S⟩:=eF.1 J;simp at Q S;subst S;rw[J] at A;simp only[jc,cW] at A;subst A;have:=(hc (c+j) _ (eA (by omega))).1;rw[oA];exact this
 ·rename_i t' U;obtain⟨ha,D⟩:=dM.1 D;obtain⟨_,ab,D⟩:=eM.1 D;have ab:(U.length:Int)=(C.cX t).sz:=fj (lR.1 ab);obtain⟨b,F,H,aM,Y,aI⟩:∃b F,u=.pointer (some ⟨b,F,none⟩)/\(g.rc C w).γ b=.im/\Ev.gk t'=false/\(∀(r:Nat)x,U[r]?=some x->cellAt (g.rc C w).w b (F+r)=some (jE t' x)):=by
   cases hp;exact⟨_,_,rfl,by assumption,by assumption,by assumption⟩
  exact ay Y ha ab aI D H
 ·simp at D
theorem Um(hC:fK P C)(h:Rel C E s g w)(l:eb nt g a)(F:gN nt o.dst){t:Nat}{x:Operand}(D:o.op=.load t x)(hx:fe nt x=true)(j:Ev.step C o s K=some r):gx P C E nt o g a w K r Z:=by
 simp only[Ev.step,D] at j;obtain⟨e,j⟩:=dM.1 j;obtain⟨b,H,v,tv,I,u,J,A⟩:=aeO (P:=P) hC h e (iF h l hx) j;exact qz (n:=0) (γ1:=g.γ) h (.refl _) h.cI.new l F (A _) (by simp[execOp,D,Instr.loadAt,I,Instr.sureAddr,J]) u
end
end
section
section
variable{P:Program}{C:Cx}{E:Env}{nt n:Nat}{o:Oper}{s A:TS}{g:Gs}{a:Act}{w:World}{R:Type}{r:R}{K:TS->Option R}{Z:Rt->Prop}{γ1:Nat->G}{tv:TV}{v:Value}
theorem adq{ft:Nat}(hC:fK P C)(x:(C.cX ft).var=true){j:Array Value}{e:Nat}{u:Value}(y:(C.cX ft).ag=false)(D:j[e]?=some u):(part ft j e).run P w=.ok u w:=by
 obtain⟨I,J,F,⟨d,H⟩,_⟩:=pR (hC.ty ft) x;simp[part,Ba H,F,y,D]
theorem SL(hC:fK P C)(h:Rel C E s g w)(l:eb nt g a)(hd:gN nt o.dst){t:Nat}{x i:Operand}(ho:o.op=.index t x i)(hx:fe nt x=true)(hi:fe nt i=true)(j:Ev.step C o s K=some r):gx P C E nt o g a w K r Z:=by
 simp only[Ev.step,ho] at j;obtain⟨ht,j⟩:=dM.1 j;have y:=iF h l hx;have D:=iF h l hi;split at j
 ·rename_i b k n h1 h2;rw[h1] at y ht;rw[h2] at D;have I:=y.nq;have J:=D.ka;have af:C.cX t=.str:=by cases M:C.cX t<;>rw[M] at ht<;>first|rfl|(simp[jf] at ht)
  have hu:=uF (hC.ty t) af;obtain⟨c,N,j⟩:=eM.1 j;unfold iq at N;split at N
  ·rename_i h0;simp only[xE] at N;obtain⟨c,N,rfl⟩:=N;obtain⟨ah,ai⟩:=eF.1 N;have ab:(ByteArray.mk ⟨b⟩)[n.toNat]?=some c:=by
    have F:n.toNat<(ByteArray.mk ⟨b⟩).size:=ah
    rw[getElem?_pos (ByteArray.mk ⟨b⟩) n.toNat F,<-ai]
    rfl
   exact j8 h l hd (.i none _ _) rfl (by simp[execOp,ho,I,J,Instr.index,asIntOf,run_underlying hu,h0,ab]) j
  ·simp at N
 ·rename_i H xs k n h1 h2;rw[h1] at y ht;rw[h2] at D;have J:=D.ka;obtain⟨Q,e,ad⟩:∃Q e,C.cX t=.ar Q e:=by
   cases M:C.cX t<;>rw[M] at ht<;>first|exact⟨_,_,rfl⟩|simp[jf] at ht
  obtain⟨et,hu,S,h3,aj,_,_⟩:=F4 (hC.ty t) ad;obtain⟨ak,am,_⟩:=rf S;obtain⟨_,U,j⟩:=eM.1 j;have U:n<(Q:Int):=by have:=fj (lR.1 U);rwa[ad] at this
  obtain⟨z,hz,j⟩:=eM.1 j;obtain⟨h0,hz⟩:=lp.1 hz;cases ha:Ev.gk H with
  |true=>rw[ha] at j;simp at j
  |false=>
   rw[ha,cN] at j;obtain⟨tv,an,ao,ap,ae,aq⟩:=y6 ha false z;have I:a.eval x=.agg (xs.map (jE H)).toArray:=by generalize iK x=m at y;generalize a.eval x=u at y;cases y;rfl
   have hv:(xs.map (jE H)).toArray[n.toNat]?=some (jE H z):=by simp[hz]
   have F:=vK (P:=P) (w:=w) am;rw[ak,h3] at F;rw[an] at j;have Y:(part et (xs.map (jE H)).toArray n.toNat).run P w=.ok (jE H z) w:=by
    have aa:∃d,P.underlying et=some d:=by
     simp only[zf,du] at S
     have:=S.2
     unfold Gy at this
     split at this<;>first|exact⟨_,by assumption⟩|simp at this
    obtain⟨d,aa⟩:=aa
    have au:(Array.map (jE H) xs.toArray)[n.toNat]?=some (jE H z):=by simpa using hv
    simp[part,Ba aa,aj,hz]
   refine j8 h l hd (ao _ none) ae ?_ j;simp only[execOp,ho,I,J];simp[Instr.index,asIntOf,run_underlying hu,h0,U,F];rw[Y];rfl
 ·simp at j
theorem Vx(h:Rel C E s g w)(l:eb nt g a)(I:gN nt o.dst){J:Array TypeId}{x y:Operand}(H:o.op=.call ⟨.builtin .min,#[x,y],J⟩)(hx:fe nt x=true)(M:fe nt y=true)(u:Ev.step C o s K=some r):
  gx P C E nt o g a w K r Z:=by
 have e:=iF h l hx;have j:=iF h l M;simp only[Ev.step,H] at u;split at u
 ·rename_i k n S m N Q;rw[N] at e;rw[Q] at j;have D:=e.ka;have F:=j.ka;exact j8 (v:=.int k (if m<n then m else n)) h l I (.i none k (zp n m)) rfl (by simp[execOp,H,resolve,invoke,builtin,Builtin.min_,Builtin.min2,D,F]) u
 ·simp at u
theorem Vy(h:Rel C E s g w)(l:eb nt g a)(I:gN nt o.dst){J:Array TypeId}{x y:Operand}(H:o.op=.call ⟨.builtin .max,#[x,y],J⟩)(hx:fe nt x=true)(M:fe nt y=true)(u:Ev.step C o s K=some r):
  gx P C E nt o g a w K r Z:=by
 have e:=iF h l hx;have j:=iF h l M;simp only[Ev.step,H] at u;split at u
 ·rename_i k n S m N Q;rw[N] at e;rw[Q] at j;have D:=e.ka;have F:=j.ka;exact j8 (v:=.int k (if m>n then m else n)) h l I (.i none k (imax n m)) rfl (by simp[execOp,H,resolve,invoke,builtin,Builtin.max_,Builtin.max2,D,F]) u
 ·simp at u
theorem Vz(hC:fK P C)(h:Rel C E s g w)(l:eb nt g a)(hd:gN nt o.dst){t:Nat}{ts:List Nat}{x:Operand}(N:o.op=.call ⟨.builtin .len,#[x],⟨t::ts⟩⟩)(hx:fe nt x=true)(F:Ev.step C o s K=some r):gx P C E nt o g a w K r Z:=by
 simp only[Ev.step,N] at F;obtain⟨U,F⟩:=dM.1 F;have y:=iF h l hx;have aa:∀n,K (dZ C s o.dst (.i .i64 n))=some r->(Builtin.len_ ⟨t::ts⟩ o.type #[a.eval x]).run P w=.ok (.int .i64 n) w->gx P C E nt o g a w K r Z:=λn F hr=>
  j8 h l hd (.i none .i64 n) rfl (by simp[execOp,N,resolve,invoke,builtin,hr]) F
 have I:∀{va:Option Addr}{Q H:Nat},(∃e sz fR,C.cX t=.sl e sz fR)->a.eval x=.slice va Q H->K (dZ C s o.dst (.i .i64 (Q:Int)))=some r->gx P C E nt o g a w K r Z:=λ{va Q H}⟨e,sz,fR,D⟩J F=>by
  obtain⟨et,hu,_⟩:=uR (hC.ty t) D
  exact aa _ F (by simp[Builtin.len_,run_underlying hu,J,goInt])
 have Y:(∀b,cZ C s x≠.s b)->(∀b,cZ C s x≠.b b)->(∀k n,cZ C s x≠.i k n)->(∀cs,cZ C s x≠.agg cs)->(∀q,cZ C s x≠.er q)->(cZ C s x≠.lA)->(∀t xs,cZ C s x≠.vec t xs)->(∀t xs,cZ C s x≠.iv t xs)->(∀k c,cZ C s x≠.ptr k c)->∃e sz fR,C.cX t=.sl e sz fR:=by
  intro j h2 h3 h4 h5 h6 h7 h8 h9
  cases S:C.cX t<;>rw[S] at U<;>first
   |exact⟨_,_,_,rfl⟩
   |(exfalso;cases N:cZ C s x<;>rw[N] at U<;>first|(simp[jf] at U;done)|exact j _ N|exact h2 _ N|exact h3 _ _ N|exact h4 _ N|exact h5 _ N|exact h6 N|exact h7 _ _ N|exact h8 _ _ N|exact h9 _ _ N)
 unfold Gc at F;split at F
 ·rename_i b j;rw[j] at y U;have ab:C.cX t=.str:=by cases S:C.cX t<;>rw[S] at U<;>first|rfl|(simp[jf] at U)
  exact aa _ F (by simp[Builtin.len_,run_underlying (uF (hC.ty t) ab),y.nq,goInt];rfl)
 ·rename_i t' xs j;have D:=Y (by simp[j]) (by simp[j]) (by simp[j]) (by simp[j]) (by simp[j]) (by simp[j]) (by simp[j]) (by simp[j]) (by simp[j]);rw[j] at y;obtain⟨va,H,J,_⟩:=y.BY;exact I D J F
 ·rename_i t' xs j;have D:=Y (by simp[j]) (by simp[j]) (by simp[j]) (by simp[j]) (by simp[j]) (by simp[j]) (by simp[j]) (by simp[j]) (by simp[j]);rw[j] at y;obtain⟨va,H,J,_⟩:=y.yW.BY;exact I D J F
 ·rename_i j;have D:=Y (by simp[j]) (by simp[j]) (by simp[j]) (by simp[j]) (by simp[j]) (by simp[j]) (by simp[j]) (by simp[j]) (by simp[j]);rw[j] at y;have J:a.eval x=.slice none 0 0:=by generalize iK x=m at y;generalize a.eval x=u at y;cases y;rfl
  exact I D J F
 ·rename_i j;have D:=Y (by simp[j]) (by simp[j]) (by simp[j]) (by simp[j]) (by simp[j]) (by simp[j]) (by simp[j]) (by simp[j]) (by simp[j]);rw[j] at y;obtain⟨va,J⟩:∃va,a.eval x=.slice va 0 0:=by generalize iK x=m at y;generalize a.eval x=u at y;cases y;exact⟨_,rfl⟩
  exact I D J F
 ·rename_i p t' j;have D:=Y (by simp[j]) (by simp[j]) (by simp[j]) (by simp[j]) (by simp[j]) (by simp[j]) (by simp[j]) (by simp[j]) (by simp[j]);rw[j] at y;obtain⟨tv,hg,F⟩:=oL F;have ad:(g.rc C w).va p=some (a.eval x):=by generalize iK x=m at y;cases y;assumption
  have M:=pN h ad hg;split at F
  ·rcases M with M|M
   ·simp at M
   obtain⟨va,H,J,_⟩:=M.Jt;exact I D J F
  ·rcases M with M|M
   ·simp at M
   obtain⟨q,π,b,ae,H,cs,ee,fr,f,hm,J,_⟩:=M.NQ;exact I D J F
  ·rcases M with M|M
   ·simp at M
   obtain⟨va,H,J,_⟩:=M.BY;exact I D J F
  ·simp at F
 ·rename_i p t' lo hi j;have D:=Y (by simp[j]) (by simp[j]) (by simp[j]) (by simp[j]) (by simp[j]) (by simp[j]) (by simp[j]) (by simp[j]) (by simp[j]);rw[j] at y;obtain⟨va,H,J,h2,h3⟩:∃va H,a.eval x=.slice va (hi.toNat-lo.toNat) H/\0<=lo/\lo<=hi:=by
   generalize iK x=m at y;generalize a.eval x=u at y;cases y;exact⟨_,_,rfl,by assumption,by assumption⟩
  refine I D J ?_;have:xb hi lo=((hi.toNat-lo.toNat:Nat):Int):=by simp only[xb];omega
  rw[<-this];exact F
 ·simp at F
def kT(j:Nat->G)(n e u:Nat):Nat->G:=λb=>
 match j b with
 |.at (.cC i) ((x,c)::p)=>if i=n/\x=0/\e<=c then .at (.cC u) ((0,c-e)::p) else .at (.cC i) ((x,c)::p)
 |x=>x
theorem aan{u:Nat->G}{n e x b j:Nat}{p:dh}(h:u b=.at (.cC n) ((0,e+j)::p)):kT u n e x b=.at (.cC x) ((0,j)::p):=by
 simp[kT,h]
theorem yD{u:Nat->G}{n e n':Nat}:FK (λq=>q=.cC n) u (kT u n e n') where
 im:=λb h=>by simp[kT,h]
 at':=λb q p h D=>by
  by_cases j:q=.cC n
  ·have:=D j;simp[kE,j] at this
  ·unfold kT;rw[h];split
   ·rename_i i x c H y;simp only[G.at.injEq] at y;obtain⟨rfl,rfl⟩:=y;rw[cK (λF=>j (by rw[F.1]))]
   ·rfl
 fr:=λb h=>by simp[kT,h]
theorem aby(hC:fK P C)(h:Rel C E s g w)(l:eb nt g a)(hd:gN nt o.dst){t:Nat}{x:Operand}{j:Nat}(M:o.op=.field t x j)(hx:fe nt x=true)(F:Ev.step C o s K=some r):gx P C E nt o g a w K r (qR x):=by
 simp only[Ev.step,M] at F;split at F
 ·rename_i cs t' m fs aq ht;split at F
  ·rename_i aE ft hf;obtain⟨aa,F⟩:=dM.1 F;have aa:=uq.1 aa;rw[yL,yM] at F;obtain⟨gs,hu,I,_,ai⟩:=KI (hC.ty t) ht;obtain⟨f,ab,rfl,rfl,hm⟩:=Mb I hf;have H:=ai _ hm;obtain⟨au,aF,av,⟨d,aw⟩,_⟩:=pR (hC.ty f.type) H;obtain⟨γ1,h1,ad,ax⟩:=CI (n:=0) h l hC.gl hx;rw[aq] at ad;generalize aj:a.eval x=u at ad;cases ad with
   |agg _ _ vs ae hl ay hr=>
    rw[lG] at ab;have aG:FK (qR x) g.γ (kT γ1 0 f.offset 1)\/True:=.inr trivial;have U:FK (λq=>qR x q\/∃n,q=.cC n) g.γ (kT γ1 0 f.offset 1):=(ax.mono (λq y=>.inl y)).trans (yD.mono (λq y=>.inr ⟨0,y⟩));have e:Rel C E (ir s x) {g with γ:=kT γ1 0 f.offset 1} w:=by
     refine h1.mV (g':={g with γ:=kT γ1 0 f.offset 1}) (X:=λq p=>(∃n,q=.cC n)/\¬ kE q p) ((yD.mono (Z':=λq=>∃n,q=.cC n) (λq y=>⟨0,y⟩)).gi h1.cI.new) (λk=>.inr ⟨rfl,rfl,λp hx=>by obtain⟨⟨n,N⟩,_⟩:=hx;simp at N,?_⟩) (λk=>.inr ⟨rfl,rfl,λp hx=>by obtain⟨⟨n,N⟩,_⟩:=hx;simp at N⟩)
     refine⟨λ_ _=>rfl,λp I=>⟨rfl,λD=>?_⟩,λp I π hx=>by obtain⟨⟨n,N⟩,_⟩:=hx;exact iV p n N⟩
     exact(mM (C:=C) (g:={g with γ:=γ1}) (g':={g with γ:=kT γ1 0 f.offset 1}) ((yD (n':=1)).gi h1.cI.new) p D (nO ((yD (n':=1)).gi h1.cI.new) λq y _ hx=>iV q 0 hx.1) (λ_ _ _=>rfl) (λk _=>⟨rfl,λhx=>by have:=hx.1;simp at this⟩)).2
    have ak:∀(j:Nat)tv v,cs[f.offset+j]?=some tv->vs[f.offset+j]?=some v->Rd (Gs.rc C {g with γ:=kT γ1 0 f.offset 1} w) (some (.cC 1,[(0,j)])) tv v:=λj tv v hj H=>by
     have h0:=hr _ _ _ hj H
     refine h0.mono _ (λb hb=>⟨yD.im b hb,rfl⟩) (λq p y=>?_) (λ_ _=>rfl) (λp I=>⟨rfl,λD=>?_⟩) (λp I=>absurd I (NO (ae tv (eT hj)) p))
     ·simp only[kK,jc,cW,eE] at y;obtain⟨rfl,rfl⟩:=y;exact⟨_,_,rfl,λb π hb=>⟨aan (p:=π) (by have az:γ1 b=_:=hb;simpa using az),rfl⟩⟩
     ·exact(mM (C:=C) (g:={g with γ:=γ1}) (g':={g with γ:=kT γ1 0 f.offset 1}) ((yD (n':=1)).gi h1.cI.new) p D (nO ((yD (n':=1)).gi h1.cI.new) λq y _ hx=>iV q 0 hx.1) (λ_ _ _=>rfl) (λk _=>⟨rfl,λhx=>by have:=hx.1;simp at this⟩)).2
    cases ha:(C.cX f.type).ag with
    |true=>
     rw[ha] at F;have J:(part f.type vs f.offset).run P w=.ok (.agg (vs.extract f.offset (f.offset+(C.cX f.type).sz))) w:=by
      simp[part,Ba aw,av,ha,vK (P:=P) (w:=w) (t:=f.type) (by omega),au]
     have Y:∀(j:Nat)v,(vs.extract f.offset (f.offset+(C.cX f.type).sz))[j]?=some v->vs[f.offset+j]?=some v:=λj v H=>by
      rw[Array.getElem?_extract] at H
      split at H
      ·exact H
      ·simp at H
     have am:Rd (Gs.rc C {g with γ:=kT γ1 0 f.offset 1} w) (some (.cC 1,[])) (.agg ((cs.drop f.offset).take (C.cX f.type).sz)) (.agg (vs.extract f.offset (f.offset+(C.cX f.type).sz))):=by
      refine .agg _ _ _ (λtv aA=>?_) (by simp;omega) (λj tv v hj H=>?_) (λj tv v hj H=>?_)
      ·obtain⟨i,hi⟩:=qo aA;exact ae tv (eT (oI hi).1)
      ·exact ay _ _ _ (oI hj).1 (Y _ _ H)
      ·exact ak j tv v (oI hj).1 (Y _ _ H)
     have hh:=qz (P:=P) (o:=o) (n:=1) e U h.cI.new l hd am (by simp[execOp,M,Instr.field,run_underlying hu,ab,aj,asAgg,J]) F;obtain⟨s',h3,h4⟩:=hh;exact⟨s',h3,λnext Q N=>h4 next Q (λa' w'⟨g',M⟩=>N a' w' ⟨g',{M with gi:=M.gi.mono (λq p hx=>⟨by rcases hx.1 with(S|S)|S<;>first|exact .inl S|exact .inr S,hx.2⟩)}⟩)⟩
    |false=>
     rw[ha] at F;have aB:=KH _ ha;rw[aB] at aa F;have af:f.offset<cs.length:=by omega
     have an:f.offset<vs.size:=by omega
     have aC:(cs.drop f.offset).take 1=[cs[f.offset]]:=by
      rw[kR af];rfl
     rw[aC] at F;have aD:=ak 0 cs[f.offset] vs[f.offset] (by simp[af]) (by simp[an]);have J:=adq (ft:=f.type) (w:=w) hC H ha (ju an);have ah:Rel C E (ir s x) {g with γ:=dP (kT γ1 0 f.offset 1) (.cC 1) [(0,0)] (.cC 2) []} w:=by
      refine e.mV (g':={g with γ:=dP (kT γ1 0 f.offset 1) (.cC 1) [(0,0)] (.cC 2) []}) (oG (q1:=.cC 1) (p1:=[(0,0)]) (q2:=.cC 2) (p2:=[]) e.cI.new) (λk=>.inr ⟨rfl,rfl,λp hx=>by simp[eC] at hx,?_⟩) (λk=>.inr ⟨rfl,rfl,λp hx=>by simp[eC] at hx⟩)
      refine⟨λ_ _=>rfl,λp I=>⟨rfl,λD=>?_⟩,λp I π hx=>iV p 1 hx.1⟩
      exact(mM (C:=C) (g:={g with γ:=kT γ1 0 f.offset 1}) (g':={g with γ:=dP (kT γ1 0 f.offset 1) (.cC 1) [(0,0)] (.cC 2) []}) (oG e.cI.new) p D (nO (oG e.cI.new) λq y _ hx=>iV q 1 hx.1) (λ_ _ _=>rfl) (λk _=>⟨rfl,λhx=>by simp[eC] at hx⟩)).2
     have ao:Rd (Gs.rc C {g with γ:=dP (kT γ1 0 f.offset 1) (.cC 1) [(0,0)] (.cC 2) []} w) (some (.cC 2,[])) cs[f.offset] vs[f.offset]:=by
      refine aD.mono _ (λb hb=>⟨qx hb,rfl⟩) (λq p y=>?_) (λ_ _=>rfl) (λp I=>⟨rfl,λD=>?_⟩) (λp I=>absurd I (NO (ae _ (dG af)) p))
      ·simp only[cW,eE] at y;obtain⟨rfl,rfl⟩:=y;exact⟨_,_,rfl,λb π hb=>⟨yN hb,rfl⟩⟩
      ·exact(mM (C:=C) (g:={g with γ:=kT γ1 0 f.offset 1}) (g':={g with γ:=dP (kT γ1 0 f.offset 1) (.cC 1) [(0,0)] (.cC 2) []}) (oG e.cI.new) p D (nO (oG e.cI.new) λq y _ hx=>iV q 1 hx.1) (λ_ _ _=>rfl) (λk _=>⟨rfl,λhx=>by simp[eC] at hx⟩)).2
     have ap:FK (λq=>qR x q\/∃n,q=.cC n) g.γ (dP (kT γ1 0 f.offset 1) (.cC 1) [(0,0)] (.cC 2) []):=U.trans ((FK.dP yC).mono (λq y=>.inr ⟨1,y⟩));have hh:=qz (P:=P) (o:=o) (n:=2) (v:=vs[f.offset]) ah ap h.cI.new l hd ao (by simp[execOp,M,Instr.field,run_underlying hu,ab,aj,asAgg,J]) F;obtain⟨s',h3,h4⟩:=hh;exact⟨s',h3,λnext Q N=>h4 next Q (λa' w'⟨g',M⟩=>N a' w' ⟨g',{M with gi:=M.gi.mono (λq p hx=>⟨by rcases hx.1 with(S|S)|S<;>first|exact .inl S|exact .inr S,hx.2⟩)}⟩)⟩
  ·simp at F
 ·simp at F
end
end
section
theorem RI:∀{cs:List TV},FV cs=false->∀tv∈cs,ik tv=false/\tv≠.un
 |[],_,tv,h=>by simp at h
 |c::cs,j,tv,h=>by
  have e:FV cs=false/\ik c=false/\c≠.un:=by cases c<;>simp_all [FV,ik]
  rcases eo.1 h with rfl|h
  ·exact e.2
  ·exact RI e.1 tv h
theorem adr{tv:TV}(h:fy tv=true)(e:ik tv=false):gf tv=true:=by
 cases tv<;>simp_all [fy,dC,gf,ik]
theorem Rd.Ky{c:Rc}{m:Option Gp}{tv:TV}{v:Value}(h:Rd c m tv v)(y:gZ tv=true)(e:xe tv=false)(D:Option Gp):Rd c D tv v:=by
 cases tv with
 |agg cs=>
  cases h with
  |agg _ _ vs F H I J=>
   have M:=RI (cs:=cs) (by simpa[xe] using e);have u:cs.all fy=true:=y;refine .agg _ _ _ F H I (λj tv v x N=>(J j tv v x N).anyM ?_ _);exact adr (jh.1 u tv (eT x)) (M tv (eT x)).1
 |own=>simp[xe] at e
 |j4=>simp[xe] at e
 |eY=>simp[gZ,fy,dC] at y
 |_=>exact h.anyM rfl D
section
variable{P:Program}{C:Cx}{E:Env}{nt n:Nat}{o:Oper}{s A:TS}{g:Gs}{a:Act}{w:World}{R:Type}{r:R}{K:TS->Option R}{Z:Rt->Prop}{γ1:Nat->G}{tv:TV}{v:Value}
theorem Q4(h:Rel C E s g w)(l:eb nt g a)(hd:gN nt o.dst){k i:Nat}(ho:o.op=.extract (.tmp k) i)(hx:fe nt (.tmp k)=true)(y:Ev.step C o s K=some r):
  gx P C E nt o g a w K r (λq=>qR (.tmp k) q/\∃vs,s.slot k=.eY vs/\xe (nth vs i)=true):=by
 simp only[Ev.step,ho] at y;have af:a.eval (.tmp k)=g.tm k:=l.tm k (by simpa[fe,sB] using hx);split at y
 ·rename_i cs hs;obtain⟨Q,y⟩:=dM.1 y;have Q:=uq.1 Q;have S:=h.fD k;rw[hs] at S;have ah:∀a U cap,g.tm k≠.slice a U cap:=λa U cap e=>by rw[e] at S;cases S
  generalize Y:g.tm k=u at S;cases S with
  |eY _ _ vs hc hl aa=>
   have D:i<cs.length:=by omega
   have ab:i<vs.size:=by omega
   have hn:nth cs i=cs[i]:=by rw[uE,eA D];rfl
   have ad:=aa i _ _ (eA D) (ju ab);have F:=hc _ (dG D);have H:(execOp a.eval o).run P w=.ok (.value vs[i]) w:=by simp[execOp,ho,af,Y,Instr.extract,ab]
   split at y
   ·rename_i x;rw[hn] at y;have ai:dA (eC (.slot k) [(0,i)]) g.γ w (dP g.γ (.slot k) [(0,i)] (.cC 0) []) w:=oG h.cI.new;have ae:Rel C E (s.raw k (.eY (kJ cs i .un))) {g with γ:=dP g.γ (.slot k) [(0,i)] (.cC 0) []} w:=by
     refine h.KD ai (Pe h ah) ?_
     rw[Y,rD]
     refine .eY _ _ _ (λtv aj=>?_) (by simpa using hl) (λj tv v hj hv=>?_)
     ·rcases zQ aj with h1|rfl
      ·exact hc tv h1
      ·rfl
     ·by_cases I:i=j
      ·subst I;rw[GX D] at hj;cases hj;exact .un _ _
      ·rw[C6 I] at hj;have hT:=hc tv (eT hj);refine(aa j tv v hj hv).same (λb J=>⟨qx J,rfl⟩) (λq p M b π J=>?_) (λi hi=>absurd hi (BX hT i)) (λp N=>absurd N (rC hT p)) (λp N=>absurd N.mv (rC hT p));simp only[kK,jc,cW,eE] at M;obtain⟨rfl,rfl⟩:=M;exact⟨vX J λ⟨_,t,ht⟩=>by simp at ht;exact I ht.1,rfl⟩
    have ak:Rd (Gs.rc C {g with γ:=dP g.γ (.slot k) [(0,i)] (.cC 0) []} w) (some (.cC 0,[])) cs[i] vs[i]:=by
     refine ad.mono _ (λb J=>⟨qx J,rfl⟩) (λq p M=>?_) (λi hi=>absurd hi (BX F i)) (λp N=>absurd N (rC F p)) (λp N=>absurd N.mv (rC F p))
     simp only[kK,jc,cW,eE] at M
     obtain⟨rfl,rfl⟩:=M
     exact⟨_,_,rfl,λb π J=>⟨yN J,rfl⟩⟩
    exact qz ae ((FK.dP yw).mono (λq M=>⟨⟨k,rfl,M⟩,cs,hs,x⟩)) h.cI.new l hd ak H y
   ·rename_i x;rw[hn] at y x;exact qz (n:=0) (γ1:=g.γ) h (.refl _) h.cI.new l hd (ad.Ky F x _) H y
 ·simp at y
def KJ(v:Option Value)(d n:Int):Prop:=(v=none/\n=d)\/∃k,v=some (.int k n)
def CJ(nt:Nat):Option Operand->Bool|some x=>fe nt x|none=>true
theorem yO(h:Rel C E s g w)(l:eb nt g a){x:Option Operand}{d n:Int}(hx:CJ nt x=true)(e:gY C s d x=some n):KJ (x.map a.eval) d n:=by
 cases x with
 |none=>simp only[gY,cW] at e;exact .inl ⟨rfl,e.symm⟩
 |some x=>
  simp only[gY] at e;split at e
  ·rename_i k m j;simp only[cW] at e;subst e;have:=iF h l hx;rw[j] at this;exact .inr ⟨k,by simp[this.ka]⟩
  ·simp at e
theorem Q5{P:Program}(u:Bool){len cap:Nat}{e j:Option Value}{l h:Int}(x:KJ e 0 l)(y:KJ j len h)(F:0<=l)(H:l<=h)(I:h<=cap):
  (Instr.sliceBounds u len cap e j none).run P w=.ok (l.toNat,h.toNat,cap) w:=by
 have D:((h.toNat:Nat):Int)=h:=by omega
 rcases x with⟨rfl,rfl⟩|⟨k,rfl⟩<;>rcases y with⟨rfl,rfl⟩|⟨J,rfl⟩<;>simp[Instr.sliceBounds,Instr.sliceBound,asIntOf]<;>(try rw[D])<;>(try simp)<;>(try(repeat' split))<;>(try simp_all)<;>(try omega)
theorem Zm{P:Program}{u e:Nat}{y D:Option Value}{l h m:Int}{k:IntKind}(H:KJ y 0 l)(I:∃k,D=some (.int k h))(M:0<=l)(N:l<=h)(Q:h<=m)(J:m<=e):
  (Instr.sliceBounds true u e y D (some (.int k m))).run P w=.ok (l.toNat,h.toNat,m.toNat) w:=by
 have S:((h.toNat:Nat):Int)=h:=by omega
 have U:((m.toNat:Nat):Int)=m:=by omega
 obtain⟨Y,rfl⟩:=I;have F:0<=m/\m<=(e:Int):=⟨by omega,J⟩;have j:0<=h/\h<=((m.toNat:Nat):Int):=by omega
 rcases H with⟨rfl,rfl⟩|⟨k,rfl⟩
 ·simp[Instr.sliceBounds,Instr.sliceBound,asIntOf,F,j];intro h5;omega
 ·have x:0<=l/\l<=((h.toNat:Nat):Int):=by omega
  simp[Instr.sliceBounds,Instr.sliceBound,asIntOf,F,j,x];rw[cJ (by omega),cJ (by omega)]
theorem Qx{P:Program}{t:TypeId}{x:Value}{j u y:Option Value}(h:∀n e,P.underlying t≠some (.array n e)){d:TypeDesc}(D:P.underlying t=some d):(Instr.sliceAt t x j u y).run P w=(Instr.slice t x j u y).run P w:=by
 simp only[Instr.sliceAt,Sem.run_bind,run_underlying D,Result.andThen];cases d<;>first|rfl|exact absurd D (h _ _)
theorem Zg{P:Program}{t e:TypeId}{y D F:Option Value}{va:Option Addr}{j u:Nat}{l h m:Nat}(x:P.underlying t=some (.slice e))(H:0<P.cellsOf e)
  (I:(Instr.sliceBounds true j u y D F).run P w=.ok (l,h,m) w):
  (Instr.sliceAt t (.slice va j u) y D F).run P w=.ok (.slice (if m=l then va else va.map (·.add (l*P.cellsOf e))) (h-l) (m-l)) w:=by
 rw[Qx (by rw[x];simp) x];simp[Instr.slice,run_underlying x,I,vK H]
theorem abz{va:Option Addr}{b e:Nat}(n:Nat)(h:va=some ⟨b,e,none⟩):va.map (·.add n)=some ⟨b,e+n,none⟩:=by
 subst h;simp[Ie]
inductive Cut(P:Program)(w:World)(lo hi mx:Option Value)(len cap:Nat)(l h:Int)(m:Nat):Prop where
 |mk:(Instr.sliceBounds true len cap lo hi mx).run P w=.ok (l.toNat,h.toNat,m) w->0<=l->l<=h->h<=m->m<=cap->Cut P w lo hi mx len cap l h m
theorem Rd.SN{c:Rc}{m m':Option Gp}{t:Ty}{j:List (El t)}{a u:Option Addr}{len cap e:Nat}{lo hi:Int}(h:Rd c m (.dT t j) (.slice a len cap))(F:0<=lo)(H:lo<=hi)(x:hi<=j.length)
  (I:∀b o,a=some ⟨b,o,none⟩->lo<hi->u=some ⟨b,o+lo.toNat*cG t,none⟩)(J:hi.toNat-lo.toNat<=e):Rd c m' (.dT t ((j.drop lo.toNat).take (hi.toNat-lo.toNat))) (.slice u (hi.toNat-lo.toNat) e):=by
 by_cases hz:lo=hi
 ·subst hz;simp only[vq,xF];exact .kt _ _ _ _
 ·rcases h.qy with⟨rfl,_⟩|⟨b,o,y,f,D,_⟩
  ·simp at x;omega
  ·simp only[Value.slice.injEq] at D;obtain⟨rfl,_⟩:=D;exact h.Fg F H x (.inr ⟨b,o,rfl,I b o rfl (by omega)⟩) J
theorem Rd.ads{c:Rc}{m x:Option Gp}{t:Ty}{j:List (El t)}{a:Option Addr}{n:Nat}(h:Rd c m (.dT t j) (.slice a n n)):Rd c x (.fE t j) (.slice a n n):=by
 rcases h.qy with⟨rfl,H,u,e⟩|⟨b,o,cap,f,e,I,y,D,F⟩
 ·simp only[Value.slice.injEq] at e;obtain⟨rfl,rfl,rfl⟩:=e;exact .p7 _ _ _
 ·simp only[Value.slice.injEq] at e;obtain⟨rfl,rfl,rfl⟩:=e;exact .p8 _ _ _ _ _ f y D F
theorem SO(hC:fK P C)(h:Rel C E s g w)(l:eb nt g a)(hd:gN nt o.dst){t:Nat}{x:Operand}{lo hi mx:Option Operand}(ho:o.op=.slice t x lo hi mx)(hx:fe nt x=true)(ay:CJ nt lo=true)(az:CJ nt hi=true)(aH:CJ nt mx=true)
  (j:Ev.step C o s K=some r):gx P C E nt o g a w K r Z:=by
 simp only[Ev.step,ho] at j;obtain⟨ht,j⟩:=dM.1 j;have F:=iF h l hx;have sl:(∀b,cZ C s x≠.s b)->(∀b,cZ C s x≠.b b)->(∀k n,cZ C s x≠.i k n)->(∀cs,cZ C s x≠.agg cs)->(∀q,cZ C s x≠.er q)->(cZ C s x≠.lA)->(∀t xs,cZ C s x≠.vec t xs)->(∀t xs,cZ C s x≠.iv t xs)->(∀k c,cZ C s x≠.ptr k c)->∃e sz fR,C.cX t=.sl e sz fR:=by
  intro D h2 h3 h4 h5 h6 h7 h8 h9
  cases aA:C.cX t<;>rw[aA] at ht<;>first
   |exact⟨_,_,_,rfl⟩
   |(exfalso;cases ho:cZ C s x<;>rw[ho] at ht<;>first|(simp[jf] at ht;done)|exact D _ ho|exact h2 _ ho|exact h3 _ _ ho|exact h4 _ ho|exact h5 _ ho|exact h6 ho|exact h7 _ _ ho|exact h8 _ _ ho|exact h9 _ _ ho)
 have part:∀{e sz fR}{va:Option Addr}{len cap m:Nat}{l' h':Int}{tv:TV},C.cX t=.sl e sz fR->a.eval x=.slice va len cap->Cut P w (lo.map a.eval) (hi.map a.eval) (mx.map a.eval) len cap l' h' m->
   (∀a',(∀b o,va=some ⟨b,o,none⟩->l'.toNat<m->a'=some ⟨b,o+l'.toNat*cG e,none⟩)->(m=l'.toNat->a'=va)->∃mm,Rd (g.rc C w) mm tv (.slice a' (h'.toNat-l'.toNat) (m-l'.toNat)))->gf tv=true->K (dZ C s o.dst tv)=some r->gx P C E nt o g a w K r Z:=by
  intro e sz fR va len cap m l' h' tv H U hc aB ha j
  obtain⟨et,hu,aI,_,_⟩:=uR (hC.ty t) H
  obtain⟨aJ,aK,_⟩:=rf aI
  obtain⟨hb,h0,D,h2,h3⟩:=hc
  have aw:=Zg (va:=va) hu aK hb
  rw[aJ] at aw
  obtain⟨mm,aB⟩:=aB (if m=l'.toNat then va else va.map (·.add (l'.toNat*cG e))) (λb o aC aY=>by rw[cK (by omega)];exact abz _ aC) (λaD=>by rw[cJ aD])
  exact j8 h l hd aB ha (by simp only[execOp,ho,U];simp[aw]) j
 have an:∀{len cap:Nat}{l' h':Int},gY C s 0 lo=some l'->gY C s len hi=some h'->0<=l'->l'<=h'->h'<=cap->mx=none->Cut P w (lo.map a.eval) (hi.map a.eval) (mx.map a.eval) len cap l' h' cap:=by
  intro len cap l' h' D h2 h3 h4 h5 h6
  subst h6
  exact⟨Q5 true (yO h l ay D) (yO h l az h2) h3 h4 h5,h3,h4,h5,hY _⟩
 have three:∀{len cap:Nat}{l' h':Int}{y:Operand}{z:Operand}{m:Int},gY C s 0 lo=some l'->gY C s len hi=some h'->hi=some y->mx=some z->gY C s 0 (some z)=some m->0<=l'->l'<=h'->m=h'->h'<=cap->Cut P w (lo.map a.eval) (hi.map a.eval) (mx.map a.eval) len cap l' h' h'.toNat:=by
  intro len cap l' h' y z m D h2 h3 h4 h5 h6 h7 h8 h9
  subst h8
  have aE:=yO h l ay D
  have av:=yO h l az h2
  have aL:=yO h l (x:=some z) (by rw[<-h4];exact aH) h5
  rw[h3] at av
  rw[h4]
  rw[h3]
  obtain⟨k,hz⟩:∃k,(some z).map a.eval=some (.int k m):=by
   rcases aL with⟨ai,_⟩|ai
   ·simp at ai
   ·exact ai
  have hy:∃k,(some y).map a.eval=some (.int k m):=by
   rcases av with⟨ai,_⟩|ai
   ·simp at ai
   ·exact ai
  rw[hz];refine⟨?_,h6,h7,by omega,by omega⟩;exact Zm aE hy h6 h7 (Yw _) h9
 have ao:∀{e sz fR}{va:Option Addr}{len cap:Nat}{xs:List (El e)},C.cX t=.sl e sz fR->a.eval x=.slice va len cap->(∃mm,Rd (g.rc C w) mm (.dT e xs) (.slice va len cap))->len=xs.length->len<=cap->∀{l' h'},gY C s 0 lo=some l'->gY C s (cz xs) hi=some h'->mx=none->
   ∀{ys},eR xs l' h'=some ys->K (dZ C s o.dst (.dT e ys))=some r->gx P C E nt o g a w K r Z:=by
  intro e sz fR va len cap xs H U ⟨mm,hr⟩ ap Q l' h' D h2 h3 ys ae j
  obtain⟨⟨h4,h5,h6⟩,rfl⟩:=sJ.1 ae
  have aF:gY C s (len:Nat) hi=some h':=by rw[ap];exact h2
  refine part H U (an (cap:=cap) D aF h4 h5 (by omega) h3) (λa' Y af=>⟨none,?_⟩) rfl j
  exact hr.SN h4 h5 h6 (λb o hb aM=>Y b o hb (by omega)) (by omega)
 have aq:∀{e sz fR}{va:Option Addr}{len cap:Nat}{xs:List (El e)},C.cX t=.sl e sz fR->a.eval x=.slice va len cap->(∃mm,Rd (g.rc C w) mm (.dT e xs) (.slice va len cap))->len=xs.length->len<=cap->∀{l' h' m y z},gY C s 0 lo=some l'->gY C s (cz xs) hi=some h'->hi=some y->mx=some z->gY C s 0 (some z)=some m->
   zq xs l' h' m (λv=>K (dZ C s o.dst v))=some r->gx P C E nt o g a w K r Z:=by
  intro e sz fR va len cap xs H U ⟨mm,hr⟩ ap Q l' h' m y z D h2 hy hz hm j
  unfold zq at j
  obtain⟨_,I,j⟩:=eM.1 j
  have I:m=h':=fj (lR.1 I)
  obtain⟨ys,ae,j⟩:=eM.1 j
  obtain⟨⟨h4,h5,h6⟩,rfl⟩:=sJ.1 ae
  have aF:gY C s (len:Nat) hi=some h':=by rw[ap];exact h2
  refine part H U (three (cap:=cap) D aF hy hz hm h4 h5 I (by omega)) (λa' Y af=>⟨none,?_⟩) rfl j
  exact(hr.SN (m':=none) h4 h5 h6 (λb o hb aM=>Y b o hb (by omega)) (hY _)).ads
 unfold r9 at j;split at j
 ·rename_i b D;rw[D] at F ht;have aN:C.cX t=.str:=by cases aA:C.cX t<;>rw[aA] at ht<;>first|rfl|(simp[jf] at ht)
  have hu:=uF (hC.ty t) aN;split at j
  ·rename_i l' h' hl hh hm;obtain⟨z,hz,j⟩:=eM.1 j;unfold fg at hz;split at hz
   ·rename_i hc;obtain⟨h0,aO,aP⟩:=hc;simp only[cW] at hz;subst hz;have hb:=Q5 (w:=w) (P:=P) false (len:=b.length) (cap:=b.length) (yO h l ay hl) (yO h l az hh) h0 aO aP;have aQ:(ByteArray.mk ⟨b⟩).size=b.length:=rfl;have aR:(ByteArray.mk ⟨b⟩).extract l'.toNat h'.toNat=ByteArray.mk ⟨(b.drop l'.toNat).take (h'.toNat-l'.toNat)⟩:=by
     apply ByteArray.ext
     rw[ByteArray.data_extract]
     simp
    refine j8 h l hd (.s none _) rfl ?_ j;simp only[execOp,ho,Option.map_none,Sem.run_bind,Qx (P:=P) (w:=w) (t:=t) (by rw[hu];simp) hu];simp[Instr.slice,run_underlying hu,F.nq,aQ,hb,aR]
   ·simp at hz
  ·simp at j
 ·rename_i t' xs D;obtain⟨e,sz,fR,H⟩:=sl (by simp[D]) (by simp[D]) (by simp[D]) (by simp[D]) (by simp[D]) (by simp[D]) (by simp[D]) (by simp[D]) (by simp[D]);rw[D] at F ht;rw[H] at ht;simp only[jf,dF] at ht;subst ht;obtain⟨va,cap,U,Q⟩:=F.BY;rw[U] at F;split at j
  ·rename_i l' h' hl hh hm;obtain⟨ys,ae,j⟩:=eM.1 j;exact ao H U ⟨_,F⟩ rfl Q hl hh rfl ae j
  ·rename_i l' h' z hl hh hm;split at j
   ·rename_i y m ah;exact aq H U ⟨_,F⟩ rfl Q hl hh rfl rfl ah j
   ·simp at j
  ·simp at j
 ·rename_i t' xs D;obtain⟨e,sz,fR,H⟩:=sl (by simp[D]) (by simp[D]) (by simp[D]) (by simp[D]) (by simp[D]) (by simp[D]) (by simp[D]) (by simp[D]) (by simp[D]);rw[D] at F ht;rw[H] at ht;simp only[jf,dF] at ht;subst ht;have F:=F.yW;obtain⟨va,cap,U,Q⟩:=F.BY;rw[U] at F;split at j
  ·rename_i l' h' hl hh hm;obtain⟨ys,ae,j⟩:=eM.1 j;exact ao H U ⟨_,F⟩ rfl Q hl hh rfl ae j
  ·rename_i l' h' z hl hh hm;split at j
   ·rename_i y m ah;exact aq H U ⟨_,F⟩ rfl Q hl hh rfl rfl ah j
   ·simp at j
  ·simp at j
 ·rename_i p t' D;obtain⟨e,sz,fR,H⟩:=sl (by simp[D]) (by simp[D]) (by simp[D]) (by simp[D]) (by simp[D]) (by simp[D]) (by simp[D]) (by simp[D]) (by simp[D]);rw[D] at F ht;rw[H] at ht;simp only[jf,dF] at ht;subst ht;obtain⟨tv,hg,j⟩:=oL j;have au:VO (g.rc C w) p/\(g.rc C w).va p=some (a.eval x):=by generalize iK x=m at F;cases F;exact⟨by assumption,by assumption⟩
  have hl:=pN h au.2 hg;split at j
  ·rename_i d t2 xs;obtain⟨aj,ad⟩:=dM.1 j;have aj:=fj aj;clear j;subst aj;rcases hl with hl|hl
   ·simp at hl
   obtain⟨va,cap,U,Q⟩:=hl.Jt;have aG:∀n:Nat,n<cap->∃b o,va=some ⟨b,o,none⟩:=λn hn=>by
    rcases hl.lu with⟨rfl,a0,am⟩|⟨q,π,b,aS,aX,cs,ee,fr,f,hm,am,_⟩
    ·rw[U] at am;simp only[Value.slice.injEq] at am;omega
    ·rw[U] at am;simp only[Value.slice.injEq] at am;exact⟨b,aS,am.1⟩
   have ax:∀{l' h':Int}{m:Nat},Cut P w (lo.map a.eval) (hi.map a.eval) (mx.map a.eval) xs.length cap l' h' m->h'<=xs.length->K (dZ C s o.dst (.sl p t2 l' h'))=some r->gx P C E nt o g a w K r Z:=by
    intro l' h' m hc hh j
    refine part H U hc (λa' Y af=>⟨none,?_⟩) rfl j
    obtain⟨_,h0,aT,h2,h3⟩:=hc
    refine .sl _ _ _ _ _ va xs.length cap _ _ au.1 (by rw[au.2,U]) h0 aT hh ?_ (by omega) (by omega)
    by_cases aD:m=l'.toNat
    ·left;omega
    ·right
     obtain⟨b,o,hb⟩:=aG l'.toNat (by omega);exact⟨b,o,hb,Y b o hb (by omega)⟩
   split at ad
   ·rename_i l' h' S N hm;obtain⟨_,I,j⟩:=eM.1 ad;have I:0<=l'/\l'<=h'/\h'<=cz xs:=fj (lR.1 I);simp only[cz] at I;exact ax (an (cap:=cap) S N I.1 I.2.1 (by omega) rfl) I.2.2 j
   ·rename_i l' h' z S N hm;split at ad
    ·rename_i y m ah;obtain⟨_,I,j⟩:=eM.1 ad;obtain⟨M,J⟩:=(du _ _).mp (lR.1 I);have M:0<=l'/\l'<=h'/\h'<=(xs.length:Int):=fj M;have J:m=h':=fj J;exact ax (three (cap:=cap) S N rfl rfl ah M.1 M.2.1 J (by omega)) M.2.2 j
    ·simp at ad
   ·simp at ad
  ·rename_i t2 xs;obtain⟨aj,ad⟩:=dM.1 j;have aj:=fj aj;clear j;subst aj;rcases hl with hl|hl
   ·simp at hl
   obtain⟨va,cap,U,Q⟩:=hl.BY;rw[U] at hl;split at ad
   ·rename_i l' h' S N hm;obtain⟨ys,ae,j⟩:=eM.1 ad;exact ao H U ⟨_,hl⟩ rfl Q S N rfl ae j
   ·simp at ad
  ·simp at j
 ·rename_i p t' b1 b2 D;obtain⟨e,sz,fR,H⟩:=sl (by simp[D]) (by simp[D]) (by simp[D]) (by simp[D]) (by simp[D]) (by simp[D]) (by simp[D]) (by simp[D]) (by simp[D]);rw[D] at F ht;rw[H] at ht;simp only[jf,dF] at ht;subst ht;obtain⟨aa,len,cap,a',ab,au,aC,aU,h2,h3,h4,h5,h6,h7⟩:∃aa len cap a' ab,VO (g.rc C w) p/\(g.rc C w).va p=some (.slice aa len cap)/\a.eval x=.slice a' (b2.toNat-b1.toNat) ab/\0<=b1/\b1<=b2/\b2<=(len:Int)/\
    (ab=0\/∃b o,aa=some ⟨b,o,none⟩/\a'=some ⟨b,o+b1.toNat*cG e,none⟩)/\b2.toNat-b1.toNat<=ab/\ab+b1.toNat<=cap:=by
   generalize iK x=m at F
   generalize a.eval x=u at F
   cases F;exact⟨_,_,_,_,_,by assumption,by assumption,rfl,by assumption,by assumption,by assumption,by assumption,by assumption,by assumption⟩
  split at j
  ·rename_i l' h' S N hm;obtain⟨_,I,j⟩:=eM.1 j;have I:0<=l'/\l'<=h'/\h'<=xb b2 b1:=fj (lR.1 I);have aV:xb b2 b1=((b2.toNat-b1.toNat:Nat):Int):=by simp only[xb];omega
   rw[aV] at I N;refine part H aU (an (cap:=ab) S N I.1 I.2.1 (by omega) rfl) (λa2 Y af=>⟨none,?_⟩) rfl j;have aW:((oX b1 h').toNat-(oX b1 l').toNat)=h'.toNat-l'.toNat:=by simp only[oX];omega
   rw[<-aW];refine .sl _ _ _ _ _ aa len cap _ _ au aC (by simp only[oX];omega) (by simp only[oX];omega) (by simp only[oX];omega) ?_ (by simp only[oX];omega) (by simp only[oX];omega)
   by_cases aD:ab=l'.toNat
   ·left;omega
   ·right
    rcases h5 with h5|⟨b,o,aE,av⟩
    ·omega
    ·refine⟨b,o,aE,?_⟩;rw[Y _ _ av (by omega),show(oX b1 l').toNat=b1.toNat+l'.toNat by simp only[oX];omega,jv,<-oA]
  ·simp at j
 ·rename_i D;obtain⟨e,sz,fR,H⟩:=sl (by simp[D]) (by simp[D]) (by simp[D]) (by simp[D]) (by simp[D]) (by simp[D]) (by simp[D]) (by simp[D]) (by simp[D]);rw[D] at F;have U:a.eval x=.slice none 0 0:=by generalize iK x=m at F;generalize a.eval x=u at F;cases F;rfl
  split at j
  ·rename_i l' h' S N hm;obtain⟨_,I,j⟩:=eM.1 j;obtain⟨M,J⟩:=(du _ _).mp (lR.1 I);have M:l'=0:=fj M;have J:h'=0:=fj J;subst M;subst J;refine part H U (an (cap:=0) S N (by omega) (by omega) (by omega) rfl) (λa2 Y af=>⟨none,?_⟩) rfl j;rw[af rfl];exact .nil _
  ·rename_i l' h' z S N hm;split at j
   ·rename_i y m ah;obtain⟨_,I,j⟩:=eM.1 j;obtain⟨M,J⟩:=(du _ _).mp (lR.1 I);obtain⟨J,ak⟩:=(du _ _).mp J;have M:l'=0:=fj M;have J:h'=0:=fj J;have ak:m=0:=fj ak;subst M;subst J;subst ak;refine part H U (three (cap:=0) S N rfl rfl ah (by omega) (by omega) rfl (by omega)) (λa2 Y af=>⟨none,?_⟩) rfl j;rw[af rfl];exact .nil _
   ·simp at j
  ·simp at j
 ·rename_i D;obtain⟨e,sz,fR,H⟩:=sl (by simp[D]) (by simp[D]) (by simp[D]) (by simp[D]) (by simp[D]) (by simp[D]) (by simp[D]) (by simp[D]) (by simp[D]);rw[D] at F;obtain⟨va,U⟩:∃va,a.eval x=.slice va 0 0:=by generalize iK x=m at F;generalize a.eval x=u at F;cases F;exact⟨_,rfl⟩
  split at j
  ·rename_i l' h' S N hm;obtain⟨_,I,j⟩:=eM.1 j;obtain⟨M,J⟩:=(du _ _).mp (lR.1 I);have M:l'=0:=fj M;have J:h'=0:=fj J;subst M;subst J;refine part H U (an (cap:=0) S N (by omega) (by omega) (by omega) rfl) (λa2 Y af=>⟨none,?_⟩) rfl j;exact .gQ _ _
  ·rename_i l' h' z S N hm;split at j
   ·rename_i y m ah;obtain⟨_,I,j⟩:=eM.1 j;obtain⟨M,J⟩:=(du _ _).mp (lR.1 I);obtain⟨J,ak⟩:=(du _ _).mp J;have M:l'=0:=fj M;have J:h'=0:=fj J;have ak:m=0:=fj ak;subst M;subst J;subst ak;refine part H U (three (cap:=0) S N rfl rfl ah (by omega) (by omega) rfl (by omega)) (λa2 Y af=>⟨none,?_⟩) rfl j;exact .gQ _ _
   ·simp at j
  ·simp at j
 ·simp at j
end
end
section
def Cd(d:Bool)(a b:TV):Prop:=a=b\/∃t,∃e:List (El t),eZ t a=some e/\b=sc d t e
def F2(d:Bool):List TV->List TV->Prop|[],[]=>True|a::as,b::e=>Cd d a b/\F2 d as e|_,_=>False
theorem F2.get{d:Bool}:∀{as e:List TV},F2 d as e->as.length=e.length/\∀(j:Nat)a b,as[j]?=some a->e[j]?=some b->Cd d a b
 |[],[],_=>⟨rfl,by simp⟩
 |[],_::_,h=>by simp[F2] at h
 |_::_,[],h=>by simp[F2] at h
 |a::as,b::e,h=>by
  simp only[F2] at h;obtain⟨A,D⟩:=h;obtain⟨F,H⟩:=F2.get D;refine⟨by simp[F],λj x y hx u=>?_⟩;cases j with
  |zero=>simp at hx u;subst hx;subst u;exact A
  |succ j=>exact H j x y (by simpa using hx) (by simpa using u)
theorem Cd.sl{d:Bool}{t:Ty}{a:TV}{e:List (El t)}(h:eZ t a=some e):Cd d a (sc d t e):=.inr ⟨t,e,h,rfl⟩
theorem sN(d:Bool):∀{t:Ty}{a:List TV}{x:El t},dec t a=some x->F2 d a (enc d t x):=by
 intro t a
 fun_cases dec t a<;>intro x h
 all_goals first
  |(exfalso;simp_all [dec];done)
  |skip
 all_goals(simp only[dec,gr,cW, *] at h)
 all_goals(have h:=gA h;subst h;simp only[enc,F2,cn.op,cn.num,cn.name,cn.kids,cn.marks])
 all_goals(repeat' (first|exact trivial|exact Or.inl rfl|exact Cd.sl (by assumption)|apply And.intro))
theorem rj{t:Ty}{a:TV}{j:List (El t)}(h:eZ t a=some j):a=.dT t j\/a=.fE t j\/(∃d,a=.own d t j)\/(a=.nil/\j=[])\/(a=.gQ/\j=[]):=by
 cases a with
 |dT u x=>simp only[eZ] at h;split at h<;>first|(rename_i e;subst e;simp[jL] at h;subst h;exact .inl rfl)|simp at h
 |fE u x=>simp only[eZ] at h;split at h<;>first|(rename_i e;subst e;simp[jL] at h;subst h;exact .inr (.inl rfl))|simp at h
 |own d u x=>simp only[eZ] at h;split at h<;>first|(rename_i e;subst e;simp[jL] at h;subst h;exact .inr (.inr (.inl ⟨d,rfl⟩)))|simp at h
 |nil=>simp[eZ] at h;exact .inr (.inr (.inr (.inl ⟨rfl,h⟩)))
 |gQ=>simp[eZ] at h;exact .inr (.inr (.inr (.inr ⟨rfl,h⟩)))
 |_=>simp[eZ] at h
theorem Rd.BB{c:Rc}{m:Option Gp}{d a:Bool}{t:Ty}{y:List (El t)}{v:Value}(h:Rd c m (.own d t y) v)(A:flat t=true):Rd c m (.own a t y) v:=by
 cases h with
 |jC=>exact .jC _ _ _ _
 |kf _ _ _ _ _ b o cap D e fr f F H I J M N P=>
  exact .kf _ _ _ _ _ _ _ _ D e fr f F H I J M (λr x j u hx Q=>N r x j u hx (by rwa[mK A d a])) (λr x j u hx Q=>P r x j u hx (by rwa[mK A d a]))
theorem Cd.deep{a b:TV}(h:Cd true a b)(j:pP a=true){c:Rc}{m:Option Gp}{v:Value}(e:Rd c m a v):Rd c m b v:=by
 rcases h with rfl|⟨t,x,h,rfl⟩
 ·exact e
 ·rcases rj h with rfl|rfl|⟨d,rfl⟩|⟨rfl,rfl⟩|⟨rfl,rfl⟩
  ·simp[pP] at j
  ·simp[pP] at j
  ·simp only[sc];cases u:flat t with
   |true=>exact e.BB u
   |false=>simp[pP,u] at j;subst j;exact e
  ·cases e;exact .jC _ _ _ _
  ·cases e;exact .jC _ _ _ _
theorem Cd.frozen{a b:TV}(h:Cd false a b)(j:ik a=false){c:Rc}{m:Option Gp}{v:Value}(e:Rd c m a v):Rd c m b v:=by
 rcases h with rfl|⟨t,u,h,rfl⟩
 ·exact e
 ·rcases rj h with rfl|rfl|⟨d,rfl⟩|⟨rfl,rfl⟩|⟨rfl,rfl⟩
  ·exact e
  ·exact e.yW
  ·simp[ik] at j
  ·cases e;exact .kt _ _ _ _
  ·cases e;exact .kt _ _ _ _
theorem Un{t:Ty}(xs:List (El t)):eZ t (.dT t xs)=some xs:=by show(if h:t=t then some (jL h xs) else none)=some xs;rw[LK rfl];rfl
theorem adt{t:Ty}(xs:List (El t)):eZ t (.fE t xs)=some xs:=by show(if h:t=t then some (jL h xs) else none)=some xs;rw[LK rfl];rfl
theorem Cd.jR{a b:TV}(h:Cd false a b)(e:ik b=false):Cd false (jZ a) b:=by
 rcases h with rfl|⟨t,j,h,rfl⟩
 ·rw[(Ff e).1];exact .inl rfl
 ·rcases rj h with rfl|rfl|⟨d,rfl⟩|⟨rfl,rfl⟩|⟨rfl,rfl⟩
  ·exact .inr ⟨_,_,Un _,rfl⟩
  ·exact .inr ⟨_,_,adt _,rfl⟩
  ·exact .inr ⟨_,_,Un _,rfl⟩
  ·exact .inr ⟨t,[],rfl,rfl⟩
  ·exact .inr ⟨t,[],rfl,rfl⟩
theorem VA{e:Ty}{x:El e}{P:List Value}(h:j6 (enc false e x) P=true)(d:Bool)(c:Rc)(j:Nat)(J:TV)(v:Value)(U:(enc d e x)[j]?=some J)(Q:P[j]?=some v)(m:Option Gp):Rd c m J v/\v.oneCell'=true:=by
 obtain⟨hl,Y⟩:=Ci (c:=c) (m:=λ_=>m) h;have A:(enc false e x)[j]?=some (jZ J):=by rw[<-NP d e x,hV,U];rfl
 obtain⟨R,Z,_⟩:=Y j _ _ A Q;refine⟨?_,Z⟩;cases J with
 |own d' t S=>
  simp only[jZ] at R A;have D:zC (.dT t S) v=true:=by
   have N:∀(H:List TV)(F:List Value)(j:Nat)a b,j6 H F=true->H[j]?=some a->F[j]?=some b->zC a b=true:=by
    intro H
    induction H with
    |nil=>intro F j a b _ I;simp at I
    |cons t H ih=>
     intro F j a b D I M
     cases F with
     |nil=>simp at M
     |cons u F=>
      simp only[j6,du] at D
      cases j with
      |zero=>simp at I M;subst I;subst M;exact D.1
      |succ j=>exact ih F j a b D.2 (by simpa using I) (by simpa using M)
   exact N _ _ _ _ _ h A Q
  cases S with
  |nil=>
   unfold zC at D;split at D<;>first|(rename_i h4 h5;simp at h4)|skip
   all_goals first|exact .jC _ _ _ _|simp_all
  |cons y ys=>cases v<;>simp[zC] at D
 |_=>exact R
structure zu(w w':World)(cs:Array Value)(k:Bool:=false):Prop where
 size:w'.heap.size=w.heap.size+1
 old:∀b,b<w.heap.size->w'.heap[b]?=w.heap[b]?
 new:∃e fr,w'.heap[w.heap.size]?=some (.cells cs e fr)/\uY cs.size fr/\(k=false->¬ (fr.1<=cs.size/\cs.size<fr.2))
 tape:w'.tape=w.tape
 os:w'.os=w.os
 output:w'.output=w.output
theorem vP(w:World)(a:Array Value)(e:TypeId):zu w (w.alloc (.cells a e)) a where
 size:=by show(w.heap.push _).size=_;simp
 old:=λb u=>by show(w.heap.push _)[b]?=_;rw[ah4 u,ju u]
 new:=⟨e,(0,0),by show(w.heap.push _)[w.heap.size]?=_;simp,λj _=>by simp,λ_=>by simp⟩
 tape:=rfl
 os:=rfl
 output:=rfl
theorem aao(w:World)(a:Array Value)(e:TypeId):zu w (w.drew.alloc (.cells a e)) a where
 size:=by show(w.heap.push _).size=_;simp
 old:=λb u=>by show(w.heap.push _)[b]?=_;rw[ah4 u,ju u]
 new:=⟨e,(0,0),by show(w.heap.push _)[w.heap.size]?=_;simp,λj _=>by simp,λ_=>by simp⟩
 tape:=rfl
 os:=rfl
 output:=rfl
def iu(a:Nat->G)(b:Nat)(x:G):Nat->G:=λi=>if i=b then x else a i
theorem pO{a:Nat->G}{b:Nat}{x:G}:iu a b x b=x:=cJ rfl
theorem jK{a:Nat->G}{b i:Nat}{x:G}(h:i≠b):iu a b x i=a i:=cK h
theorem NW{u:Nat->G}{w w':World}{A:Array Value}{k:Bool}(e:zu w w' A k)(y:∀b,w.heap.size<=b->u b=.fr)(x:G)(X:Rt->dh->Prop):dA X u w (iu u w.heap.size x) w':=by
 have j:∀b,u b≠.fr->b<w.heap.size:=λb h=>ah0 λD=>h (y b (by omega));refine⟨λb a=>?_,λb q p a _=>?_,λb a h=>?_,by rw[e.size];omega,λb a=>?_,e.tape,e.os,e.output⟩
 ·have:=j b (by rw[a];simp);exact⟨by rw[jK (by omega)];exact a,e.old b this⟩
 ·have:=j b (by rw[a];simp);exact⟨by rw[jK (by omega)];exact a,e.old b this⟩
 ·exact⟨by rw[jK (by omega)];exact h,e.old b a⟩
 ·rw[e.size] at a;rw[jK (by omega)];exact y b (by omega)
section
variable{C:Cx}{E:Env}{s:TS}{g:Gs}{w w':World}{γ':Nat->G}{X:Rt->dh->Prop}
theorem FF(j:dA X g.γ w γ' w')(hx:∀q p,X q p->∃n,q=.cC n)(p:Pl)(u:VO (g.rc C w) p):(Gs.rc C {g with γ:=γ'} w').va p=(g.rc C w).va p/\VO (Gs.rc C {g with γ:=γ'} w') p:=mM (C:=C) (g:=g) (g':={g with γ:=γ'}) j p u (nO j λq x _ a=>by obtain⟨n,e⟩:=hx _ _ a;exact iV q n e) (λ_ _ _=>rfl) (λk _=>⟨rfl,λa=>by obtain⟨n,e⟩:=hx _ _ a;simp at e⟩)
theorem Rd.s9{c:Rc}{m:Option Gp}{a:TV}{v:Value}(h:Rd c m a v){p:Pl}(u:MV p a):VO c p:=by
 cases u with
 |vw=>cases h;assumption
 |pa=>cases h;assumption
 |sl=>cases h;assumption
 |ep=>cases h;assumption
 |agg F t x=>
  cases h with
  |agg _ _ vs H I J y=>
   obtain⟨j,A,D⟩:=pD x;have e:=y j _ (vs[j]'(by omega)) (by rw[eA A,D]) (ju _);generalize kK m 0 j=M at e;cases e;assumption
end
end
section
section
variable{C:Cx}{E:Env}{s:TS}{g:Gs}{w w':World}{γ':Nat->G}{X:Rt->dh->Prop}
theorem Rel.grow(h:Rel C E s g w)(u:dA X g.γ w γ' w')(hx:∀q p,X q p->∃n,q=.cC n):Rel C E s {g with γ:=γ'} w':=by
 refine h.mV (g':={g with γ:=γ'}) u (λk=>.inr ⟨rfl,rfl,λp e=>by obtain⟨n,j⟩:=hx _ _ e;simp at j,?_⟩) (λk=>.inr ⟨rfl,rfl,λp e=>by obtain⟨n,j⟩:=hx _ _ e;simp at j⟩);exact⟨λ_ _=>rfl,λp e=>⟨(FF u hx p ((h.fD k).s9 e)).1,λy=>(FF u hx p y).2⟩,λp e D x=>by obtain⟨n,j⟩:=hx _ _ x;exact iV p n j⟩
theorem Rd.grow{m:Option Gp}{tv:TV}{v:Value}(h:Rd (g.rc C w) m tv v)(e:dA X g.γ w γ' w')(hx:∀q p,X q p->∃n,q=.cC n)(y:∀q p,m=some (q,p)->∀u,¬ X q (p++u)):Rd (Gs.rc C {g with γ:=γ'} w') m tv v:=h.same (λb j=>e.im b j) (λq p D b u j=>e.at' b _ _ j (y q p D u)) (λ_ _=>rfl) (λp F=>⟨(FF e hx p (h.s9 F)).1,λH=>(FF e hx p H).2⟩) (λp _ b u j=>e.at' b _ _ j (λx=>by obtain⟨n,I⟩:=hx _ _ x;exact iV p n I))
theorem Jy(h:Rel C E s g w){y:Array Value}{k:Bool}(nb:zu w w' y k){n:Nat}{d:Bool}{t:Ty}{xs:List (El t)}{cap:Nat}(f:Nat->Nat->Value)(N:xs.length<=cap)(Q:cap*cG t<=y.size)
  (S:∀(r:Nat)x(j:Nat)tv,xs[r]?=some x->(enc d t x)[j]?=some tv->y[r*cG t+j]?=some (f r j)/\(f r j).oneCell'=true)
  (U:∀(r:Nat)x(j:Nat)tv,xs[r]?=some x->(enc d t x)[j]?=some tv->Rd (g.rc C w) (some (.cC n,[((r:Int),cj t j)])) tv (f r j))(F:k=true->Xf t=true:=by first|(intro h;cases h;done)|exactλ_=>rfl):
  Rel C E s {g with γ:=iu g.γ w.heap.size (.at (.cC n) [tg t])} w'/\Rd (Gs.rc C {g with γ:=iu g.γ w.heap.size (.at (.cC n) [tg t])} w') (some (.cC n,[])) (.own d t xs) (.slice (some ⟨w.heap.size,0,none⟩) xs.length cap)/\
  dA (λ_ _=>False) g.γ w (iu g.γ w.heap.size (.at (.cC n) [tg t])) w':=by
 have u:dA (λ_ _=>False) g.γ w (iu g.γ w.heap.size (.at (.cC n) [tg t])) w':=NW nb h.cI.new _ _;obtain⟨e,fr,M,H,I⟩:=nb.new;have H:mz t y.size fr:=⟨H,λh=>I (by cases k with|false=>rfl|true=>rw[F rfl] at h;cases h)⟩;refine⟨h.grow u (λ_ _ D=>D.elim),?_,u⟩;refine .kf _ _ _ _ _ w.heap.size 0 cap y e fr f N pO M H (by omega) (λr x j tv hx J=>?_) (λr x j tv hx J=>?_)
 ·obtain⟨Y,h2⟩:=S r x j tv hx J;exact⟨by simp[cellAt,World.cell?,Gs.rc,M,Y],h2⟩
 ·exact(U r x j tv hx J).grow u (λ_ _ D=>D.elim) (λ_ _ _ _ D=>D)
end
def kG{R:Type}(P:Program)(C:Cx)(E:Env)(nt:Nat)(o:Oper)(g:Gs)(a:Act)(w:World)(K:TS->Option R)(r:R)(Z:Rt->Prop)(X:Rt->dh->Prop)(nb:Nat->Prop):Prop:=∃e,K e=some r/\u2 P o a w (λj w'=>∃u,Out C E nt (λq p=>XZ Z q p\/X q p) o.dst nb g w e j w' u)
section
variable{P:Program}{C:Cx}{E:Env}{nt n:Nat}{o:Oper}{s B:TS}{g g1:Gs}{a:Act}{w A:World}{R:Type}{r:R}{K:TS->Option R}{Z:Rt->Prop}{γ1:Nat->G}{tv:TV}{v:Value}{X:Rt->dh->Prop}{nb:Nat->Prop}
theorem gx.b(h:gx P C E nt o g a w K r Z):kG P C E nt o g a w K r Z X nb:=by
 obtain⟨j,u,x⟩:=h;exact⟨j,u,λnext Q y=>x next Q (λD w'⟨F,e⟩=>y D w' ⟨F,{e with gi:=e.gi.mono (λq p hx=>.inl hx),bx:=λk _=>e.bx k (λh=>h)}⟩)⟩
theorem BD(F:Rel C E B g1 A)(j:g1.tm=g.tm)(x:∀k,¬ nb k->g1.bx k=g.bx k)(y:dA (λq p=>XZ Z q p\/X q p) g.γ w g1.γ A)(l:eb nt g a)(H:gN nt o.dst)(I:Rd (g1.rc C A) (some (.cC n,[])) tv v)
  (J:(execOp a.eval o).run P w=.ok (.value v) A)(u:K (dZ C B o.dst tv)=some r):kG P C E nt o g a w K r Z X nb:=by
 obtain⟨D,M,f2⟩:=F.put (d:=o.dst) I;refine⟨_,u,λnext Q e=>?_⟩;simp only[Oper.wp,J,Oper.upon];refine e _ _ ⟨_,M,(l.same (g':={g1 with γ:=D}) j).put H,?_,λk u=>(Kb _ _ _ _ u).trans (by rw[j]),λk u=>by rw[FE];exact x k u⟩;rw[FD];refine(y.trans (f2.gi F.cI.new)).mono (λq p hx=>?_);rcases hx with hx|⟨hx,N⟩
 ·exact hx
 ·exact .inl ⟨.inr ⟨n,hx⟩,N⟩
theorem Ig{t:TypeId}(h:uZ P t=true):∃i z,P.info? t=some i/\i.zero=some z/\lU P t=z.cells.toList:=by
 unfold uZ at h;cases e:P.info? t with
 |none=>simp[e] at h
 |some i=>
  simp only[e] at h;obtain⟨z,j⟩:=ah5.1 h;exact⟨i,z,rfl,j,by simp[lU,e,j]⟩
theorem abA{z:Array Value}{n r j k:Nat}(e:k=z.size)(u:j<k)(x:r*k+j<n):(madeCells z n)[r*k+j]?=z[j]?:=by
 have y:(r*k+j) % z.size=j:=by rw[<-e,vr,Yx];exact zS u
 simp only[madeCells];rw[ah2,Array.getElem?_range];simp only[x,gr,jc,y];rw[Yy z j (by omega),ju (by omega)]
theorem Zh(hC:fK P C)(h:Rel C E s g w)(l:eb nt g a)(hd:gN nt o.dst){t:Nat}{x y:Operand}(ho:o.op=.makeSlice t x y)(hx:fe nt x=true)(hy:fe nt y=true)(U:Ev.step C o s K=some r):kG P C E nt o g a w K r Z X nb:=by
 simp only[Ev.step,ho] at U;have aa:=iF h l hx;have ab:=iF h l hy;split at U
 ·rename_i e sz fR k1 n k2 m ai h1 h2;rw[h1] at aa;rw[h2] at ab;have aj:=aa.ka;have ak:=ab.ka;obtain⟨xs,u,U⟩:=eM.1 U;unfold xj at u;split at u
  ·rename_i hc;obtain⟨h0,am,hb,av⟩:=hc;simp only[cW] at u;subst u;obtain⟨et,hu,an,_,ao⟩:=uR (hC.ty t) ai;obtain⟨ap,aw,hz,F,_⟩:=rf an;obtain⟨i,z,hi,aq,M⟩:=Ig hz;have ad:i.size=cG e:=by rw[<-ap];simp[Program.cellsOf,hi]
   have ae:i.bytes=fR:=by rw[<-ao];simp[Program.bytesOf,hi]
   have au:z.cells.size=cG e:=by
    rw[M] at F
    have:=(Ci (c:=g.rc C w) (m:=λ_=>none) F).1
    rw[gV] at this
    simpa using this
   have I:=run_make (P:=P) w t et i z hu hi aq k1 k2 n m h0 am (by rw[ae,Int.mul_comm];omega) (by omega);rw[ad] at I;have J:∀(r:Nat)(x:El e)(j:Nat)tv,(List.replicate n.toNat (po e))[r]?=some x->(enc true e x)[j]?=some tv->x=po e/\r<n.toNat/\j<cG e:=λr x j tv hx H=>by
    obtain⟨N,he⟩:=eF.1 hx
    have N:r<n.toNat:=by simpa using N
    have:=(eF.1 H).1
    rw[gV] at this
    exact⟨by rw[<-he];simp,N,this⟩
   have af:∀r,r<n.toNat->r*cG e+cG e<=m.toNat*cG e:=λr Y=>by
    have:(r+1)*cG e<=m.toNat*cG e:=mh _ (by omega)
    rwa[jv,pF] at this
   have D:∀(r:Nat)(j:Nat),r<n.toNat->j<cG e->(madeCells z.cells (m.toNat*cG e))[r*cG e+j]?=some (z.cells[j]?.getD undef)/\z.cells[j]?=some (z.cells[j]?.getD undef):=λr j Y H=>by
    have:=af r Y
    rw[abA au.symm H (by omega),ju (by omega)]
    exact⟨rfl,rfl⟩
   obtain⟨h3,h4,h5⟩:=Jy (n:=0) (d:=true) (t:=e) (xs:=List.replicate n.toNat (po e)) (cap:=m.toNat) h (vP w (madeCells z.cells (m.toNat*cG e)) et) (λ_ j=>z.cells[j]?.getD undef) (by simp;omega) (by rw[size_madeCells];exact hY _)
    (λr x j tv hx H=>by
      obtain⟨rfl,Y,Q⟩:=J r x j tv hx H
      obtain⟨ah,S⟩:=D r j Y Q
      refine⟨ah,(VA F true (g.rc C w) j tv _ H (by rw[M,lG];exact S) none).2⟩)
    (λr x j tv hx H=>by
      obtain⟨rfl,Y,Q⟩:=J r x j tv hx H
      obtain⟨ah,S⟩:=D r j Y Q
      exact(VA F true (g.rc C w) j tv _ H (by rw[M,lG];exact S) _).1);simp only[Yz] at h4;exact BD (g1:={g with γ:=iu g.γ w.heap.size (.at (.cC 0) [tg e])}) h3 rfl (λ_ _=>rfl) (h5.mono (λ_ _ hf=>hf.elim)) l hd h4 (by simp only[execOp,ho,aj,ak];simp[I]) U
  ·simp at u
 ·simp at U
theorem ZN(w:World)(e:TypeId)(x:ByteArray):zu w (Lib.bytesWorld w e x) (Lib.bytesCells w e x) true where
 size:=Lib.bytesWorld_size w e x
 old:=λb u=>Lib.bytesWorld_at_old w e x b u
 new:=⟨_,_,Lib.bytesWorld_at_new w e x,λj y=>by simp;omega,λh=>by cases h⟩
 tape:=by simp[Lib.bytesWorld,World.freeze]
 os:=by simp[Lib.bytesWorld,World.freeze];rfl
 output:=by simp[Lib.bytesWorld,World.freeze];rfl
theorem aeP{t:Nat}(h:iX P C t (C.cX t)=true)(e:(C.cX t).var=true):∃d,P.underlying t=some d:=(pR h e).2.2.2.1
def B3(w:World)(y:List Int)(u:Value):Prop:=(y=[]/\∃a e,u=.slice a 0 e)\/∃b j e,u=.slice (some ⟨b,j,none⟩) y.length e/\∀(i:Nat)x,y[i]?=some x->cellAt w b (j+i)=some (.int .u8 x)
theorem MI{c:Rc}{m:Option Gp}{tv:TV}{u:Value}{J:List (El (.int .u8))}(h:eZ (.int .u8) tv=some J)(y:Rd c m tv u):B3 c.w J u:=by
 have F:∀{b H:Nat}{d:Bool}{f:Nat->Nat->Value}{M:Nat->Option Gp},(∀(r:Nat)(x:El (.int .u8))(j:Nat)tv,J[r]?=some x->(enc d (.int .u8) x)[j]?=some tv->cellAt c.w b (H+r*cG (.int .u8)+j)=some (f r j)/\(f r j).oneCell'=true)->
   (∀(r:Nat)(x:El (.int .u8))(j:Nat)tv,J[r]?=some x->(enc d (.int .u8) x)[j]?=some tv->∃m,Rd c m tv (f r j))->∀(i:Nat)x,J[i]?=some x->cellAt c.w b (H+i)=some (.int .u8 x):=λ{b H d f M}I y i x hx=>by
  obtain⟨Q,_⟩:=I i x 0 _ hx rfl
  obtain⟨m,U⟩:=y i x 0 _ hx rfl
  rw[U.ka,show cG (.int .u8)=1 from rfl,LL,q6] at Q
  exact Q
 rcases rj h with rfl|rfl|⟨d,rfl⟩|⟨rfl,rfl⟩|⟨rfl,rfl⟩
 ·rcases y.qy with⟨rfl,a,D,rfl⟩|⟨b,o,D,f,rfl,Y,S,I,y⟩
  ·exact .inl ⟨rfl,a,D,rfl⟩
  ·exact .inr ⟨b,o,D,rfl,F (M:=λ_=>none) I (λr x j tv hx N=>⟨_,y r x j tv hx N⟩)⟩
 ·rcases y.Js with⟨rfl,a,rfl⟩|⟨b,o,f,rfl,S,I,y⟩
  ·exact .inl ⟨rfl,a,0,rfl⟩
  ·exact .inr ⟨b,o,_,rfl,F (M:=λ_=>none) I (λr x j tv hx N=>⟨_,y r x j tv hx N⟩)⟩
 ·rcases y.lu with⟨rfl,a,rfl⟩|⟨q,p,b,o,D,cs,e,fr,f,hm,rfl,Y,S,hh,hu,hs,I,y⟩
  ·exact .inl ⟨rfl,a,0,rfl⟩
  ·exact .inr ⟨b,o,D,rfl,F (M:=λ_=>none) I (λr x j tv hx N=>⟨_,y r x j tv hx N⟩)⟩
 ·cases y;exact .inl ⟨rfl,none,0,rfl⟩
 ·cases y;exact .inl ⟨rfl,_,0,rfl⟩
theorem aap{src e y:TypeId}(H:P.underlying src=some (.slice y))(I:P.underlying y=some (.int .u8))(J:P.underlying e=some .string){x:List Int}{u:Value}(h:B3 w x u):
  (convert src e u).run P w=.ok (.string ⟨⟨iQ x⟩⟩) w:=by
 rcases h with⟨rfl,a,j,rfl⟩|⟨b,D,j,rfl,M⟩
 ·cases a with
  |none=>
   rw[run_convert_bytes_nil w src y H I 0 j e J];rfl
  |some a=>
   rw[run_convert_bytes_string w src e y _ 0 j H I J,run_bytesToString w a 0 j [] (by simp[loadCells,loadCellsFrom])];rfl
 ·have hx:=run_convert_bytes_arg (P:=P) w src y H I b D x.length j x rfl (λi N=>by
    have F:x[i]?=some x[i]:=eA N
    have Q:w.cell? ⟨b,D+i,none⟩=some (.int .u8 x[i]):=M i _ F
    rw[Q]
    simp[List.getD,F]) e J;rw[hx];simp[strOfNums,iQ]
theorem B3.sub{y:List Int}{a F:Option Addr}{len cap e:Nat}{lo hi:Int}(h:B3 w y (.slice a len cap))(N:0<=lo)(Q:lo<=hi)(I:hi<=y.length)(H:e=0\/∃b o,a=some ⟨b,o,none⟩/\F=some ⟨b,o+lo.toNat*1,none⟩)(S:hi.toNat-lo.toNat<=e):
  B3 w ((y.drop lo.toNat).take (hi.toNat-lo.toNat)) (.slice F (hi.toNat-lo.toNat) e):=by
 have j:((y.drop lo.toNat).take (hi.toNat-lo.toNat)).length=hi.toNat-lo.toNat:=by simp;omega
 by_cases hz:hi.toNat-lo.toNat=0
 ·left;rw[hz];exact⟨by simp,_,_,rfl⟩
 ·rcases H with H|⟨b,o,rfl,rfl⟩
  ·omega
  rcases h with⟨rfl,U,u,D⟩|⟨Y,J,u,D,M⟩
  ·simp at I;omega
  ·simp only[Value.slice.injEq,cW,Addr.mk.injEq,jg] at D;obtain⟨⟨rfl,rfl⟩,_,rfl⟩:=D
   right
   refine⟨b,o+lo.toNat*1,e,by rw[j],λi x hx=>?_⟩;rw[oz] at hx;split at hx
   ·rw[vp] at hx;rw[LL,oA];exact M _ _ hx
   ·simp at hx
theorem Uo{k:IntKind}{e:TypeId}(h:Gy P (.int k) e=true):P.underlying e=some (.int k):=by
 unfold Gy at h;split at h
 ·rename_i k1 k2 j u;simp only[Ty.int.injEq] at j;simp at h;rw[u,<-h,j]
 all_goals(first|(simp_all;done)|(simp[Ev.gk] at h;done))
theorem Zn{e:TI}(h:Cc e=true):∃j fR,e=.sl (.int .u8) j fR:=by
 unfold Cc at h;split at h
 ·exact⟨_,_,rfl⟩
 ·simp at h
theorem ZO(hC:fK P C)(h:Rel C E s g w)(l:eb nt g a)(hd:gN nt o.dst){src I:Nat}{x:Operand}(ho:o.op=.convert src I x)(hx:fe nt x=true)(e:Ev.step C o s K=some r):kG P C E nt o g a w K r Z X nb:=by
 simp only[Ev.step,ho] at e;obtain⟨N,e⟩:=dM.1 e;have y:=iF h l hx;have bytes:∀{xs:List Int},C.cX I=.str->Cc (C.cX src)=true->B3 w xs (a.eval x)->K (dZ C s o.dst (.s (iQ xs)))=some r->kG P C E nt o g a w K r Z X nb:=by
  intro xs D J hb e
  obtain⟨sz,an,Q⟩:=Zn J
  obtain⟨et,hu,ad,_,_⟩:=uR (hC.ty src) Q
  obtain⟨_,_,_,_,hK⟩:=rf ad
  have:=aap (P:=P) hu (Uo hK) (uF (hC.ty I) D) hb
  exact(j8 (Z:=Z) h l hd (.s none _) rfl (by simp only[execOp,ho];simp[this]) e).b
 split at e
 ·rename_i k1 n k2 F D;rw[F] at y N;have ao:(C.cX src).var=true:=by cases S:C.cX src<;>rw[S] at N<;>first|rfl|simp[jf] at N
  obtain⟨d,U⟩:=aeP (hC.ty src) ao;have Y:=Vv (hC.ty I) D;refine(j8 (Z:=Z) h l hd (.i none k2 _) rfl ?_ e).b;simp only[execOp,ho,y.ka];simp[convert,run_underlying U,run_underlying Y,Conv.intToInt,eK]
 ·rename_i b F D;rw[F] at y N;have Q:C.cX src=.str:=by cases S:C.cX src<;>rw[S] at N<;>first|rfl|simp[jf] at N
  have U:=uF (hC.ty src) Q;have Y:=uF (hC.ty I) D;refine(j8 (Z:=Z) h l hd (.s none _) rfl ?_ e).b;simp only[execOp,ho,y.nq];simp[convert,run_underlying U,run_underlying Y]
 ·rename_i b sz an F D;rw[F] at y N;have Q:C.cX src=.str:=by cases S:C.cX src<;>rw[S] at N<;>first|rfl|simp[jf] at N
  have U:=uF (hC.ty src) Q;obtain⟨et,Y,ad,_,_⟩:=uR (hC.ty I) D;obtain⟨_,_,_,_,hK⟩:=rf ad;obtain⟨_,az,e⟩:=eM.1 e;have am:=Lib.run_convert_string_bytes (P:=P) w src I et ⟨⟨b⟩⟩ U Y (Uo hK);have ap:(ByteArray.mk ⟨b⟩).size=b.length:=rfl;have aq:=grownCap_ge w (ByteArray.mk ⟨b⟩).size 0 et;have au:(Lib.bytesCells w et ⟨⟨b⟩⟩).size=grownCap w (ByteArray.mk ⟨b⟩).size 0 et:=by
   simp only[Lib.bytesCells,PY,Array.size_map,PZ]
   have h1:(ByteArray.mk ⟨b⟩).data.size=(ByteArray.mk ⟨b⟩).size:=rfl
   rw[h1]
   omega
  have ae:∀(r:Nat)(x:Int),(dB b)[r]?=some x->(Lib.bytesCells w et ⟨⟨b⟩⟩)[r]?=some (.int .u8 x):=λr x hx=>by
   simp only[dB,hV,xE] at hx
   obtain⟨c,hc,rfl⟩:=hx
   have av:=(eF.1 hc).1
   have aw:=(eF.1 hc).2
   simp[Lib.bytesCells,Array.getElem?_append,av,aw]
  have ab:(dB b).length=(ByteArray.mk ⟨b⟩).size:=by simp[dB,ap]
  obtain⟨h3,h4,h5⟩:=Jy (n:=0) (d:=true) (t:=.int .u8) (xs:=dB b) (cap:=grownCap w (ByteArray.mk ⟨b⟩).size 0 et) h (ZN w et ⟨⟨b⟩⟩) (λr _=>((dB b)[r]?.map (Value.int .u8)).getD undef) (zO (YA ab) aq) (by rw[au];simp[cG])
   (λr x j tv hx hj=>by
     cases j with
     |zero=>
      have af:(dB b)[r]?=some (show Int from x):=hx
      rw[show r*cG (.int .u8)+0=r by simp[cG]]
      have hf:(((dB b)[r]?.map (Value.int .u8)).getD undef)=Value.int .u8 (show Int from x):=by rw[af];rfl
      exact⟨(ae r x hx).trans (by rw[hf]),by rw[hf];rfl⟩
     |succ j=>simp[enc] at hj)
   (λr x j tv hx hj=>by
     cases j with
     |zero=>
      have af:(dB b)[r]?=some (show Int from x):=hx
      have hf:(((dB b)[r]?.map (Value.int .u8)).getD undef)=Value.int .u8 (show Int from x):=by rw[af];rfl
      simp[enc] at hj;subst hj
      show Rd _ _ _ (((dB b)[r]?.map (Value.int .u8)).getD undef)
      rw[hf];exact .i _ _ _
     |succ j=>simp[enc] at hj);have ah:List.length (α:=El (.int .u8)) (dB b)=(ByteArray.mk ⟨b⟩).size:=ab;exact BD (g1:={g with γ:=iu g.γ w.heap.size (.at (.cC 0) [tg (.int .u8)])}) h3 rfl (λ_ _=>rfl) (h5.mono (λ_ _ hf=>hf.elim)) l hd h4 (by simp only[execOp,ho,y.nq];simp[am];exact ah.symm) e
 ·rename_i p t' F D;rw[F] at y N;obtain⟨J,e⟩:=dM.1 e;obtain⟨tv,hg,e⟩:=oL e;have ai:(g.rc C w).va p=some (a.eval x):=by generalize iK x=m at y;cases y;assumption
  have hl:=pN h ai hg;split at e
  ·rename_i xs M;rcases hl with rfl|hl
   ·simp[eZ] at M
   exact bytes D J (MI M hl) e
  ·simp at e
 ·rename_i p t0 lo hi F D;rw[F] at y N;obtain⟨J,e⟩:=dM.1 e;obtain⟨tv,hg,e⟩:=oL e;obtain⟨aa,aj,cap,a',H,aA,ai,ax,h2,h3,h4,h5,h6,h7⟩:∃aa aj cap a' H,VO (g.rc C w) p/\(g.rc C w).va p=some (.slice aa aj cap)/\a.eval x=.slice a' (hi.toNat-lo.toNat) H/\0<=lo/\lo<=hi/\hi<=(aj:Int)/\
    (H=0\/∃b o,aa=some ⟨b,o,none⟩/\a'=some ⟨b,o+lo.toNat*cG t0,none⟩)/\hi.toNat-lo.toNat<=H/\H+lo.toNat<=cap:=by
   generalize iK x=m at y
   generalize a.eval x=u at y
   cases y;exact⟨_,_,_,_,_,by assumption,by assumption,rfl,by assumption,by assumption,by assumption,by assumption,by assumption,by assumption⟩
  have hl:=pN h ai hg;split at e
  ·rename_i xs M;obtain⟨ak,e⟩:=dM.1 e;have ak:=fj ak;subst ak;obtain⟨ys,ay,e⟩:=eM.1 e;obtain⟨⟨_,_,h9⟩,rfl⟩:=sJ.1 ay;rcases hl with rfl|hl
   ·simp[eZ] at M
   have hb:=(MI M hl).sub h2 h3 h9 (by simpa[cG] using h5) h6;rw[<-ax] at hb;exact bytes D J hb e
  ·simp at e
 ·obtain⟨J,e⟩:=dM.1 e;split at e
  ·rename_i xs M;exact bytes (by assumption) J (MI M y) e
  ·simp at e
 ·simp at e
end
end
end Go.Sd
