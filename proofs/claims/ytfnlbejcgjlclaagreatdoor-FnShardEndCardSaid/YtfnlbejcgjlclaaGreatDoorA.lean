/- An evaluator of the program code is sound against the model, first part. No conditions. -/
import Derived.Calls
import Derived.Below
import Derived.Laws.Cells
import Derived.Laws.IdiomCopy
import Derived.Laws.StructEq
import Derived.Laws.BytesString
import Derived.Laws.Slices
import Derived.Laws.BytesArg
import Derived.Laws.MakeOwn
import Derived.Deep.AppendSrc
import Derived.Lib.ConvBytes
set_option linter.all false
def AA:=@Nat.mod_eq_of_lt
def AB:=@List.pairwise_cons
def AD:=@List.pairwise_append
def AE:=@List.take_of_length_le
def Av:=@Nat.le_trans
def Aw:=@Option.bind_eq_some_iff
def Ax:=@List.mem_or_eq_of_mem_set
def Ay:=@List.take_zero
def Az:=@List.getElem?_range
def DI:=@List.getElem?_set_ne
def DJ:=@Array.length_toList
def DK:=@List.replicate_succ
def DL:=@Prod.ext
def DM:=@not_or
def DN:=@Nat.lt_of_not_le
def DO:=@List.map_map
def DP:=@Int.ediv_nonneg
def DQ:=@Int.emod_nonneg
def DR:=@Int.emod_lt_of_pos
def DS:=@Nat.mul_le_mul_left
def HA:=@List.getElem?_set_self
def HB:=@List.foldl_nil
def HC:=@Array.size_setIfInBounds
def HD:=@Array.toList_append
def HE:=@Iff.rfl
def HF:=@List.mem_iff_getElem?
def HG:=@List.foldr_cons
def HH:=@Bool.or_false
def HI:=@Bool.eq_iff_iff
def HJ:=@List.append_nil
def HK:=@List.mem_of_mem_drop
def HL:=@Int.ediv_le_self
def HM:=@Int.mul_nonneg
def Hy:=@Nat.zero_mul
def Hz:=@List.all_cons
def Me:=@Nat.lt_of_lt_of_le
def Mf:=@List.append_cancel_left
def Mg:=@List.eq_nil_of_length_eq_zero
def Mh:=@dif_pos
def Mi:=@Nat.mul_one
def Mj:=@List.size_toArray
def Mk:=@Nat.mod_lt
def Ml:=@Nat.mul_le_mul
def Mm:=@List.head?_cons
def Mn:=@ne_eq
def Q0:=@List.flatten_cons
def Q1:=@List.length_range
def Q2:=@List.flatten_append
def Q3:=@List.set_getElem_self
def Q4:=@Nat.mul_add
def Q5:=@Int.mul_le_mul_of_nonneg_left
def Q6:=@Nat.one_le_pow
def QE:=@Go.run_load
def QF:=@Array.size_append
def QG:=@Array.size_replicate
def QH:=@Array.getElem?_append_left
def QI:=@Nat.div_eq_of_lt
def QJ:=@Nat.div_lt_of_lt_mul
def QK:=@Nat.div_add_mod
def QL:=@List.range'_succ
def QM:=@Array.getElem?_replicate
def QN:=@Function.comp_apply
def QO:=@List.map_id
def QP:=@List.countP_cons
def QQ:=@List.length_set
def QR:=@Nat.min_def
def QS:=@List.drop_of_length_le
def QT:=@Nat.sub_zero
def QU:=@Int.tmod_eq_emod_of_nonneg
def QV:=@Int.min_eq_right
def QW:=@Int.min_eq_left
def QX:=@List.length_pos_iff
def QY:=@List.range_succ
def QZ:=@Eq.trans
def ZA:=@Option.getD_some
def ZB:=@Array.getElem?_eq_some_iff
def ZC:=@List.drop_left
def ZD:=@List.range_eq_range'
def ZE:=@Bool.false_or
def ZF:=@List.any_eq_false
def ZG:=@Bool.and_false
def ZH:=@Bool.true_or
def ZI:=@List.mem_filter
def ZJ:=@List.getElem_drop
def ZK:=@Bool.cond_eq_ite
def ZL:=@Int.natCast_add
def ZM:=@Int.mul_add
def ZN:=@List.pairwise_iff_getElem
def ZO:=@Int.tdiv_eq_ediv_of_nonneg
def ZP:=@List.take_append_drop
def ZQ:=@UInt8.toNat_ofNat'
def ZR:=@UInt8.toNat_inj
def ZS:=@beq_eq_false_iff_ne
def ZT:=@List.take_succ_cons
def ZU:=@not_false_eq_true
def ZV:=@List.sum_append
def ZW:=@List.sum_cons
def ZX:=@Int.mul_le_mul
def ZY:=@List.take_prefix
def Zj:=@Array.getElem?_setIfInBounds_ne
def Zk:=@Array.mem_of_getElem?
def Zl:=@Go.Sem.run_pure
def Zm:=@List.getElem?_cons_succ
def Zn:=@Int.le_refl
def Zo:=@Nat.add_mul_mod_self_right
def Zp:=@getElem!_pos
def Zq:=@Go.size_madeCells
def Zr:=@List.length_replicate
def Zs:=@Go.grownCap_ge
def Zt:=@Nat.le_of_eq
def Zu:=@Array.toList_map
def Zw:=@Nat.le_of_ble_eq_true
def Zx:=@Bool.and_eq_false_iff
def Zy:=@List.ext_getElem?
def Zz:=@List.getElem?_toArray
def ai2:=@Go.run_loadCells_list
def ai3:=@Array.getElem?_push_lt
def ai4:=@Option.isSome_iff_exists
def ai5:=@Go.Lib.bytesWorld_size
def ai6:=@Go.Lib.bytesWorld_at_old
def ai8:=@Array.getElem?_modify
def aiU:=@List.mem_of_getElem?
def aiV:=@List.getElem?_set
def aiW:=@Classical.byContradiction
def aiX:=@Array.getElem?_setIfInBounds_self_of_lt
def aiY:=@Array.getElem?_map
def aiZ:=@Go.run_equalIn_bool'
def aja:=@Nat.add_mul_div_right
def ajc:=@List.append_cancel_left_eq
def ajd:=@Nat.add_sub_cancel_left
def ajh:=@Array.toList_setIfInBounds
def ajj:=@List.head?_eq_getElem?
def ajl:=@List.replicate_succ'
def ajm:=@List.drop_append_of_le_length
def ajn:=@List.prefix_iff_eq_take
def ajo:=@List.isPrefixOf_iff_prefix
def ajp:=@List.drop_succ_cons
def ajr:=@Bool.eq_false_iff
def ajs:=@List.set_append_right
def ajt:=@List.set_cons_zero
def cM:=@if_pos
def cN:=@if_neg
def cP:=@cond_true
def cR:=@cond_false
def dF:=@Bool.and_eq_true
def dM:=@List.getElem_mem
def dQ:=@decide_eq_true_eq
def di:=@Option.some.injEq
def eG:=@List.mem_cons
def eJ:=@List.mem_append
def eN:=@List.getElem?_eq_getElem
def eS:=@Prod.mk.injEq
def eT:=@List.getElem?_eq_some_iff
def eW:=@Bool.not_true
def fG:=@of_decide_eq_true
def fH:=@Int.toNat_natCast
def fg:=@List.length_append
def gE:=@if_true
def gF:=@decide_eq_true
def gP:=@decide_eq_false
def gQ:=@decide_false
def gU:=@Nat.eq_of_beq_eq_true
def gV:=@Option.some.inj
def gf:=@List.mem_singleton
def gi:=@decide_true
def gy:=@List.length_cons
def hV:=@Int.eq_ofNat_of_zero_le
def hY:=@Bool.not_false
def iA:=@List.getElem?_map
def iB:=@Nat.zero_add
def iC:=@List.nil_append
def iN:=@Nat.le_refl
def iO:=@if_false
def iS:=@Bool.false_eq_true
def iT:=@List.getD_eq_getElem?_getD
def ik:=@List.mem_map
def jB:=@and_true
def jC:=@List.all_eq_true
def jN:=@Array.getElem?_eq_getElem
def jO:=@Nat.add_mul
def jP:=@List.length_nil
def jx:=@Option.map_some
def kH:=@Go.Value.slice.injEq
def kI:=@List.length_take
def ke:=@List.append_assoc
def l7:=@Array.getElem?_toList
def l8:=@or_false
def lA:=@decide_eq_false_iff_not
def lN:=@List.cons.injEq
def lO:=@Bool.not_eq_true'
def lx:=@Go.run_underlying
def ly:=@List.drop_eq_getElem_cons
def lz:=@List.map_cons
def mS:=@Go.Addr.mk.injEq
def mT:=@Nat.mul_le_mul_right
def mU:=@List.take_succ_eq_append_getElem
def mq:=@List.not_mem_nil
def nI:=@List.getElem?_eq_none
def nJ:=@Bool.true_and
def nn:=@List.length_drop
def nq:=@List.map_append
def o4:=@Option.bind_some
def o5:=@List.getElem?_take
def o6:=@Nat.add_assoc
def o7:=@List.getElem?_append_left
def o8:=@List.length_map
def o9:=@List.cons_append
def oY:=@Ne.symm
def og:=@List.length_eq_zero_iff
def p8:=@List.getElem_of_mem
def p9:=@beq_iff_eq
def qR:=@List.getElem?_of_mem
def qS:=@List.getElem?_cons_zero
def qa:=@Nat.one_mul
def qb:=@List.getElem?_append_right
def qd:=@Bool.not_eq_true
def rI:=@Nat.add_zero
def rJ:=@Go.Sem.run_bind
def rK:=@List.drop_length
def rL:=@List.drop_drop
def s5:=@List.prefix_append
def s6:=@Nat.blt_eq
def s7:=@List.map_nil
def s8:=@List.take_length
def s9:=@List.drop_zero
def ta:=@List.prefix_refl
def uD:=@Array.getD_eq_getD_getElem?
def uE:=@List.length_singleton
def uF:=@Nat.pow_succ
def uG:=@and_self
def uH:=@List.mem_of_mem_take
def v7:=@Nat.mul_comm
def v8:=@Nat.pow_le_pow_right
def vV:=@true_and
def vW:=@List.getElem?_drop
def vX:=@Nat.sub_self
def vY:=@Nat.add_comm
def vZ:=@List.foldl_cons
def yi:=@Nat.zero_le
def yj:=@Option.map_eq_some_iff
def yk:=@List.mem_range
def yl:=@Array.getElem?_eq_none
def ym:=@List.singleton_append
def yn:=@Nat.lt_or_ge
def yo:=@List.map_congr_left
def yp:=@Bool.or_eq_true
def yq:=@Bool.false_and
namespace Go.Ev
open Go
abbrev cq:=List UInt8
structure dy where
 cu:Int
 dh:Int
 cV:Int
structure cG where
 name:cq
 cL:cq
 to:cq
 fx:Int
 arr:Int
 cap:Int
 dJ:List Int
 dD:List Int
 eH:List Int
 holds:List dy
structure Mark where
 cL:Int
 en:Int
inductive cn where
 |mk (op num:Int) (name:cq) (cU:List cn) (db:List Mark)
def cn.op:cn->Int|.mk a _ _ _ _=>a
def cn.num:cn->Int|.mk _ a _ _ _=>a
def cn.name:cn->cq|.mk _ _ a _ _=>a
def cn.cU:cn->List cn|.mk _ _ _ a _=>a
def cn.db:cn->List Mark|.mk _ _ _ _ a=>a
structure mE where
 name:cq
 num:Int
structure eI where
 op:Int
 num:Int
 name:cq
 db:List Mark
structure fN where
 name:cq
 dh:Int
 mf:cq
structure dm where
 cJ:List cq
 jd:cq
 cV:Int
structure dt where
 dx:cq
 dh:Int
 cV:Int
 eU:Int
structure cO where
 kind:Int
 cL:Int
 to:Int
 cu:Int
 ops:List dt
 yes:Bool
structure eD where
 cu:Int
 de:Int
 ops:List dt
structure cT where
 id:Int
 base:List cG
 dw:cq
 up:Bool
 cJ:List cG
 cB:List eD
structure eo where
 cu:Int
 lk:Int
 back:Int
 fY:dm
 en:Int
 de:Int
 eO:List Int
 yes:List Int
 jt:List Int
 lL:Int
structure dP where
 net:List cG
 ni:List Int
 ir:List fN
 dw:cq
 up:Bool
 next:Int
 cB:List eo
structure iV where
 lk:Int
 text:cq
structure World where
 fu:dP
 eO:List cT
 fV:List cO
 told:List iV
structure cY where
 kind:Int
 at':Int
 n:Int
 jI:Bool
 fY:dm
structure Rd where
 b:List Int
 p:Int
structure fJ where
 s:cq
 at':Int
 left:Int
 ok:Bool
inductive Ty where
 |bool
 |int (k:IntKind)
 |str
 |hold|dx|mark|mf|pair|ins|jd|fY|op|msg|stx|lE|ctx|fu|oC|world|event|rd|uk
 deriving DecidableEq
def El:Ty->Type|.bool=>Bool|.int _=>Int|.str=>cq|.hold=>dy|.dx=>cG|.mark=>Mark|.mf=>cn|.pair=>mE|.ins=>eI|.jd=>fN|.fY=>dm|.op=>dt|.msg=>cO|.stx=>eD|.lE=>cT|.ctx=>eo|.fu=>dP|.oC=>iV|.world=>World|.event=>cY|.rd=>Rd|.uk=>fJ
inductive Pl where
 |cD (k:Nat)
 |cell (k c:Nat)
 |sub (p:Pl) (t:Ty) (r:Int) (c:Nat)
inductive TV where
 |un
 |b (x:Bool)
 |i (k:IntKind) (n:Int)
 |s (x:cq)
 |nil
 |iq
 |eb (t:Ty) (xs:List (El t))
 |fS (t:Ty) (xs:List (El t))
 |own (d:Bool) (t:Ty) (xs:List (El t))
 |ko (t:Ty) (xs:List (El t)) (r:Int) (c:Nat)
 |vec (t:Ty) (xs:List (El t))
 |vw (p:Pl) (t:Ty)
 |pa (p:Pl) (t:Ty) (xs:List (El t))
 |sl (p:Pl) (t:Ty) (lo hi:Int)
 |ptr (k c:Nat)
 |pe (k:Nat) (n:Int)
 |ep (p:Pl) (t:Ty) (r:Int) (c:Nat)
 |ip (cells:List TV) (c:Nat)
 |iv (t:Ty) (xs:List (El t))
 |agg (cs:List TV)
 |fp (vs:List TV)
 |fn (f:Nat) (cap:List TV)
 |lY
 |np
 |er (x:Bool)
def sc(d:Bool)(t:Ty)(a:List (El t)):TV:=
 match d with
 |true=>.own true t a
 |false=>.eb t a
def enc(d:Bool):(t:Ty)->El t->List TV|.bool,x=>[.b x]|.int k,x=>[.i k x]|.str,x=>[.s x]|.hold,x=>[.i .i64 (dy.cu x),.i .i64 (dy.dh x),.i .i64 (dy.cV x)]|.dx,x=>[.s (cG.name x),.s (cG.cL x),.s (cG.to x),.i .i64 (cG.fx x),.i .i64 (cG.arr x),.i .i64 (cG.cap x),sc d (.int .i64) (cG.dJ x),sc d (.int .i64) (cG.dD x),sc d (.int .i64) (cG.eH x),sc d .hold (cG.holds x)]|.mark,x=>[.i .i64 (Mark.cL x),.i .i64 (Mark.en x)]|.mf,x=>[.i .i64 (cn.op x),.i .i64 (cn.num x),.s (cn.name x),sc d .mf (cn.cU x),sc d .mark (cn.db x)]|.pair,x=>[.s (mE.name x),.i .i64 (mE.num x)]|.ins,x=>[.i .i64 (eI.op x),.i .i64 (eI.num x),.s (eI.name x),sc d .mark (eI.db x)]|.jd,x=>[.s (fN.name x),.i .i64 (fN.dh x),.s (fN.mf x)]|.fY,x=>[sc d .str (dm.cJ x),.s (dm.jd x),.i .i64 (dm.cV x)]|.op,x=>[.s (dt.dx x),.i .i64 (dt.dh x),.i .i64 (dt.cV x),.i .i64 (dt.eU x)]|.msg,x=>[.i .i64 (cO.kind x),.i .i64 (cO.cL x),.i .i64 (cO.to x),.i .i64 (cO.cu x),sc d .op (cO.ops x),.b (cO.yes x)]|.stx,x=>[.i .i64 (eD.cu x),.i .i64 (eD.de x),sc d .op (eD.ops x)]|.lE,x=>[.i .i64 (cT.id x),sc d .dx (cT.base x),.s (cT.dw x),.b (cT.up x),sc d .dx (cT.cJ x),sc d .stx (cT.cB x)]|.ctx,x=>[.i .i64 (eo.cu x),.i .i64 (eo.lk x),.i .i64 (eo.back x),sc d .str (eo.fY x).cJ,.s (eo.fY x).jd,.i .i64 (eo.fY x).cV,.i .i64 (eo.en x),.i .i64 (eo.de x),sc d (.int .i64) (eo.eO x),sc d (.int .i64) (eo.yes x),sc d (.int .i64) (eo.jt x),.i .i64 (eo.lL x)]|.fu,x=>[sc d .dx (dP.net x),sc d (.int .i64) (dP.ni x),sc d .jd (dP.ir x),.s (dP.dw x),.b (dP.up x),.i .i64 (dP.next x),sc d .ctx (dP.cB x)]|.oC,x=>[.i .i64 (iV.lk x),.s (iV.text x)]|.world,x=>[sc d .dx (World.fu x).net,sc d (.int .i64) (World.fu x).ni,sc d .jd (World.fu x).ir,.s (World.fu x).dw,.b (World.fu x).up,.i .i64 (World.fu x).next,sc d .ctx (World.fu x).cB,sc d .lE (World.eO x),sc d .msg (World.fV x),sc d .oC (World.told x)]|.event,x=>[.i .i64 (cY.kind x),.i .i64 (cY.at' x),.i .i64 (cY.n x),.b (cY.jI x),sc d .str (cY.fY x).cJ,.s (cY.fY x).jd,.i .i64 (cY.fY x).cV]|.rd,x=>[sc d (.int .u8) (Rd.b x),.i .i64 (Rd.p x)]|.uk,x=>[.s (fJ.s x),.i .i64 (fJ.at' x),.i .i64 (fJ.left x),.b (fJ.ok x)]
def j2{t a:Ty}(h:t=a)(e:List (El t)):List (El a):=h ▸e
def fq(t:Ty):TV->Option (List (El t))
 |.eb a e=>if h:a=t then some (j2 h e) else none
 |.fS a e=>if h:a=t then some (j2 h e) else none
 |.own _ a e=>if h:a=t then some (j2 h e) else none
 |.nil=>some []
 |.iq=>some []
 |_=>none
def dec:(t:Ty)->List TV->Option (El t)
 |.bool,[.b x]=>some x
 |.int k,[.i u x]=>if u=k then some x else none
 |.str,[.s x]=>some x
 |.hold,[.i .i64 a,.i .i64 b,.i .i64 c]=>some (dy.mk a b c)
 |.dx,[.s a,.s b,.s c,.i .i64 d,.i .i64 e,.i .i64 f,g,h,i,j]=>
  match fq (.int .i64) g,fq (.int .i64) h,fq (.int .i64) i,fq .hold j with
  |some g,some h,some i,some j=>some (cG.mk a b c d e f g h i j)
  |_,_,_,_=>none
 |.mark,[.i .i64 a,.i .i64 b]=>some (Mark.mk a b)
 |.mf,[.i .i64 a,.i .i64 b,.s c,d,e]=>
  match fq .mf d,fq .mark e with
  |some d,some e=>some (cn.mk a b c d e)
  |_,_=>none
 |.pair,[.s a,.i .i64 b]=>some (mE.mk a b)
 |.ins,[.i .i64 a,.i .i64 b,.s c,d]=>
  match fq .mark d with
  |some d=>some (eI.mk a b c d)
  |_=>none
 |.jd,[.s a,.i .i64 b,.s c]=>some (fN.mk a b c)
 |.fY,[a,.s b,.i .i64 c]=>
  match fq .str a with
  |some a=>some (dm.mk a b c)
  |_=>none
 |.op,[.s a,.i .i64 b,.i .i64 c,.i .i64 d]=>some (dt.mk a b c d)
 |.msg,[.i .i64 a,.i .i64 b,.i .i64 c,.i .i64 d,e,.b f]=>
  match fq .op e with
  |some e=>some (cO.mk a b c d e f)
  |_=>none
 |.stx,[.i .i64 a,.i .i64 b,c]=>
  match fq .op c with
  |some c=>some (eD.mk a b c)
  |_=>none
 |.lE,[.i .i64 a,b,.s c,.b d,e,f]=>
  match fq .dx b,fq .dx e,fq .stx f with
  |some b,some e,some f=>some (cT.mk a b c d e f)
  |_,_,_=>none
 |.ctx,[.i .i64 a,.i .i64 b,.i .i64 c,l,.s f,.i .i64 s,.i .i64 p,.i .i64 A,x,y,z,.i .i64 g]=>
  match fq .str l,fq (.int .i64) x,fq (.int .i64) y,fq (.int .i64) z with
  |some l,some x,some y,some z=>some (eo.mk a b c (dm.mk l f s) p A x y z g)
  |_,_,_,_=>none
 |.fu,[a,b,c,.s d,.b e,.i .i64 f,g]=>
  match fq .dx a,fq (.int .i64) b,fq .jd c,fq .ctx g with
  |some a,some b,some c,some g=>some (dP.mk a b c d e f g)
  |_,_,_,_=>none
 |.oC,[.i .i64 a,.s b]=>some (iV.mk a b)
 |.world,[a,b,c,.s d,.b e,.i .i64 f,g,h,i,j]=>
  match fq .dx a,fq (.int .i64) b,fq .jd c,fq .ctx g,fq .lE h,fq .msg i,fq .oC j with
  |some a,some b,some c,some g,some h,some i,some j=>some (World.mk (dP.mk a b c d e f g) h i j)
  |_,_,_,_,_,_,_=>none
 |.event,[.i .i64 a,.i .i64 b,.i .i64 c,.b d,l,.s f,.i .i64 s]=>
  match fq .str l with
  |some l=>some (cY.mk a b c d (dm.mk l f s))
  |_=>none
 |.rd,[a,.i .i64 b]=>
  match fq (.int .u8) a with
  |some a=>some (Rd.mk a b)
  |_=>none
 |.uk,[.s a,.i .i64 b,.i .i64 c,.b d]=>some (fJ.mk a b c d)
 |_,_=>none
inductive Fl where
 |l|s|d
def eZ:Ty->Bool|.bool|.int _|.str|.hold|.mark|.pair|.jd|.op|.oC|.uk=>true|_=>false
def vJ:Fl->TV->TV|.s,.eb t a=>.own (eZ t) t a|.d,.eb t a=>.own true t a|_,v=>v
def jz:List Fl->List TV->List TV|f::fs,c::a=>vJ f c::jz fs a|_,a=>a
inductive Tr (α:Type) where
 |lf
 |nd (l:Tr α) (v:α) (r:Tr α)
def Tr.get{a:Type}(z:a):Tr a->Nat->a|.lf,_=>z|.nd l v r,n=>bif Nat.beq n 0 then v else bif Nat.beq (Nat.mod n 2) 1 then l.get z (Nat.div n 2) else r.get z (Nat.sub (Nat.div n 2) 1)
def Tr.set{a:Type}:Tr a->Nat->a->Tr a|.lf,_,_=>.lf|.nd l v r,n,x=>bif Nat.beq n 0 then .nd l x r else bif Nat.beq (Nat.mod n 2) 1 then .nd (l.set (Nat.div n 2) x) v r else .nd l v (r.set (Nat.sub (Nat.div n 2) 1) x)
def Tr.map{a:Type}(f:a->a):Tr a->Tr a|.lf=>.lf|.nd l v r=>.nd (l.map f) (f v) (r.map f)
def Tr.full{a:Type}(z:a):Nat->Tr a|0=>.lf|n+1=>.nd (Tr.full z n) z (Tr.full z n)
inductive BC where
 |none
 |cells (cs:List TV)
 |vec (t:Ty) (xs:List (El t))
 |iL (x:cq)
structure TS where
 t:Tr TV
 h:Tr BC
def um{R:Type}(b:Bool)(x y:Option R):Option R:=cond b x y
def ck{a R:Type}(o:Option a)(f:a->Option R):Option R:=Option.bind o f
def dV(b:Bool):Option Unit:=cond b (some ()) none
def cz(k:IntKind)(a b:Int):Int:=k.wrap (a+b)
def cX(k:IntKind)(a b:Int):Int:=k.wrap (a-b)
def eM(k:IntKind)(a b:Int):Int:=k.wrap (a*b)
def jT(k:IntKind)(a b:Int):Option Int:=if b=0 then none else some (k.wrap (a.tdiv b))
def kg(a b:Int):Option Int:=if b=0 then none else some (a.tmod b)
def iw(k:IntKind)(a b:Int):Int:=k.wrap (BitVec.ofInt k.bits a&&&BitVec.ofInt k.bits b).toNat
def l5(k:IntKind)(a b:Int):Int:=k.wrap (BitVec.ofInt k.bits a|||BitVec.ofInt k.bits b).toNat
def fe(k:IntKind)(a b:Int):Int:=k.wrap (BitVec.ofInt k.bits a^^^BitVec.ofInt k.bits b).toNat
def Xw(k:IntKind)(a b:Int):Int:=k.wrap (BitVec.ofInt k.bits a&&&~~~BitVec.ofInt k.bits b).toNat
def tY(k:IntKind)(a:Int):Int:=fe k (if k.signed then-1 else k.max) a
def pH(k:IntKind)(a b:Int):Option Int:=if b<0 then none else some (k.wrap (a*2^min b.toNat k.bits))
def kL(k:IntKind)(a b:Int):Option Int:=if b<0 then none else some (a.fdiv (2^min b.toNat k.bits))
def eY(k:IntKind)(a:Int):Int:=k.wrap a
def gG(k:IntKind)(a:Int):Int:=k.wrap (0-a)
def cp(a b:Int):Bool:=decide (a=b)
def cC(a b:Int):Bool:=decide (a<b)
def dI(a b:Int):Bool:=decide (a<=b)
def Aa(a b:Int):Int:=if b<a then b else a
def imax(a b:Int):Int:=if b>a then b else a
def pI(a b:Int):Int:=a+b
def xL(a b:Int):Int:=a-b
def cF(a:Bool):Bool:=!a
def ju(a b:Bool):Bool:=decide (a=b)
def fP(a b:Bool):Bool:=a&&b
def eF(a:cq):Int:=a.length
def iG(a:cq)(n:Int):Option Int:=if 0<=n then(a[n.toNat]?).map (λc=>(c.toNat:Int)) else none
def fF(a:cq)(l h:Int):Option cq:=if 0<=l/\l<=h/\h<=a.length then some ((a.drop l.toNat).take (h.toNat-l.toNat)) else none
def da(a b:cq):Option cq:=if((a.length+b.length:Nat):Int)>IntKind.i64.max then none else some (a++b)
def dz(a b:cq):Bool:=decide (a=b)
def Qf(a b:cq):Bool:=Op.bytesLess a b
def dL(a:cq):List Int:=a.map λc=>(c.toNat:Int)
def je(a:List Int):cq:=a.map λn=>UInt8.ofNat n.toNat
def cA{e:Type}(a:List e):Int:=a.length
def cm{α:Type}(a:List α)(n:Int):Option α:=if 0<=n then a[n.toNat]? else none
def du{α:Type}(a:List α)(n:Int)(x:α):List α:=a.set n.toNat x
def ff{e:Type}(a:List e)(l h:Int):Option (List e):=if 0<=l/\l<=h/\h<=a.length then some ((a.drop l.toNat).take (h.toNat-l.toNat)) else none
def pJ{e:Type}(a:List e)(l h:Int):Bool:=decide (l=0/\h=a.length)
def kM(l h n:Int):Bool:=decide (0<=l/\l<=h/\h<=n)
def cZ{j:Type}(e:Nat)(a b:List j):Option (List j):=if 2*(a.length+b.length)*e<=2^48/\a.length+b.length<=2^62 then some (a++b) else none
def tZ{α:Type}(n:Nat)(x:α):List α:=List.replicate n x
def xU{e:Type}(a:Nat)(n m:Int)(x:e):Option (List e):=if 0<=n/\n<=m/\m*a<=2^48/\m<=2^62 then some (List.replicate n.toNat x) else none
section
inductive TI where
 |bool
 |int (k:IntKind)
 |str
 |sl (e:Ty) (sz gq:Nat)
 |st (t:Ty) (n:Nat) (fs:List (Nat×Nat))
 |ar (n:Nat) (e:Ty)
 |ptr
 |sL
 |iL
 |other
def TI.sz:TI->Nat|.st _ n _=>n|.ar n _=>n|_=>1
def TI.ag:TI->Bool|.st ..=>true|.ar ..=>true|_=>false
def lV:List (Nat×TI)->Nat->TI|[],_=>.other|(k,i)::r,n=>bif Nat.beq k n then i else lV r n
def jA:TI->TV->Bool|.bool,.b _=>true|.int _,.i _ _=>true|.str,.s _=>true|.st _ _ _,.agg _=>true|.sL,.er _=>true|.sL,.lY=>true|.ar _ e,.vec t _=>decide (e=t)|.ar _ e,.iv t _=>decide (e=t)|.ar _ _,.ptr _ _=>true|.sl e _ _,.eb t _=>decide (e=t)|.sl e _ _,.fS t _=>decide (e=t)|.sl e _ _,.own _ t _=>decide (e=t)|.sl e _ _,.vw _ t=>decide (e=t)|.sl e _ _,.sl _ t _ _=>decide (e=t)|.sl _ _ _,.nil=>true|.sl _ _ _,.iq=>true|_,_=>false
def CR:TI->Bool|.sl (.int .u8) _ _=>true|_=>false
def TI.var:TI->Bool|.other=>false|.iL=>false|_=>true
def gJ:Ty->Bool|.bool|.int _|.str=>false|_=>true
inductive VS where
 |el (t:Ty) (m:List Fl)
 |sl (f:Fl) (t:Ty)
 |fS (t:Ty)
 |vec (t:Ty)
 |er
def VS.T:VS->Type|.el t _=>El t|.sl _ t=>List (El t)|.fS t=>List (El t)|.vec t=>List (El t)|.er=>Bool
inductive dX where
 |val (s:VS)
 |pb (t:Ty) (m m':List Fl)
 |pr (t:Ty)
 |mu (t:Ty)
 |rp (t:Ty)
 |bd
 |fn (g:Nat) (ts:List Ty)
inductive fC where
 |val (s:VS)
 |nb (t:Ty) (m:List Fl)
def qI:List Ty->Type|[]=>Unit|t::a=>El t×qI a
def dX.T:dX->Type|.val s=>s.T|.pb t _ _=>El t|.pr t=>List (El t)×Int|.mu t=>List (El t)|.rp t=>El t|.bd=>cq|.fn _ a=>qI a
def dX.O:dX->Type|.val _=>Unit|.pb t _ _=>El t|.pr t=>List (El t)|.mu t=>List (El t)|.rp _=>Unit|.bd=>cq|.fn _ _=>Unit
def fC.T:fC->Type|.val s=>s.T|.nb t _=>El t
def oS:List dX->Type|[]=>Unit|p::a=>p.T×oS a
def n8:List dX->Type|[]=>Unit|p::a=>p.O×n8 a
def j7:List fC->Type|[]=>Unit|p::a=>p.T×j7 a
structure gN where
 ps:List dX
 rs:List fC
 ua:Bool
 X:Type
 f:oS ps->Option X
 back:X->j7 rs×n8 ps
inductive fK where
 |val (s:VS)
 |ptr (k c:Nat)
 |vw (p:Pl) (t:Ty)
 |sv (p:Pl) (t:Ty)
 |ep (p:Pl) (t:Ty) (c:Nat)
 |fn (g:Nat) (ts:List Ty)
inductive gw where
 |st (t:Ty) (m:List Fl)
 |one (s:VS)
 |vec (t:Ty)
 |zr (cs:List TV)
 |iL
def fK.T:fK->Type|.val s=>s.T|.ptr _ _=>Unit|.vw _ _=>Unit|.sv _ _=>Int×Int|.ep _ _ _=>Int|.fn _ a=>qI a
def gw.T:gw->Type|.st t _=>El t|.one s=>s.T|.vec t=>List (El t)|.zr _=>Unit|.iL=>cq
structure Live where
 sl:List (Nat×fK)
 bx:List (Nat×gw)
def G6:List (Nat×fK)->Type|[]=>Unit|p::a=>p.2.T×G6 a
def G7:List (Nat×gw)->Type|[]=>Unit|p::a=>p.2.T×G7 a
abbrev Live.V(l:Live):Type:=G6 l.sl×G7 l.bx
structure Qs (R:Type) where
 si:Live
 so:Live
 L:si.V->(so.V->Option R)->Option R
def GB:List (Nat×Nat×gN)->Nat->Option Nat->Option gN
 |[],_,_=>none
 |(g,h,c)::r,x,y=>bif (bif Nat.beq g x then Nat.beq h (match y with|none=>0|some y=>Nat.succ y) else false) then some c else GB r x y
structure Cx where
 ty:List (Nat×TI)
 gl:Nat->TV
 fz:Pl->Bool
 vK:Bool
 al:Nat->Bool
 vs:Nat->Bool
 pre:Nat->List Pl
 fn:Nat->Option Nat->Option gN
 gb:Nat->Option Obj:=λ_=>none
structure Ctx (R:Type) where
 c:Cx
 loops:Nat->Option (Qs R)
 Dg:TS->Option R
def qJ:Value->TV|.bool x=>.b x|.int k n=>.i k n|.string x=>.s x.data.toList|.slice none 0 0=>.nil|.nilIface=>.lY|.pointer none=>.np|_=>.un
def xV:Value->TV|.agg a=>.agg (a.toList.map qJ)|v=>qJ v
def nth:List TV->Nat->TV|[],_=>.un|v::_,0=>v|_::r,n+1=>nth r n
def ld:List TV->Nat->TV->List TV|[],_,_=>[]|_::r,0,x=>x::r|v::r,n+1,x=>v::ld r n x
def takeN:Nat->List TV->List TV|0,_=>[]|_,[]=>[]|n+1,v::r=>v::takeN n r
def vh:Nat->List TV->List TV|0,l=>l|_,[]=>[]|n+1,_::r=>vh n r
def Dh:List TV->List TV->List TV|[],l=>l|v::r,l=>v::Dh r l
def qw:List TV->Nat|[]=>0|_::r=>Nat.succ (qw r)
def pK(a:List TV)(c:Nat)(e:List TV):List TV:=Dh (takeN c a) (Dh e (vh (Nat.add c (qw e)) a))
def Pl.l6(k:Nat):Pl->Bool|.cD a=>Nat.beq k a|.cell _ _=>false|.sub p _ _ _=>p.l6 k
def Pl.ig(k:Nat):Pl->Bool|.cD _=>false|.cell a _=>Nat.beq k a|.sub p _ _ _=>p.ig k
def Pl.n9(k:Nat):Pl->Bool|.sub p _ _ _=>p.l6 k|_=>false
def Pl.oa(k:Nat):Pl->Bool|.sub p _ _ _=>p.ig k|_=>false
def Pl.jD:Pl->Pl->Bool|.cD k=>Pl.l6 k|.cell k _=>Pl.ig k|.sub p _ _ _=>p.jD
def Pl.jG:Pl->Bool|.sub ..=>true|_=>false
def Pl.beq:Pl->Pl->Bool|.cD k,.cD a=>Nat.beq k a|.cell k c,.cell a e=>bif Nat.beq k a then Nat.beq c e else false|_,_=>false
def ky(a:Pl->Bool):TV->TV|.vw p t=>bif a p then .un else .vw p t|.pa p t e=>bif a p then .un else .pa p t e|.sl p t j u=>bif a p then .un else .sl p t j u|.ep p t r c=>bif a p then .un else .ep p t r c|v=>v
def kill(a:Pl->Bool):TV->TV|.agg e=>.agg (e.map (ky a))|v=>ky a v
def TS.kill(s:TS)(a:Pl->Bool):TS:=⟨s.t.map (Ev.kill a),s.h⟩
def q8(a:Pl->Bool):TV->TV|.pa p t e=>bif a p then .un else .pa p t e|v=>v
def TS.gv(s:TS)(a:Pl->Bool):TS:=⟨s.t.map (Ev.q8 a),s.h⟩
def ptrTo(d:Nat):TV->Bool|.ptr k _=>Nat.beq k d|.pe k _=>Nat.beq k d|_=>false
def nS(d:Nat):List TV->Bool|[]=>false|v::a=>bif ptrTo d v then true else nS d a
def gr(d:Nat):TV->TV|.ptr k c=>bif Nat.beq k d then .un else .ptr k c|.pe k n=>bif Nat.beq k d then .un else .pe k n|.fn g a=>bif nS d a then .un else .fn g a|v=>v
def TS.gr(s:TS)(d:Nat):TS:=⟨s.t.map (λv=>Ev.gr d (Ev.kill (Pl.ig d) v)),s.h⟩
def TS.cD(s:TS)(k:Nat):TV:=s.t.get .un k
def TS.box(s:TS)(k:Nat):BC:=s.h.get .none k
def TS.raw(s:TS)(k:Nat)(v:TV):TS:=⟨s.t.set k v,s.h⟩
def TS.bx(s:TS)(k:Nat)(v:BC):TS:=⟨s.t,s.h.set k v⟩
variable(C:Cx)
def TS.put(s:TS)(k:Nat)(v:TV):TS:=bif C.vs k then(s.kill (Pl.l6 k)).raw k (Ev.kill (Pl.l6 k) v) else s.raw k v
def eA(s:TS)(d:Option Nat)(v:TV):TS:=
 match d with
 |some d=>s.put C d v
 |none=>s
section
variable{R:Type}
def j4(s:TS):Pl->(TV->Option R)->Option R
 |.cD k,K=>bif C.vs k then K (s.cD k) else none
 |.cell k c,K=>
  match s.box k with
  |.cells j=>K (nth j c)
  |_=>none
 |.sub p t r c,K=>j4 s p λv=>
  match v with
  |.own d a e=>bif decide (a=t) then ck (cm e r) λx=>K (nth (enc d a x) c) else none
  |.eb a e=>bif decide (a=t) then ck (cm e r) λx=>K (nth (enc false a x) c) else none
  |_=>none
def PN:TV->Bool|.own _ _ _=>false|.ko _ _ _ _=>false|.agg _=>false|.fp _=>false|_=>true
def qk:TV->Bool|.eb ..=>false|.fS ..=>false|.own d t _=>bif eZ t then true else d|.b _=>true|.i _ _=>true|.s _=>true|.nil=>true|.iq=>true|_=>false
def deep:List TV->Bool|[]=>true|c::a=>bif qk c then deep a else false
def rk(s:TS):Pl->(TV->(TV->Option R)->Option R)->(TS->Option R)->Option R
 |.cD k,f,K=>bif C.vs k then f (s.cD k) λv=>K ((s.kill (Pl.n9 k)).raw k v) else none
 |.cell k c,f,K=>
  match s.box k with
  |.cells e=>f (nth e c) λv=>K ((s.kill (Pl.oa k)).bx k (.cells (ld e c v)))
  |_=>none
 |.sub p t r c,f,K=>rk s p (λv y=>
  match v with
  |.own true a j=>bif decide (a=t) then ck (cm j r) λx=>f (nth (enc true a x) c) λu=>
   match qk u,dec a (ld (enc true a x) c u) with
   |true,some A=>y (.own true a (du j r A))
   |_,_=>none
   else none
  |_=>none) K
def nf(s:TS):Pl->(TS->Option R)->Option R
 |.cD k,K=>K ((s.kill (Pl.n9 k)).raw k .un)
 |.cell k c,K=>
  match s.box k with
  |.cells e=>K ((s.kill (Pl.oa k)).bx k (.cells (ld e c .un)))
  |_=>none
 |.sub (.cD k) t r c,K=>
  match s.cD k with
  |.own true a u=>bif decide (a=t) then K ((s.kill (Pl.n9 k)).raw k (.ko a u r c)) else none
  |_=>none
 |.sub (.cell k j) t r c,K=>
  match s.box k with
  |.cells e=>
   match nth e j with
   |.own true a u=>bif decide (a=t) then K ((s.kill (Pl.oa k)).bx k (.cells (ld e j (.ko a u r c)))) else none
   |_=>none
  |_=>none
 |.sub _ _ _ _,_=>none
def kh:TV->TV|.own _ t a=>.eb t a|v=>v
def u5:TV->TV|.own _ t a=>.own (eZ t) t a|v=>v
def ub(s:TS):Pl->(TS->Option R)->Option R
 |.cD k,K=>K ((s.gv (Pl.l6 k)).raw k (u5 (s.cD k)))
 |.cell k c,K=>
  match s.box k with
  |.cells a=>K ((s.gv (Pl.ig k)).bx k (.cells (ld a c (u5 (nth a c)))))
  |_=>none
 |.sub p _ _ _,K=>ub s p K
def sE(s:TS):Pl->(TS->Option R)->Option R
 |.cD k,K=>K ((s.gv (Pl.l6 k)).raw k (kh (s.cD k)))
 |.cell k c,K=>
  match s.box k with
  |.cells a=>K ((s.gv (Pl.ig k)).bx k (.cells (ld a c (kh (nth a c)))))
  |_=>none
 |.sub p _ _ _,K=>ub s p K
def KE:List Pl->TS->(TS->Option R)->Option R|[],s,K=>K s|p::a,s,K=>sE s p λe=>KE a e K
def cv(m:Bool->Pl->Bool)(v:TV)(s:TS)(K:TV->TS->Option R):Option R:=
 match v with
 |.vw p _=>j4 C s p λx=>
  match x with
  |.own d t a=>
   match m true p with
   |true=>sE s p λe=>K (.eb t a) e
   |false=>nf s p λe=>K (.own d t a) e
  |.eb t a=>K (.eb t a) s
  |_=>none
 |.sl p t0 j u=>j4 C s p λx=>
  match x with
  |.own d t a=>bif decide (t=t0) then(
   match m false p with
   |true=>ck (ff a j u) λy=>sE s p λe=>K (.eb t y) e
   |false=>ck (dV (pJ a j u)) λ_=>nf s p λe=>K (.own d t a) e) else none
  |.eb t a=>bif decide (t=t0) then ck (ff a j u) λy=>K (.eb t y) s else none
  |_=>none
 |.own d t a=>K (.own d t a) s
 |.eb t a=>K (.eb t a) s
 |.fS t a=>K (.eb t a) s
 |.b x=>K (.b x) s
 |.i k n=>K (.i k n) s
 |.s x=>K (.s x) s
 |.nil=>K .nil s
 |.iq=>K .iq s
 |_=>none
def pU(m:Bool->Pl->Bool):List TV->TS->(List TV->TS->Option R)->Option R|[],s,K=>K [] s|v::j,s,K=>cv C m v s λu x=>pU m j x λa e=>K (u::a) e
def viewAt(p:Pl):TV->TV|.own _ t _=>.vw p t|.ko t _ _ _=>.vw p t|v=>v
def sw(p:Nat->Pl):Nat->List TV->List TV|_,[]=>[]|j,v::a=>viewAt (p j) v::sw p (Nat.succ j) a
def nE(k:Nat):TV->TV|.own _ t _=>bif C.vs k then .vw (.cD k) t else .un|.ko t _ _ _=>bif C.vs k then .vw (.cD k) t else .un|v=>v
def dn(s:TS):Operand->TV|.tmp k=>nE C k (s.cD k)|.const v=>xV v|.global g=>C.gl g|.func n=>.fn n []
def iH(s:TS):Operand->TS
 |.tmp k=>
  match s.cD k with
  |.agg _=>s.raw k .un
  |.fp _=>s.raw k .un
  |_=>s
 |_=>s
def Cx.dj(n:Nat):TI:=lV C.ty n
def uc:List (Nat×Nat)->Nat->List TV->List TV->Bool
 |[],_,[],[]=>true
 |(a,x)::r,n,c::e,d::j=>bif Nat.beq a n then(
  match C.dj x,c,d with
  |.int k,.i y _,.i u _=>bif decide (y=k) then(bif decide (u=k) then uc r (Nat.succ n) e j else false) else false
  |.str,.s _,.s _=>uc r (Nat.succ n) e j
  |.bool,.b _,.b _=>uc r (Nat.succ n) e j
  |_,_,_=>false) else false
 |_,_,_,_=>false
def G8(a:TI)(x y:TV):Bool:=
 match x,y with
 |.i _ _,_=>true
 |.s _,_=>true
 |.agg e,.agg j=>
  match a with
  |.st _ _ fs=>uc C fs 0 e j
  |_=>false
 |x,_=>jA a x
def Cx.md(w:Bool)(p:Pl):Bool:=bif w then C.fz p else bif C.vK then C.fz p else true
def cellsOf:TV->List TV|.agg a=>a|v=>[v]
def sx(e:Bool)(a:List TV):TV:=bif e then .agg a else nth a 0
def room(c n:Nat)(a:List TV):Bool:=Nat.ble (Nat.add c n) (qw a)
def uo(s:TS)(n:Nat)(u:Bool)(a:TV)(K:TV->Option R):Option R:=
 match a with
 |.ptr k c=>
  match s.box k with
  |.cells A=>bif room c n A then K (sx u (sw (λj=>.cell k (Nat.add c j)) 0 (takeN n (vh c A)))) else none
  |.vec t e=>bif u then(bif Nat.beq c 0 then ck (dV (cp (cA e) n)) λ_=>K (.vec t e) else none) else none
  |_=>none
 |.pe k r=>
  match s.box k with
  |.vec t e=>ck (cm e r) λx=>bif u then none else K (nth (enc false t x) 0)
  |_=>none
 |.ep p t r c=>j4 C s p λv=>
  match v with
  |.own d y e=>bif decide (y=t) then ck (cm e r) λx=>bif room c n (enc d y x) then K (sx u (sw (λj=>.sub p t r (Nat.add c j)) 0 (takeN n (vh c (enc d y x))))) else none else none
  |.eb y e=>bif decide (y=t) then ck (cm e r) λx=>bif room c n (enc false y x) then K (sx u (takeN n (vh c (enc false y x)))) else none else none
  |_=>none
 |.ip A c=>bif room c n A then K (sx u (takeN n (vh c A))) else none
 |.iv t e=>bif u then ck (dV (cp (cA e) n)) λ_=>K (.vec t e) else none
 |_=>none
def one?(t:Ty)(a:List TV)(K:El t->Option R):Option R:=
 match dec t a with
 |some x=>K x
 |none=>none
def KF:TV->TV->Bool|.pa (.sub q t r c) _ _,.ep p a j e=>bif Pl.beq p q then(bif decide (a=t) then Nat.beq c e else false) else false|_,_=>false
def G9(s:TS)(n:Nat)(a:TV)(v:TV)(K:TS->Option R):Option R:=
 match v with
 |.vec t j=>
  match a with
  |.ptr k c=>
   match s.box k with
   |.vec e E=>bif decide (e=t) then(bif Nat.beq c 0 then ck (dV (fP (cp (cA j) n) (cp (cA E) n))) λ_=>K ((s.kill (Pl.ig k)).bx k (.vec t j)) else none) else none
   |_=>none
  |_=>none
 |.pa (.sub q P r M) t j=>
  match a with
  |.ep p e F I=>bif (bif KF (.pa (.sub q P r M) t j) (.ep p e F I) then Nat.beq n 1 else false) then ck (dV (cp r F)) λ_=>rk C s p (λv H=>
   match v with
   |.own true u E=>bif decide (u=e) then ck (cm E r) λy=>one? u (ld (enc true u y) M (.own true t j)) λQ=>H (.own true u (du E r Q)) else none
   |_=>none) K else none
  |_=>none
 |v=>bif Nat.beq (qw (cellsOf v)) n then pU C C.md (cellsOf v) s λA s=>
  match a with
  |.ptr k c=>
   match s.box k with
   |.cells N=>bif room c n N then K ((s.kill (Pl.ig k)).bx k (.cells (pK N c A))) else none
   |_=>none
  |.pe k r=>
   match s.box k with
   |.vec t j=>one? t A λx=>ck (cm j r) λ_=>K ((s.kill (Pl.ig k)).bx k (.vec t (du j r x)))
   |_=>none
  |.ep p t r c=>rk C s p (λv H=>
   match v with
   |.own d e j=>bif decide (e=t) then ck (cm j r) λx=>bif room c n (enc d e x) then one? e (pK (enc d e x) c A) λJ=>H (.own (bif eZ e then true else bif deep A then d else false) e (du j r J)) else none else none
   |.ko e j F I=>bif decide (e=t) then ck (dV (cp F r)) λ_=>ck (cm j r) λx=>one? e (pK (enc true e x) c A) λJ=>bif (bif Nat.beq c I then(bif Nat.beq (qw A) 1 then deep A else false) else false) then H (.own true e (du j r J)) else none else none
   |_=>none) K
  |_=>none
  else none
def rm(a:TV)(n:Nat)(K:TV->Option R):Option R:=
 match a with
 |.ptr k c=>K (.ptr k (Nat.add c n))
 |.ep p t r c=>K (.ep p t r (Nat.add c n))
 |.ip e c=>K (.ip e (Nat.add c n))
 |.pe k r=>bif Nat.beq n 0 then K (.pe k r) else none
 |.iv t j=>bif Nat.beq n 0 then K (.iv t j) else none
 |_=>none
def TI.len:TI->Nat|.ar n _=>n|_=>0
def TI.X4:TI->Ty|.sl e _ _=>e|.ar _ e=>e|_=>.bool
def uq(s:TS)(e:Ty)(j:Nat)(x E:TV)(K:TV->Option R):Option R:=
 match E with
 |.i _ n=>
  match x with
  |.vw p _=>j4 C s p λv=>
   match v with
   |.own _ t a=>bif decide (e=t) then ck (cm a n) λ_=>K (.ep p t n 0) else none
   |.ko t a _ _=>bif decide (e=t) then ck (cm a n) λ_=>K (.ep p t n 0) else none
   |.eb t a=>bif decide (e=t) then ck (cm a n) λx=>K (.ip (enc false t x) 0) else none
   |_=>none
  |.sl p t0 u A=>j4 C s p λv=>
   match v with
   |.own _ t a=>bif decide (t=t0) then ck (ff a u A) λy=>ck (cm y n) λ_=>K (.ep p t (pI u n) 0) else none
   |.eb t a=>bif decide (t=t0) then ck (ff a u A) λy=>ck (cm y n) λx=>K (.ip (enc false t x) 0) else none
   |_=>none
  |.eb t a=>ck (cm a n) λx=>K (.ip (enc false t x) 0)
  |.fS t a=>ck (cm a n) λx=>K (.ip (enc false t x) 0)
  |.ptr k c=>
   match s.box k with
   |.vec t a=>bif decide (e=t) then(bif Nat.beq c 0 then ck (dV (cC n j)) λ_=>ck (cm a n) λ_=>K (.pe k n) else none) else none
   |_=>none
  |.iv t a=>ck (dV (cC n j)) λ_=>ck (cm a n) λx=>K (.ip (enc false t x) 0)
  |_=>none
 |_=>none
def jK:List TV->List TV->Option Bool
 |[],[]=>some true
 |[.i _ a],[.i _ c]=>some (cp a c)
 |[.s a],[.s c]=>some (dz a c)
 |[.b a],[.b c]=>some (ju a c)
 |.i _ a::r,.i _ c::e=>match jK r e with|some q=>some (fP (cp a c) q)|none=>none
 |.s a::r,.s c::e=>match jK r e with|some q=>some (fP (dz a c) q)|none=>none
 |.b a::r,.b c::e=>match jK r e with|some q=>some (fP (ju a c) q)|none=>none
 |_,_=>none
def Ak(e:BinOp)(k:IntKind)(a c:Int)(K:TV->Option R):Option R:=
 match e with
 |.add=>K (.i k (cz k a c))
 |.sub=>K (.i k (cX k a c))
 |.mul=>K (.i k (eM k a c))
 |.quo=>ck (jT k a c) λn=>K (.i k n)
 |.rem=>ck (kg a c) λn=>K (.i k n)
 |.and=>K (.i k (iw k a c))
 |.or=>K (.i k (l5 k a c))
 |.xor=>K (.i k (fe k a c))
 |.andNot=>K (.i k (Xw k a c))
 |.eql=>K (.b (cp a c))
 |.neq=>K (.b (cF (cp a c)))
 |.lss=>K (.b (cC a c))
 |.leq=>K (.b (dI a c))
 |.gtr=>K (.b (cC c a))
 |.geq=>K (.b (dI c a))
 |.shl=>ck (pH k a c) λn=>K (.i k n)
 |.shr=>ck (kL k a c) λn=>K (.i k n)
def LD:BinOp->Bool|.shl|.shr=>true|_=>false
def Du(e:BinOp)(x y:TV)(K:TV->Option R):Option R:=
 match x,y with
 |.i k a,.i j c=>bif LD e then Ak e k a c K else bif decide (j=k) then Ak e k a c K else none
 |.s a,.s c=>
  match e with
  |.add=>ck (da a c) λr=>K (.s r)
  |.eql=>K (.b (dz a c))
  |.neq=>K (.b (cF (dz a c)))
  |.lss=>K (.b (Qf a c))
  |_=>none
 |.b a,.b c=>
  match e with
  |.eql=>K (.b (ju a c))
  |.neq=>K (.b (cF (ju a c)))
  |_=>none
 |.er a,.lY=>
  match e with
  |.eql=>K (.b (cF a))
  |.neq=>K (.b a)
  |_=>none
 |.agg a,.agg c=>
  match e,jK a c with
  |.eql,some q=>K (.b q)
  |.neq,some q=>K (.b (cF q))
  |_,_=>none
 |_,_=>none
def LF(e:UnOp)(x:TV)(K:TV->Option R):Option R:=
 match e,x with
 |.neg,.i k n=>K (.i k (gG k n))
 |.not,.b a=>K (.b (cF a))
 |.xor,.i k n=>K (.i k (tY k n))
 |_,_=>none
def GS(s:TS)(x:TV)(K:Int->Option R):Option R:=
 match x with
 |.s a=>K (eF a)
 |.eb _ e=>K (cA e)
 |.fS _ e=>K (cA e)
 |.nil=>K 0
 |.iq=>K 0
 |.vw p _=>j4 C s p λv=>
  match v with
  |.own _ _ e=>K (cA e)
  |.ko _ e _ _=>K (cA e)
  |.eb _ e=>K (cA e)
  |_=>none
 |.sl _ _ j u=>K (xL u j)
 |_=>none
def iy(s:TS)(d:Int):Option Operand->Option Int
 |none=>some d
 |some x=>
  match dn C s x with
  |.i _ n=>some n
  |_=>none
def Ab{t:Ty}(a:List (El t))(l h m:Int)(K:TV->Option R):Option R:=ck (dV (cp m h)) λ_=>ck (ff a l h) λe=>K (.fS t e)
def sM(s:TS)(x:TV)(u j y:Option Operand)(K:TV->Option R):Option R:=
 match x with
 |.s a=>
  match iy C s 0 u,iy C s (eF a) j,y with
  |some l,some h,none=>ck (fF a l h) λr=>K (.s r)
  |_,_,_=>none
 |.eb t e=>
  match iy C s 0 u,iy C s (cA e) j,y with
  |some l,some h,none=>ck (ff e l h) λA=>K (.eb t A)
  |some l,some h,some m=>
   match j,iy C s 0 (some m) with
   |some _,some m=>Ab e l h m K
   |_,_=>none
  |_,_,_=>none
 |.fS t e=>
  match iy C s 0 u,iy C s (cA e) j,y with
  |some l,some h,none=>ck (ff e l h) λA=>K (.eb t A)
  |some l,some h,some m=>
   match j,iy C s 0 (some m) with
   |some _,some m=>Ab e l h m K
   |_,_=>none
  |_,_,_=>none
 |.vw p t=>j4 C s p λv=>
  match v with
  |.own _ E e=>bif decide (E=t) then(match iy C s 0 u,iy C s (cA e) j,y with
   |some l,some h,none=>ck (dV (kM l h (cA e))) λ_=>K (.sl p t l h)
   |some l,some h,some m=>
    match j,iy C s 0 (some m) with
    |some _,some m=>ck (dV (fP (kM l h (cA e)) (cp m h))) λ_=>K (.sl p t l h)
    |_,_=>none
   |_,_,_=>none) else none
  |.eb E e=>bif decide (E=t) then(match iy C s 0 u,iy C s (cA e) j,y with
   |some l,some h,none=>ck (ff e l h) λA=>K (.eb E A)
   |_,_,_=>none) else none
  |_=>none
 |.sl p t a b=>
  match iy C s 0 u,iy C s (xL b a) j,y with
  |some l,some h,none=>ck (dV (kM l h (xL b a))) λ_=>K (.sl p t (pI a l) (pI a h))
  |_,_,_=>none
 |.nil=>
  match iy C s 0 u,iy C s 0 j,y with
  |some l,some h,none=>ck (dV (fP (cp l 0) (cp h 0))) λ_=>K .nil
  |some l,some h,some m=>
   match j,iy C s 0 (some m) with
   |some _,some m=>ck (dV (fP (cp l 0) (fP (cp h 0) (cp m 0)))) λ_=>K .nil
   |_,_=>none
  |_,_,_=>none
 |.iq=>
  match iy C s 0 u,iy C s 0 j,y with
  |some l,some h,none=>ck (dV (fP (cp l 0) (cp h 0))) λ_=>K .iq
  |some l,some h,some m=>
   match j,iy C s 0 (some m) with
   |some _,some m=>ck (dV (fP (cp l 0) (fP (cp h 0) (cp m 0)))) λ_=>K .iq
   |_,_=>none
  |_,_,_=>none
 |_=>none
def castLT{R:Type}(t a:Ty)(e:List (El t))(K:List (El a)->Option R):Option R:=if h:t=a then K (j2 h e) else none
def mF(t:Ty)(y:TV)(s:TS)(K:Bool->List (El t)->TS->Option R):Option R:=
 match y with
 |.eb j e=>castLT j t e λe=>K (eZ t) e s
 |.fS j e=>castLT j t e λe=>K (eZ t) e s
 |.nil=>K true [] s
 |.iq=>K true [] s
 |.s a=>castLT (.int .u8) t (dL a) λe=>K true e s
 |.vw p _=>
  bif eZ t then j4 C s p λv=>
   match v with
   |.own _ j e=>castLT j t e λe=>K true e s
   |.eb j e=>castLT j t e λe=>K true e s
   |_=>none
  else cv C C.md y s λv u=>
   match v with
   |.own d j e=>castLT j t e λe=>K d e u
   |.eb j e=>castLT j t e λe=>K false e u
   |_=>none
 |.sl p t0 x A=>
  bif eZ t then j4 C s p λv=>
   match v with
   |.own _ j e=>bif decide (j=t0) then ck (ff e x A) λe=>castLT j t e λe=>K true e s else none
   |.eb j e=>bif decide (j=t0) then ck (ff e x A) λe=>castLT j t e λe=>K true e s else none
   |_=>none
  else cv C (λ_ _=>true) y s λv u=>
   match v with
   |.eb j e=>castLT j t e λe=>K false e u
   |_=>none
 |_=>none
def xW(t:Ty)(a:Nat)(x y:TV)(s:TS)(K:TV->TS->Option R):Option R:=
 mF C t y s λd u s=>
  match x with
  |.vw p _=>j4 C s p λv=>
   match v with
   |.own E A j=>castLT A t j λj=>ck (cZ a j u) λe=>
    bif p.jG then(bif eZ t then K (.pa p t e) (s.gv p.jD) else none) else nf s p λF=>K (.own (bif eZ t then true else bif d then E else false) t e) F
   |_=>none
  |.nil=>ck (cZ a [] u) λe=>K (.own d t e) s
  |.iq=>ck (cZ a [] u) λe=>K (.own d t e) s
  |.fS A j=>castLT A t j λj=>ck (dV (cC 0 (cA u))) λ_=>ck (cZ a j u) λe=>K (.own (eZ t) t e) s
  |_=>none
def nX:List (Nat×Nat)->Nat->Option (Nat×Nat)|[],_=>none|f::_,0=>some f|_::r,n+1=>nX r n
def fill(fs:List (Nat×Nat)):List (Nat×Operand)->List TV->TS->(List TV->TS->Option R)->Option R
 |[],z,s,K=>K z s
 |(i,x)::r,z,s,K=>
  match nX fs i with
  |some (a,e)=>bif Nat.beq (qw (cellsOf (dn C s x))) (C.dj e).sz then(bif room a (C.dj e).sz z then pU C C.md (cellsOf (dn C s x)) (iH s x) λj u=>fill fs r (pK z a j) u K else none) else none
  |none=>none
def zTI:TI->List TV|.bool=>[.b false]|.int k=>[.i k 0]|.str=>[.s []]|.sl ..=>[.nil]|_=>[.un]
def zero:Nat->Nat->List TV
 |0,_=>[]
 |f+1,t=>
  match C.dj t with
  |.st _ _ fs=>fs.foldr (λp r=>Dh (zero f p.2) r) []
  |i=>zTI i
def pV:(t:Ty)->El t|.bool=>false|.int _=>(0:Int)|.str=>([]:cq)|.hold=>dy.mk 0 0 0|.dx=>cG.mk [] [] [] 0 0 0 [] [] [] []|.mark=>Mark.mk 0 0|.mf=>cn.mk 0 0 [] [] []|.pair=>mE.mk [] 0|.ins=>eI.mk 0 0 [] []|.jd=>fN.mk [] 0 []|.fY=>dm.mk [] [] 0|.op=>dt.mk [] 0 0 0|.msg=>cO.mk 0 0 0 0 [] false|.stx=>eD.mk 0 0 []|.lE=>cT.mk 0 [] [] false [] []|.ctx=>eo.mk 0 0 0 (dm.mk [] [] 0) 0 0 [] [] [] 0|.fu=>dP.mk [] [] [] [] false 0 []|.oC=>iV.mk 0 []|.world=>World.mk (dP.mk [] [] [] [] false 0 []) [] [] []|.event=>cY.mk 0 0 0 false (dm.mk [] [] 0)|.rd=>Rd.mk [] 0|.uk=>fJ.mk [] 0 0 false
def xu(t:Ty)(e:Nat):List (Nat×Operand)->Nat->TS->(Bool->List (El t)->TS->Option R)->Option R|[],_,s,K=>K true [] s|(i,x)::r,n,s,K=>bif Nat.beq i n then(bif Nat.beq (qw (cellsOf (dn C s x))) e then pU C (λ_ p=>C.fz p) (cellsOf (dn C s x)) (iH s x) λj u=>one? t j λv=>xu t e r (Nat.succ n) u λd y a=>K (bif eZ t then true else bif deep j then d else false) (v::y) a else none) else none
def pL:Fl->TV->Bool|.l,_=>true|_,.b _=>true|_,.i _ _=>true|_,.s _=>true|_,.nil=>true|_,.iq=>true|.s,.own _ _ _=>true|.d,.own d t _=>bif eZ t then true else d|_,_=>false
def okF:List Fl->List TV->Bool|f::fs,c::a=>bif pL f c then okF fs a else false|_,_=>true
def VS.dec:(s:VS)->TV->Option s.T
 |.el t m,v=>
  match v with
  |.agg j=>bif gJ t then(bif okF m j then Ev.dec t j else none) else none
  |v=>bif gJ t then none else Ev.dec t [v]
 |.sl f t,v=>bif pL f v then fq t v else none
 |.fS t,v=>
  match v with
  |.fS a e=>if h:a=t then some (j2 h e) else none
  |_=>none
 |.vec t,v=>
  match v with
  |.vec a e=>if h:a=t then some (j2 h e) else none
  |_=>none
 |.er,v=>
  match v with
  |.er x=>some x
  |.lY=>some false
  |_=>none
def VS.enc:(s:VS)->s.T->TV|.el t m,x=>bif gJ t then .agg (jz m (Ev.enc false t x)) else nth (Ev.enc false t x) 0|.sl f t,x=>vJ f (.eb t x)|.fS t,x=>.fS t x|.vec t,x=>.vec t x|.er,x=>.er x
def fZ(k:Nat):List Nat->Bool|[]=>false|x::r=>bif Nat.beq k x then true else fZ k r
def opsL:List Operand->List Nat|[]=>[]|.tmp k::a=>k::opsL a|_::a=>opsL a
def whole:TV->Bool|.agg _=>false|.fp _=>false|_=>true
def vz(s:TS):List Operand->Bool|[]=>false|.tmp k::a=>bif whole (s.cD k) then vz s a else(bif fZ k (opsL a) then true else vz s a)|_::a=>vz s a
def kN(s:TS):(a:List Ty)->List TV->(qI a->Option R)->Option R
 |[],[],K=>K ()
 |t::a,.ip e 0::j,K=>one? t e λx=>kN s a j λu=>K (x,u)
 |t::a,.ptr k 0::j,K=>
  match s.box k with
  |.cells e=>one? t e λx=>kN s a j λu=>K (x,u)
  |_=>none
 |_,_,_=>none
def vj(s:TS)(v:TV)(K:TV->Option R):Option R:=
 match v with
 |.vw p _=>j4 C s p λx=>
  match x with
  |.own _ t a=>K (.eb t a)
  |.eb t a=>K (.eb t a)
  |_=>none
 |.sl p t0 j u=>j4 C s p λx=>
  match x with
  |.own _ t a=>bif decide (t=t0) then ck (ff a j u) λe=>K (.eb t e) else none
  |.eb t a=>bif decide (t=t0) then ck (ff a j u) λe=>K (.eb t e) else none
  |_=>none
 |.own _ t a=>K (.eb t a)
 |.eb t a=>K (.eb t a)
 |.fS t a=>K (.eb t a)
 |.b x=>K (.b x)
 |.i k n=>K (.i k n)
 |.s x=>K (.s x)
 |.nil=>K .nil
 |.iq=>K .iq
 |_=>none
def zQ(s:TS):List TV->(List TV->Option R)->Option R|[],K=>K []|v::e,K=>vj C s v λj=>zQ s e λa=>K (j::a)
def xM(a u:Bool)(e:List TV)(s:TS)(K:List TV->TS->Option R):Option R:=bif u then pU C (λ_ _=>false) e s K else bif a then zQ C s e λj=>K j s else pU C (λ_ _=>true) e s K
def VS.mv:VS->Bool|.sl .s _=>true|.sl .d _=>true|_=>false
def ud:TV->List TV->TV|.agg _,a=>.agg a|_,a=>nth a 0
def C3(k c:Nat)(v:TV)(s:TS):TS:=
 match s.box k with
 |.cells a=>s.bx k (.cells (ld a c v))
 |_=>s
def arg(u:Bool)(p:dX)(v:TV)(s:TS)(K:p.T->(p.O->TS->TS)->TS->Option R):Option R:=
 match p,K with
 |.val q,K=>
  match v with
  |.vec t a=>
   match q.dec (.vec t a) with
   |some x=>K x (λ_ s=>s) s
   |none=>none
  |v=>xM C u q.mv (cellsOf v) s λy A=>
   match q.dec (ud v y) with
   |some x=>K x (λ_ s=>s) A
   |none=>none
 |.pb t m E,K=>
  match v with
  |.ptr k 0=>
   match s.box k with
   |.cells e=>bif okF m e then one? t e λx=>K x (λo s=>s.bx k (.cells (jz E (enc false t o)))) ((s.kill (Pl.ig k)).bx k .none) else none
   |_=>none
  |_=>none
 |.pr t,K=>
  match v with
  |.ep (.cD k) t0 r 0=>
   match s.cD k with
   |.own true j a=>bif decide (j=t0) then castLT j t a λa=>ck (cm a r) λ_=>K (a,r) (λo s=>s.raw k (.own true t o)) ((s.kill (Pl.n9 k)).raw k .un) else none
   |_=>none
  |.ep (.cell k c) t0 r 0=>
   match s.box k with
   |.cells e=>
    match nth e c with
    |.own true j a=>bif decide (j=t0) then castLT j t a λa=>ck (cm a r) λ_=>K (a,r) (λo s=>C3 k c (.own true t o) s) ((s.kill (Pl.oa k)).bx k (.cells (ld e c .un))) else none
    |_=>none
   |_=>none
  |_=>none
 |.mu t,K=>
  match v with
  |.vw (.cD k) _=>
   match s.cD k with
   |.own true j a=>castLT j t a λa=>K a (λo s=>s.raw k (.own true t o)) ((s.kill (Pl.n9 k)).raw k .un)
   |_=>none
  |.vw (.cell k c) _=>
   match s.box k with
   |.cells e=>
    match nth e c with
    |.own true j a=>castLT j t a λa=>K a (λo s=>C3 k c (.own true t o) s) ((s.kill (Pl.oa k)).bx k (.cells (ld e c .un)))
    |_=>none
   |_=>none
  |_=>none
 |.bd,K=>
  match v with
  |.ptr k 0=>
   match s.box k with
   |.iL x=>K x (λo s=>s.bx k (.iL o)) ((s.kill (Pl.ig k)).bx k .none)
   |_=>none
  |_=>none
 |.rp t,K=>
  match v with
  |.ip e 0=>one? t e λx=>K x (λ_ s=>s) s
  |_=>none
 |.fn g F,K=>
  match v with
  |.fn H y=>bif Nat.beq g H then kN s F y λx=>K x (λ_ s=>s) s else none
  |_=>none
def K2(p:dX)(v:TV)(a:List TV):Bool:=
 match p with
 |.pr _=>
  match v with
  |.ep (.cell k _) _ _ _=>nS k a
  |_=>false
 |.mu _=>
  match v with
  |.vw (.cell k _) _=>nS k a
  |_=>false
 |_=>false
def args(a:Bool):(e:List dX)->List TV->TS->(oS e->(n8 e->TS->TS)->TS->Option R)->Option R|[],[],s,K=>K () (λ_ s=>s) s|p::e,v::y,s,K=>bif K2 p v y then none else arg C a p v s λx A E=>args a e y E λF j u=>K (x,F) (λo s=>A o.1 (j o.2 s)) u|_,_,_,_=>none
def oc:List Fl->List TV->Bool
 |_,[]=>true
 |.d::m,_::a=>oc m a
 |_::m,c::a=>
  match c with
  |.eb _ _=>false
  |_=>oc m a
 |[],c::a=>
  match c with
  |.eb _ _=>false
  |_=>oc [] a
def vL:VS->Bool|.el t m=>oc m (enc false t (pV t))|.sl .l _=>false|.sl .s t=>eZ t|.sl .d _=>true|.fS _=>false|.vec _=>true|.er=>true
def q9:List fC->Bool|[]=>true|.val s::a=>bif vL s then q9 a else false|.nb t m::a=>bif vL (.el t m) then q9 a else false
def Xx:List Fl->Bool|[]=>true|.l::r=>Xx r|_::_=>false
def VS.C4:VS->Bool|.el _ m=>Xx m|.sl .l _=>true|.sl _ _=>false|_=>true
def qo:List dX->Bool|[]=>true|.val s::a=>bif s.mv then false else bif s.C4 then qo a else false|.fn _ _::a=>qo a|.rp _::a=>qo a|_::_=>false
def sy:List dX->Bool|[]=>false|.fn _ (_::_)::_=>true|_::a=>sy a
def Po(c:gN):Bool:=bif c.ua then(bif q9 c.rs then qo c.ps else false) else bif sy c.ps then false else true
def gK:(a:List fC)->j7 a->List TV|[],_=>[]|.val s::a,x=>s.enc x.1::gK a x.2|.nb _ _::a,x=>.un::gK a x.2
def pack:List TV->TV|[v]=>v|vs=>.fp vs
def xN(d:Option Nat)(rs:List fC)(x:j7 rs)(s:TS):Option TS:=
 match rs,x with
 |[.nb t m],x=>
  match d with
  |some d=>
   match s.box d with
   |.none=>some (((s.gr d).bx d (.cells (jz m (enc false t x.1)))).put C d (.ptr d 0))
   |_=>none
  |none=>none
 |rs,x=>some (eA C s d (pack (gK rs x)))
def w9:List TV->Option Nat|[]=>none|.fn g _::_=>some g|_::a=>w9 a
def PO(s:TS):List Operand->TS|[]=>s|x::a=>PO (iH s x) a
def C5(g:Nat)(u:List TV)(s:TS)(e:Option Nat)(K:TS->Option R):Option R:=
 match C.fn g (w9 u) with
 |some c=>bif Po c then args C c.ua c.ps u s λa y A=>ck (c.f a) λx=>
   match xN C e c.rs (c.back x).1 (y (c.back x).2 A) with
   |some j=>K j
   |none=>none
  else none
 |none=>none
def GC:List TV->Bool|[]=>false|.own ..::_=>true|.ko ..::_=>true|.un::_=>true|_::a=>GC a
def xO:TV->Bool|.own ..=>true|.ko ..=>true|.agg a=>GC a|.un=>true|.pa ..=>true|_=>false
def K3:List TV->Bool|[]=>true|.ptr _ _::a=>K3 a|_::_=>false
def step(o:Oper)(s:TS)(K:TS->Option R):Option R:=
 match o.op with
 |.move x=>K (eA C (iH s x) o.dst (dn C s x))
 |.assign x=>
  match dn C s x with
  |.vec t u=>K (eA C s o.dst (.vec t u))
  |.ptr k c=>K (eA C s o.dst (.ptr k c))
  |.ep p t r c=>K (eA C s o.dst (.ep p t r c))
  |.er e=>K (eA C s o.dst (.er e))
  |.lY=>K (eA C s o.dst .lY)
  |.np=>K (eA C s o.dst .np)
  |.fn g A=>K (eA C s o.dst (.fn g A))
  |.fS t u=>K (eA C s o.dst (.fS t u))
  |v=>
   match o.dst with
   |some d=>bif C.al d then(bif PN v then K (eA C s o.dst v) else none) else cv C C.md v s λv E=>K (eA C E o.dst v)
   |none=>K s
 |.pick c a b=>
  match dn C s c with
  |.b x=>um x (K (eA C (iH s a) o.dst (dn C s a))) (K (eA C (iH s b) o.dst (dn C s b)))
  |_=>none
 |.alloc t=>
  match o.dst with
  |some d=>
   match s.box d with
   |.none=>
    match C.dj t with
    |.other=>none
    |.iL=>K (((s.gr d).bx d (.iL [])).put C d (.ptr d 0))
    |.ar n e=>K (((s.gr d).bx d (.vec e (tZ n (pV e)))).put C d (.ptr d 0))
    |_=>K (((s.gr d).bx d (.cells (zero C 4 t))).put C d (.ptr d 0))
   |_=>none
  |none=>none
 |.box _ x=>
  match o.dst with
  |some d=>
   match s.box d with
   |.none=>
    match dn C s x with
    |.vec t u=>K (((s.gr d).bx d (.vec t u)).put C d (.ptr d 0))
    |v=>pU C C.md (cellsOf v) (iH s x) λA E=>K (((E.gr d).bx d (.cells A)).put C d (.ptr d 0))
   |_=>none
  |none=>none
 |.build t parts=>
  match C.dj t with
  |.st _ _ fs=>fill C fs parts.toList (zero C 4 t) s λA E=>K (eA C E o.dst (.agg A))
  |.ar n e=>xu C e 1 parts.toList 0 s λ_ u E=>bif Nat.beq parts.size n then K (eA C E o.dst (.vec e u)) else none
  |_=>none
 |.buildSlice t n parts=>
  match C.dj t with
  |.sl e S F=>bif Nat.beq parts.size n then(bif Nat.ble (Nat.mul n S) 16777216 then xu C e S parts.toList 0 s λd u E=>K (eA C E o.dst (.own d e u)) else none) else none
  |_=>none
 |.load t a=>bif (C.dj t).var then uo C s (C.dj t).sz (C.dj t).ag (dn C s a) λv=>K (eA C s o.dst v) else none
 |.store t a x=>bif (C.dj t).var then G9 C (iH s x) (C.dj t).sz (dn C s a) (dn C s x) K else none
 |.nilCheck x=>rm (dn C s x) 0 λv=>K (eA C s o.dst v)
 |.binOp J t x y _=>bif G8 C (C.dj t) (dn C s x) (dn C s y) then Du J (dn C s x) (dn C s y) λv=>K (eA C s o.dst v) else none
 |.unOp J _ x=>LF J (dn C s x) λv=>K (eA C s o.dst v)
 |.fieldAddr t x j=>
  match C.dj t with
  |.st _ _ fs=>
   match nX fs j with
   |some (H,_)=>rm (dn C s x) H λv=>K (eA C s o.dst v)
   |none=>none
  |_=>none
 |.indexAddr t x i=>bif jA (C.dj t) (dn C s x) then uq C s (C.dj t).X4 (C.dj t).len (dn C s x) (dn C s i) λv=>K (eA C s o.dst v) else none
 |.index t x i=>bif jA (C.dj t) (dn C s x) then
  match dn C s x,dn C s i with
  |.s a,.i _ n=>ck (iG a n) λc=>K (eA C s o.dst (.i .u8 c))
  |.vec U u,.i _ n=>ck (dV (cC n (C.dj t).len)) λ_=>ck (cm u n) λx=>bif gJ U then none else K (eA C s o.dst (nth (enc false U x) 0))
  |_,_=>none
  else none
 |.field t x j=>
  match dn C s x,C.dj t with
  |.agg Y,.st _ _ fs=>
   match nX fs j with
   |some (H,M)=>bif room H (C.dj M).sz Y then K (eA C (iH s x) o.dst (sx (C.dj M).ag (takeN (C.dj M).sz (vh H Y)))) else none
   |none=>none
  |_,_=>none
 |.extract (.tmp k) i=>
  match s.cD k with
  |.fp A=>bif room i 1 A then(
   match xO (nth A i) with
   |true=>K (eA C (s.raw k (.fp (ld A i .un))) o.dst (nth A i))
   |false=>K (eA C s o.dst (nth A i))) else none
  |_=>none
 |.convert src N x=>bif jA (C.dj src) (dn C s x) then
  match dn C s x,C.dj N with
  |.i _ n,.int k=>K (eA C s o.dst (.i k (eY k n)))
  |.s a,.str=>K (eA C s o.dst (.s a))
  |.s a,.sl (.int .u8) _ _=>ck (dV (dI (eF a) 1152921504606846976)) λ_=>K (eA C s o.dst (.own true (.int .u8) (dL a)))
  |.vw p _,.str=>bif CR (C.dj src) then j4 C s p λv=>
   match fq (.int .u8) v with
   |some u=>K (eA C s o.dst (.s (je u)))
   |none=>none
   else none
  |.sl p t0 P Q,.str=>bif CR (C.dj src) then j4 C s p λv=>
   match fq (.int .u8) v with
   |some u=>bif decide (t0=.int .u8) then ck (ff u P Q) λZ=>K (eA C s o.dst (.s (je Z))) else none
   |none=>none
   else none
  |v,.str=>bif CR (C.dj src) then
   match fq (.int .u8) v with
   |some u=>K (eA C s o.dst (.s (je u)))
   |none=>none
   else none
  |_,_=>none
  else none
 |.slice t x P Q mx=>bif jA (C.dj t) (dn C s x) then sM C s (dn C s x) P Q mx λv=>K (eA C s o.dst v) else none
 |.makeSlice t l c=>
  match C.dj t,dn C s l,dn C s c with
  |.sl e _ F,.i _ n,.i _ m=>ck (xU F n m (pV e)) λu=>K (eA C s o.dst (.own true e u))
  |_,_,_=>none
 |.makeFunc (.func g) _ I=>bif K3 (I.toList.map (dn C s)) then K (eA C s o.dst (.fn g (I.toList.map (dn C s)))) else none
 |.makeInterface t _=>
  match C.dj t with
  |.sL=>none
  |.other=>none
  |_=>K (eA C s o.dst (.er true))
 |.call c=>
  match c.callee with
  |.value x=>
   match dn C s x with
   |.fn g I=>bif vz s c.args.toList then none else C5 C g ((c.args.toList.map (dn C s))++I) (PO s c.args.toList) o.dst K
   |_=>none
  |.builtin b=>
   match b,c.args.toList,c.argTypes.toList with
   |.len,[x],t::_=>bif jA (C.dj t) (dn C s x) then GS C s (dn C s x) λn=>K (eA C s o.dst (.i .i64 n)) else none
   |.append,[x,y],t::_=>
    match C.dj t with
    |.sl e _ F=>xW C e F (dn C s x) (dn C s y) s λv E=>K (eA C E o.dst v)
    |_=>none
   |.min,[x,y],_=>
    match dn C s x,dn C s y with
    |.i k a,.i _ c=>K (eA C s o.dst (.i k (Aa a c)))
    |_,_=>none
   |.max,[x,y],_=>
    match dn C s x,dn C s y with
    |.i k a,.i _ c=>K (eA C s o.dst (.i k (imax a c)))
    |_,_=>none
   |_,_,_=>none
  |_=>none
 |_=>none
def oD:List Oper->Nat->Option Nat|[],_=>none|o::_,0=>o.dst|_::r,n+1=>oD r n
def PQ(a:List Oper)(o:Oper)(s:TS)(K:TS->Option R):Option R:=
 match o.guard with
 |none=>step C o s K
 |some (j,w)=>
  match oD a j with
  |some g=>
   match s.cD g with
   |.b x=>
    match w with
    |true=>um x (step C o (s.raw g (.b true)) K) (K (eA C (s.raw g (.b false)) o.dst (.fp [])))
    |false=>um x (K (eA C (s.raw g (.b true)) o.dst (.fp []))) (step C o (s.raw g (.b false)) K)
   |.fp []=>K (eA C s o.dst (.fp []))
   |_=>none
  |none=>none
def K4(a:List Oper):List Oper->TS->(TS->Option R)->Option R|[],s,K=>K s|o::e,s,K=>PQ C a o s λj=>K4 a e j K
def ql:Tr TV:=Tr.full .un 11
def sr:Tr BC:=Tr.full .none 11
structure Acc where
 sl:List Nat
 bx:List Nat
def nc(a:Acc)(s:TS):TS:=⟨a.sl.foldr (λk t=>t.set k (s.cD k)) ql,a.bx.foldr (λk t=>t.set k (s.box k)) sr⟩
def merge(a:Acc)(s e:TS):TS:=⟨a.sl.foldr (λk t=>t.set k (e.cD k)) s.t,a.bx.foldr (λk t=>t.set k (e.box k)) s.h⟩
def Pl.root:Pl->Acc|.cD k=>⟨[k],[]⟩|.cell k _=>⟨[],[k]⟩|.sub p _ _ _=>p.root
def Acc.add(a b:Acc):Acc:=⟨a.sl++b.sl,a.bx++b.bx⟩
def Pl.iR(a:Acc):Pl->Bool|.cD k=>fZ k a.sl|.cell k _=>fZ k a.bx|.sub p _ _ _=>p.iR a
def K5:TV->Acc|.vw p _=>p.root|.pa p _ _=>p.root|.sl p _ _ _=>p.root|.ep p _ _ _=>p.root|_=>⟨[],[]⟩
def GD:List TV->Acc|[]=>⟨[],[]⟩|v::a=>(K5 v).add (GD a)
def sA:TV->Acc|.agg a=>GD a|v=>K5 v
def nA:TV->List Nat|.ptr k _=>[k]|.pe k _=>[k]|_=>[]
def Lm:TV->List Nat|.fn _ a=>a.flatMap nA|v=>nA v
def Ln(o:Oper):Bool:=
 match o.op with
 |.move _=>true
 |.assign _=>true
 |.fieldAddr _ _ _=>true
 |.nilCheck _=>true
 |.binOp _ _ _ _ _=>true
 |.unOp _ _ _=>true
 |.makeFunc _ _ _=>true
 |_=>false
def Acc.PR(a:Acc):Pl->Acc|.sub _ _ _ _=>a|_=>⟨[],[]⟩
def W4:TV->Acc|.vw p _=>p.root.PR p|.pa p _ _=>p.root|.sl p _ _ _=>p.root.PR p|.ep p _ _ _=>p.root.PR p|_=>⟨[],[]⟩
def V9:List TV->Acc|[]=>⟨[],[]⟩|v::a=>(W4 v).add (V9 a)
def agz:TV->Acc|.agg a=>V9 a|v=>W4 v
def ue(a:Bool)(s:TS):List Operand->Acc|[]=>⟨[],[]⟩|.tmp k::e=>(Acc.mk [k] (bif a then[] else Lm (s.cD k))).add ((bif a then agz (s.cD k) else sA (s.cD k)).add (ue a s e))|_::e=>ue a s e
def Qg(s:TS):List Operand->Acc|[]=>⟨[],[]⟩|.tmp k::a=>(sA (nE C k (s.cD k))).add ((Acc.mk [] (Lm (s.cD k))).add (Qg s a))|_::a=>Qg s a
def dH:Option Nat->List Nat|some d=>[d]|none=>[]
def Wa(a:List Oper)(o:Oper):List Nat:=
 match o.guard with
 |some (j,_)=>dH (oD a j)
 |none=>[]
def nY(s:TS)(o:Oper):List Pl:=
 match o.op with
 |.call c=>
  match c.callee with
  |.builtin .append=>
   match c.args.toList with
   |.tmp k::_=>
    match s.cD k with
    |.vw p _=>bif p.jG then[p] else[]
    |_=>[]
   |_=>[]
  |_=>[]
 |_=>[]
def W5:List Pl->Bool|[]=>false|_=>true
def oE(s:TS)(o:Oper):Bool:=
 match o.op with
 |.load _ _=>true
 |.fieldAddr _ _ _=>true
 |.indexAddr _ _ _=>true
 |.index _ _ _=>true
 |.binOp _ _ _ _ _=>true
 |.unOp _ _ _=>true
 |.nilCheck _=>true
 |.slice _ _ _ _ _=>true
 |.makeFunc _ _ _=>true
 |.makeInterface _ _=>true
 |.extract (.tmp k) i=>
  match s.cD k with
  |.fp a=>bif xO (nth a i) then false else true
  |_=>false
 |.call c=>
  match c.callee with
  |.builtin .len=>true
  |.builtin .min=>true
  |.builtin .max=>true
  |.builtin .append=>W5 (nY s o)
  |_=>false
 |.move (.tmp k)=>whole (s.cD k)
 |.move _=>true
 |.assign (.tmp k)=>
  match s.cD k with
  |.vw _ _=>bif (match o.dst with|some d=>C.al d|none=>true) then true else false
  |.sl _ _ _ _=>bif (match o.dst with|some d=>C.al d|none=>true) then true else false
  |.own _ _ _=>false
  |.ko _ _ _ _=>false
  |_=>true
 |.assign _=>true
 |_=>false
def vk(s:TS)(o:Oper):Bool:=
 match o.op with
 |.assign _=>oE C s o
 |_=>Ln o
def Ac(s:TS)(o:Oper):Acc:=(Acc.mk [] (match o.op with
 |.alloc _=>dH o.dst
 |.box _ _=>dH o.dst
 |.call _=>dH o.dst
 |_=>[])).add (ue (vk C s o) s o.op.operands.toList)
def jJ(a:List Oper)(s:TS)(o:Oper):Acc:=(Acc.mk (Wa a o) []).add (Ac C s o)
def zF(done:List Nat)(a:List Edge):Nat:=
 match a with
 |[]=>0
 |e::a=>bif Region.binds .any e then Nat.lor (Nat.lor (Nat.shiftLeft 1 e.on) (done.getD e.on 0)) (zF done a) else zF done a
def pz:List Oper->List Nat->List Nat|[],done=>done|o::a,done=>pz a (done++[zF done o.after.toList])
def u6:Nat->List Oper->Bool|_,[]=>true|i,o::a=>bif o.after.toList.all (λe=>bif Region.binds .any e then Nat.blt e.on i else true) then u6 (Nat.succ i) a else false
def meets(a b:List Nat):Bool:=a.any λx=>b.any λy=>Nat.beq x y
def Acc.meets(a b:Acc):Bool:=bif Ev.meets a.sl b.sl then true else Ev.meets a.bx b.bx
structure qK where
 r:Acc
 w:Acc
 f:Acc
 n:List Nat
 p:List Pl
 v:List TV
 o:List TV
def pM(f w:Acc)(p:Pl):Bool:=bif p.iR f then true else bif p.jG then p.iR w else false
def sF:List Pl->Pl->Bool|[],_=>false|q::a,p=>bif q.jD p then true else sF a p
def qp(f w:Acc)(n:List Nat)(a:List Pl):TV->Bool|.vw p _=>bif pM f w p then false else bif p.iR ⟨[],n⟩ then false else true|.pa p _ _=>bif pM f w p then false else bif p.iR ⟨[],n⟩ then false else bif sF a p then false else true|.sl p _ _ _=>bif pM f w p then false else bif p.iR ⟨[],n⟩ then false else true|.ep p _ _ _=>bif pM f w p then false else bif p.iR ⟨[],n⟩ then false else true|.ptr k _=>bif fZ k n then false else true|.pe k _=>bif fZ k n then false else true|.fn _ e=>bif meets n (e.flatMap nA) then false else true|_=>true
def GF(f w:Acc)(n:List Nat)(a:List Pl):List TV->Bool|[]=>true|v::e=>bif qp f w n a v then GF f w n a e else false
def pA(f w:Acc)(n:List Nat)(a:List Pl):List TV->Bool|[]=>true|.agg j::e=>bif GF f w n a j then pA f w n a e else false|v::e=>bif qp f w n a v then pA f w n a e else false
def CS(x y:qK):Bool:=bif x.w.meets (y.r.add y.w) then false else bif y.w.meets (x.r.add x.w) then false else bif pA x.f x.w x.n x.p y.v then(bif pA y.f y.w y.n y.p x.v then(bif pA x.f x.w x.n x.p y.o then pA y.f y.w y.n y.p x.o else false) else false) else false
def xX:TV->Bool|.un=>false|_=>true
def Dv:List TV->Bool|[]=>true|v::a=>bif xX v then Dv a else false
def xY:List TV->Bool|[]=>true|.agg e::a=>bif Dv e then xY a else false|v::a=>bif xX v then xY a else false
def GG(a:Nat)(y:qK):List qK->Nat->Bool|[],_=>true|x::e,i=>bif (bif Nat.testBit a i then true else CS x y) then GG a y e (Nat.succ i) else false
def vl:List Nat->List qK->List qK->Bool|p::a,y::e,done=>bif GG p y done 0 then vl a e (done++[y]) else false|_,[],_=>true|_,_,_=>false
def mG:List dX->List TV->List Nat|.pb _ _ _::a,v::e=>nA v++mG a e|.bd::a,v::e=>nA v++mG a e|_::a,_::e=>mG a e|_,_=>[]
def looks:List TV->Acc|[]=>⟨[],[]⟩|v::a=>(sA v).add (looks a)
def vm(s:TS)(o:Oper):Option (Acc×List Nat):=
 match o.op with
 |.call c=>
  match c.callee with
  |.value x=>
   match dn C s x with
   |.fn g a=>
    match C.fn g (w9 ((c.args.toList.map (dn C s))++a)) with
    |some q=>some ((bif q.ua then⟨[],[]⟩ else looks ((c.args.toList.map (dn C s))++a)).add ⟨[],mG q.ps ((c.args.toList.map (dn C s))++a)⟩,mG q.ps ((c.args.toList.map (dn C s))++a))
    |none=>none
   |_=>none
  |_=>none
 |_=>none
def ic(s:TS)(o:Oper):Acc:=
 match vm C s o with
 |some a=>(Acc.mk (dH o.dst++opsL o.op.operands.toList) (dH o.dst)).add a.1
 |none=>bif oE C s o then⟨dH o.dst,[]⟩ else(Acc.mk (dH o.dst) []).add (Ac C s o)
def mH(s:TS)(o:Oper):Acc:=
 match vm C s o with
 |some a=>⟨dH o.dst,a.2⟩
 |none=>
  match o.op with
  |.store _ a _=>⟨dH o.dst,nA (dn C s a)⟩
  |_=>⟨dH o.dst,[]⟩
def tM:List Pl->TS->TS|[],s=>s|p::a,s=>(tM a s).gv p.jD
def rb(f w:Acc)(a:List Nat)(s:TS):TS:=a.foldr (λd s=>s.gr d) (s.kill (pM f w))
def mI(o:Oper):List Nat:=
 match o.op with
 |.alloc _=>dH o.dst
 |.box _ _=>dH o.dst
 |.call c=>
  match c.callee with
  |.value _=>dH o.dst
  |_=>[]
 |_=>[]
def pB(a:List Oper)(o:Oper)(s e:TS):TS:=e.kill λp=>bif p.iR ((jJ C a s o).add (Qg C s o.op.operands.toList)) then false else true
def C6(a:List Oper)(o:Oper)(s e:TS):qK:=⟨jJ C a s o,ic C s o,mH C s o,mI o,nY s o,(jJ C a s o).sl.map s.cD,(ic C s o).sl.map (pB C a o s e).cD⟩
def j5(w f:Acc)(n:List Nat)(e:List Pl)(a s:TS):TS:=merge w (tM e (rb f w n s)) a
def mZ(o:Oper):TS:=⟨(dH o.dst).foldr (λd t=>t.set d (.fp [])) ql,sr⟩
def CT(a:List Oper)(o:Oper)(s:TS):qK:=⟨jJ C a s o,⟨dH o.dst,[]⟩,⟨dH o.dst,[]⟩,[],[],(jJ C a s o).sl.map s.cD,(dH o.dst).map λ_=>.fp []⟩
def GH(a:Acc)(o:Oper)(s:TS)(K:TS->Option R):Option R:=step C o (nc a s) K
def px(a:List Oper):List Oper->List qK->TS->(TS->Option R)->Option R
 |[],e,s,K=>bif vl (pz a []) e [] then(bif u6 0 a then K s else none) else none
 |o::y,e,s,K=>
  bif xY ((jJ C a s o).sl.map s.cD) then(
  match o.guard with
  |none=>GH C (jJ C a s o) o s λu=>px a y (e++[C6 C a o s u]) (j5 (ic C s o) (mH C s o) (mI o) (nY s o) (pB C a o s u) s) K
  |some (j,w)=>
   match oD a j with
   |some g=>
    match s.cD g with
    |.b x=>
     match w with
     |true=>um x (GH C (jJ C a s o) o (s.raw g (.b true)) λu=>px a y (e++[C6 C a o s u]) (j5 (ic C s o) (mH C s o) (mI o) (nY s o) (pB C a o s u) (s.raw g (.b true))) K)
      (px a y (e++[CT C a o s]) (j5 ⟨dH o.dst,[]⟩ ⟨dH o.dst,[]⟩ [] [] (mZ o) (s.raw g (.b false))) K)
     |false=>um x (px a y (e++[CT C a o s]) (j5 ⟨dH o.dst,[]⟩ ⟨dH o.dst,[]⟩ [] [] (mZ o) (s.raw g (.b true))) K)
      (GH C (jJ C a s o) o (s.raw g (.b false)) λu=>px a y (e++[C6 C a o s u]) (j5 (ic C s o) (mH C s o) (mI o) (nY s o) (pB C a o s u) (s.raw g (.b false))) K)
    |.fp []=>px a y (e++[CT C a o s]) (j5 ⟨dH o.dst,[]⟩ ⟨dH o.dst,[]⟩ [] [] (mZ o) s) K
    |_=>none
   |none=>none) else none
def qL:(a:List Ty)->List TV->Option (qI a)
 |[],[]=>some ()
 |t::a,.ip e 0::j=>
  match dec t e,qL a j with
  |some x,some u=>some (x,u)
  |_,_=>none
 |_,_=>none
def kq:(a:List Ty)->qI a->List TV|[],_=>[]|t::a,x=>.ip (enc false t x.1) 0::kq a x.2
def GU(l:fK)(v:TV):Option l.T:=
 match l with
 |.val s=>s.dec v
 |.ptr k c=>
  match v with
  |.ptr j e=>bif Nat.beq k j then(bif Nat.beq c e then some () else none) else none
  |_=>none
 |.vw q t=>
  match v with
  |.vw p a=>bif Pl.beq q p then(bif decide (a=t) then some () else none) else none
  |_=>none
 |.sv q t=>
  match v with
  |.sl p a u x=>bif Pl.beq q p then(bif decide (a=t) then some (u,x) else none) else none
  |_=>none
 |.ep q t c=>
  match v with
  |.ep p a r e=>bif Pl.beq q p then(bif decide (a=t) then(bif Nat.beq c e then some r else none) else none) else none
  |_=>none
 |.fn g y=>
  match v with
  |.fn A E=>bif Nat.beq g A then qL y E else none
  |_=>none
def Di(l:fK)(x:l.T):TV:=
 match l,x with
 |.val s,x=>s.enc x
 |.ptr k c,_=>.ptr k c
 |.vw p t,_=>.vw p t
 |.sv p t,x=>.sl p t x.1 x.2
 |.ep p t c,x=>.ep p t x c
 |.fn g a,x=>.fn g (kq a x)
def Dw:TV->TV->Bool|.b false,.b false=>true|.i k n,.i a e=>bif decide (k=a) then(bif decide (n=0) then decide (e=0) else false) else false|.s [],.s []=>true|.nil,.nil=>true|_,_=>false
def sG:List TV->List TV->Bool|[],[]=>true|c::a,d::e=>bif Dw c d then sG a e else false|_,_=>false
def qx(l:gw)(v:BC):Option l.T:=
 match l with
 |.st t m=>
  match v with
  |.cells a=>bif okF m a then dec t a else none
  |_=>none
 |.one s=>
  match v with
  |.cells [c]=>s.dec c
  |_=>none
 |.vec t=>
  match v with
  |.vec e j=>if h:e=t then some (j2 h j) else none
  |_=>none
 |.zr a=>
  match v with
  |.cells u=>bif sG a u then some () else none
  |_=>none
 |.iL=>
  match v with
  |.iL x=>some x
  |_=>none
def Dj(l:gw)(x:l.T):BC:=
 match l,x with
 |.st t m,x=>.cells (jz m (enc false t x))
 |.one s,x=>.cells [s.enc x]
 |.vec t,x=>.vec t x
 |.zr a,_=>.cells a
 |.iL,x=>.iL x
def xv:(l:List (Nat×fK))->TS->Option (G6 l)
 |[],_=>some ()
 |p::a,s=>
  match GU p.2 (s.cD p.1),xv a s with
  |some x,some e=>some (x,e)
  |_,_=>none
def xw:(l:List (Nat×gw))->TS->Option (G7 l)
 |[],_=>some ()
 |p::a,s=>
  match qx p.2 (s.box p.1),xw a s with
  |some x,some e=>some (x,e)
  |_,_=>none
def Live.dec(l:Live)(s:TS):Option l.V:=
 match xv l.sl s,xw l.bx s with
 |some x,some y=>some (x,y)
 |_,_=>none
def zR:(l:List (Nat×fK))->G6 l->Tr TV|[],_=>ql|p::a,x=>(zR a x.2).set p.1 (Di p.2 x.1)
def zS:(l:List (Nat×gw))->G7 l->Tr BC|[],_=>sr|p::a,x=>(zS a x.2).set p.1 (Dj p.2 x.1)
def Live.enc(l:Live)(x:l.V):TS:=⟨zR l.sl x.1,zS l.bx x.2⟩
def l9:Code->List (Nat×Code)|.seq a b=>l9 a++l9 b|.cond _ a b=>l9 a++l9 b|.block id (.loop c)=>(id,c)::l9 c|.block _ c=>l9 c|.loop c=>l9 c|_=>[]
def JX(id:Nat):List (Nat×Code)->Code|[]=>.skip|(i,c)::r=>bif Nat.beq i id then c else JX id r
def Gd(id:Nat)(c:Code):Code:=JX id (l9 c)
inductive Ex where
 |normal
 |exit (id:Nat)
variable(D:Ctx R)
def W6(id:Nat)(s:TS)(K:Ex->TS->Option R):Option R:=
 match D.loops id with
 |some g=>
  match g.si.dec s with
  |some v=>g.L v λo=>K .normal (g.so.enc o)
  |none=>none
 |none=>none
def ev:Code->TS->(Ex->TS->Option R)->Option R
 |.region id j y,s,K=>KE (D.c.pre id) s λs=>
  match y with
  |false=>K4 D.c j.toList j.toList s (K .normal)
  |true=>px D.c j.toList j.toList [] s (K .normal)
 |.seq a b,s,K=>ev a s λe u=>
  match e with
  |.normal=>ev b u K
  |.exit i=>K (.exit i) u
 |.cond c a b,s,K=>
  match dn D.c s c with
  |.b x=>um x (ev a s K) (ev b s K)
  |_=>none
 |.block id (.loop c),s,K=>
  W6 D id s K
 |.block id c,s,K=>ev c s λe u=>
  match e with
  |.normal=>K .normal u
  |.exit i=>bif Nat.beq i id then K .normal u else K (.exit i) u
 |.ret,s,_=>D.Dg s
 |.exit id,s,K=>K (.exit id) s
 |.skip,s,K=>K .normal s
 |_,_,_=>none
def X5(a i:Nat)(p:dX)(x:p.T)(s:TS):TS:=
 match p,x with
 |.val q,x=>s.raw i (q.enc x)
 |.pb t m _,x=>(s.bx (Nat.add a i) (.cells (jz m (enc false t x)))).raw i (.ptr (Nat.add a i) 0)
 |.pr t,x=>(s.raw (Nat.add a i) (.own true t x.1)).raw i (.ep (.cD (Nat.add a i)) t x.2 0)
 |.mu t,x=>(s.raw (Nat.add a i) (.own true t x)).raw i (.vw (.cD (Nat.add a i)) t)
 |.rp t,x=>s.raw i (.ip (enc false t x) 0)
 |.bd,x=>(s.bx (Nat.add a i) (.iL x)).raw i (.ptr (Nat.add a i) 0)
 |.fn g e,x=>s.raw i (.fn g (kq e x))
def pins(e:Nat):Nat->(a:List dX)->oS a->TS|_,[],_=>⟨ql,sr⟩|i,p::a,x=>X5 e i p x.1 (pins e (Nat.succ i) a x.2)
def look(s:TS):TV->TV
 |.vw (.cD j) _=>
  match s.cD j with
  |.own d t a=>.own d t a
  |.eb t a=>.eb t a
  |_=>.un
 |v=>v
def Dk(r:fC)(v:TV)(s:TS):Option r.T:=
 match r with
 |.val q=>q.dec v
 |.nb t m=>
  match v with
  |.ptr k 0=>
   match s.box k with
   |.cells a=>bif okF m a then dec t a else none
   |_=>none
  |_=>none
def qy(s:TS):ResultVar->TV
 |.tmp k=>look s (s.cD k)
 |.cell a _=>
  match s.cD a with
  |.ptr k 0=>
   match s.box k with
   |.cells [c]=>c
   |.cells e=>.agg e
   |.vec t j=>.vec t j
   |_=>.un
  |_=>.un
def pC:(a:List fC)->List ResultVar->TS->Option (j7 a)
 |[],[],_=>some ()
 |r::a,v::e,s=>
  match Dk r (qy s v) s,pC a e s with
  |some x,some j=>some (x,j)
  |_,_=>none
 |_,_,_=>none
def Qh(a i:Nat)(p:dX)(s:TS):Option p.O:=
 match p with
 |.pb t _ y=>
  match s.box (Nat.add a i) with
  |.cells u=>bif okF y u then dec t u else none
  |_=>none
 |.pr t=>
  match s.cD (Nat.add a i) with
  |.own true e j=>if h:e=t then some (j2 h j) else none
  |_=>none
 |.mu t=>
  match s.cD (Nat.add a i) with
  |.own true e j=>if h:e=t then some (j2 h j) else none
  |_=>none
 |.bd=>
  match s.box (Nat.add a i) with
  |.iL x=>some x
  |_=>none
 |.val _=>some ()
 |.rp _=>some ()
 |.fn _ _=>some ()
def zT(e:Nat):Nat->(a:List dX)->TS->Option (n8 a)
 |_,[],_=>some ()
 |i,p::a,s=>
  match Qh e i p s,zT e (Nat.succ i) a s with
  |some x,some j=>some (x,j)
  |_,_=>none
def PS(s:TS):ResultVar->List Nat
 |.tmp k=>
  match s.cD k with
  |.vw (.cD j) _=>
   match s.cD j with
   |.own ..=>[Nat.mul 2 j]
   |_=>[]
  |.own ..=>[Nat.mul 2 k]
  |.agg _=>[Nat.mul 2 k]
  |.ptr j _=>[Nat.succ (Nat.mul 2 j)]
  |_=>[]
 |.cell a _=>
  match s.cD a with
  |.ptr j _=>[Nat.succ (Nat.mul 2 j)]
  |_=>[]
def Ge(s:TS):List ResultVar->List Nat|[]=>[]|v::a=>PS s v++Ge s a
def Gf(m:Nat):List Nat->Bool|[]=>true|k::r=>bif fZ k r then false else bif Nat.blt k m then Gf m r else false
def Dl{R:Type}(e:List (Nat×TI))(s:TS):List ResultVar->Option R->Option R
 |[],K=>K
 |.tmp _::j,K=>Dl e s j K
 |.cell a t::j,K=>
  match s.cD a with
  |.ptr k _=>
   match s.box k with
   |.cells u=>bif (bif (lV e t).var then(bif Nat.beq (lV e t).sz (qw u) then(bif (lV e t).ag then(bif Nat.beq (qw u) 1 then false else true) else Nat.beq (qw u) 1) else false) else false) then Dl e s j K else none
   |.vec _ x=>bif (bif (lV e t).var then(lV e t).ag else false) then ck (dV (cp (cA x) (lV e t).sz)) λ_=>Dl e s j K else none
   |_=>none
  |_=>none
def Pp(y:List (Nat×TI))(e:Nat)(a:List ResultVar)(j:List dX)(u:List fC)(g:j7 u×n8 j->R)(s:TS):Option R:=
 bif Gf (Nat.mul 2 e) (Ge s a) then Dl y s a (
 match pC u a s,zT e 0 j s with
 |some x,some o=>some (g (x,o))
 |_,_=>none)
 else none
end
def Ha{R:Type}(D:Ctx R)(u:Nat)(c:Code)(j:List dX)(a:oS j):Option R:=
 ev D c (pins u 0 j a) λe s=>
  match e with
  |.normal=>D.Dg s
  |.exit _=>none
end
def GV:List (Nat×TI):=[(2,.int .i64),(3,.int .i64),(4,.bool),(5,.int .u8),(6,.int .u8),(9,.str),(10,.str),(11,.str),(12,.int .u64),(15,.ptr),(16,.ptr),(17,.ptr),(20,.sL),(21,.int .i32),(22,.sl (.int .u8) 1 1),(23,.sl .dx 10 168),(24,.sl .stx 3 40),(26,.st .lE 6 [(0,3),(1,23),(2,9),(3,4),(4,23),(5,24)]),(28,.sl .msg 6 64),(32,.sl .op 4 40),(34,.st .stx 3 [(0,3),(1,3),(2,32)]),(36,.st .msg 6 [(0,3),(1,3),(2,3),(3,3),(4,32),(5,4)]),(45,.sl (.int .i64) 1 8),(46,.sl .hold 3 24),(48,.st .dx 10 [(0,9),(1,9),(2,9),(3,3),(4,3),(5,3),(6,45),(7,45),(8,45),(9,46)]),(50,.st .hold 3 [(0,3),(1,3),(2,3)]),(52,.ptr),(73,.st .rd 2 [(0,22),(1,3)]),(74,.ptr),(77,.st .op 4 [(0,9),(1,3),(2,3),(3,3)]),(81,.sl .str 1 16),(92,.sl .jd 3 40),(93,.sl .ctx 12 168),(95,.st .fu 7 [(0,23),(1,45),(2,92),(3,9),(4,4),(5,3),(6,93)]),(96,.sl .lE 6 104),(97,.sl .oC 2 24),(99,.st .world 10 [(0,95),(7,96),(8,28),(9,97)]),(140,.sl .event 7 80),(149,.sL),(150,.sL),(167,.st .fY 3 [(0,81),(1,9),(2,3)]),(169,.st .event 7 [(0,3),(1,3),(2,3),(3,4),(4,167)]),(179,.ptr),(181,.iL),(187,.int .u64),(189,.int .u32),(190,.ar 8 (.int .u32)),(194,.ptr),(208,.st .jd 3 [(0,9),(1,3),(2,9)]),(210,.sl .mf 5 80),(211,.sl .mark 2 16),(213,.st .mf 5 [(0,3),(1,3),(2,9),(3,210),(4,211)]),(215,.ar 24 (.int .u8)),(221,.ptr),(223,.int .u64),(224,.int .i64),(227,.ptr),(233,.ar 64 (.int .u32)),(248,.sl (.int .u32) 1 4),(252,.ar 20 (.int .u64)),(253,.ar 65 (.int .u8)),(273,.st .oC 2 [(0,3),(1,9)]),(281,.st .ctx 12 [(0,3),(1,3),(2,3),(3,167),(6,3),(7,3),(8,45),(9,45),(10,45),(11,3)]),(287,.st .mark 2 [(0,3),(1,3)]),(293,.ptr),(296,.ar 256 (.int .u8)),(316,.ar 32 (.int .u8)),(317,.ar 64 (.int .u8)),(335,.ptr),(337,.st .uk 4 [(0,9),(1,3),(2,3),(3,4)]),(342,.sl .ins 4 56),(345,.st .pair 2 [(0,9),(1,3)]),(346,.sl .pair 2 24),(357,.st .ins 4 [(0,3),(1,3),(2,9),(3,211)]),(375,.int .u8),(376,.int .u8),(378,.int .i32),(379,.int .i32)]
def CU:List Int:=[1779033703,3144134277,1013904242,2773480762,1359893119,2600822924,528734635,1541459225]
def CV:List Int:=[1116352408,1899447441,3049323471,3921009573,961987163,1508970993,2453635748,2870763221,3624381080,310598401,607225278,1426881987,1925078388,2162078206,2614888103,3248222580,3835390401,4022224774,264347078,604807628,770255983,1249150122,1555081692,1996064986,2554220882,2821834349,2952996808,3210313671,3336571891,3584528711,113926993,338241895,666307205,773529912,1294757372,1396182291,1695183700,1986661051,2177026350,2456956037,2730485921,2820302411,3259730800,3345764771,3516065817,3600352804,4094571909,275423344,430227734,506948616,659060556,883997877,958139571,1322822218,1537002063,1747873779,1955562222,2024104815,2227730452,2361852424,2428436474,2756734187,3204031479,3329325298]
def sN(g:Nat):TV:=bif Nat.beq g 0 then .iv (.int .u32) CU else bif Nat.beq g 2 then .iv (.int .u32) CV else .un
end Go.Ev
namespace Go.Sd
open Go
open Go.Ev hiding World cY Rd
section
def cI:Ty->Nat|.bool|.int _|.str=>1|.hold=>3|.dx=>10|.mark=>2|.mf=>5|.pair=>2|.ins=>4|.jd=>3|.fY=>3|.op=>4|.msg=>6|.stx=>3|.lE=>6|.ctx=>12|.fu=>7|.oC=>2|.world=>10|.event=>7|.rd=>2|.uk=>4
def iu(d:Bool)(t:Ty)(x:El t):(enc d t x).length=cI t:=by cases t<;>rfl
def JY(t:Ty):0<cI t:=by cases t<;>simp[cI]
def jW:(t:Ty)->El t->Value|.bool,x=>.bool x|.int k,x=>.int k x|.str,x=>.string ⟨⟨x⟩⟩|_,_=>undef
inductive Rt where
 |cD (k:Nat)
 |box (k:Nat)
 |cE (k:Nat)
 deriving DecidableEq
abbrev dv:=List (Int×Nat)
def GW:Ty->Nat
 |.bool=>0
 |.int k=>32+(match k with|.i8=>0|.i16=>1|.i32=>2|.i64=>3|.u8=>4|.u16=>5|.u32=>6|.u64=>7)
 |.str=>1
 |.hold=>2
 |.dx=>3
 |.mark=>4
 |.mf=>5
 |.pair=>6
 |.ins=>7
 |.jd=>8
 |.fY=>9
 |.op=>10
 |.msg=>11
 |.stx=>12
 |.lE=>13
 |.ctx=>14
 |.fu=>15
 |.oC=>16
 |.world=>17
 |.event=>18
 |.rd=>19
 |.uk=>20
def cj(t:Ty)(j:Nat):Nat:=64*(j+1)+GW t
def tg(t:Ty):Int×Nat:=(0,GW t)
def K6(t:Ty)(j:Nat):64<=cj t j:=by simp only[cj];omega
def FU(t:Ty):GW t<64:=by
 cases t<;>try decide
 rename_i k;cases k<;>decide
def GI{i:Int}{j:Nat}{t a:Ty}(h:(i,cj t j)=tg a):False:=by
 have u:=FU a;have e:=congrArg Prod.snd h;simp only[cj,tg] at e;omega
def agA{i:Int}{j:Nat}{t:Ty}(e:64<=j)(h:(i,j)=tg t):False:=by
 have u:=FU t;have a:=congrArg Prod.snd h;simp only[tg] at a;omega
def Tm{t t':Ty}(h:GW t=GW t'):t=t':=by
 cases t<;>cases t'<;>first
  |rfl
  |(exfalso;revert h;decide)
  |(rename_i k;cases k<;>(exfalso;revert h;decide))
  |(rename_i k a;cases k<;>cases a<;>first|rfl|(exfalso;revert h;decide))
def KG{t a:Ty}{j j':Nat}(h:cj t j=cj a j'):t=a/\j=j':=by
 have e:=FU t;have u:=FU a;simp only[cj] at h;exact⟨Tm (by omega),by omega⟩
inductive G where
 |fr
 |im
 |at(q:Rt) (p:dv)
 deriving DecidableEq
abbrev Gp:=Rt×dv
def gp:Pl->Gp|.cD k=>(.cD k,[])|.cell k c=>(.box k,[(0,c)])|.sub p t r c=>((gp p).1,(gp p).2++[(r,cj t c)])
def lh(m:Option Gp)(r:Int)(j:Nat):Option Gp:=m.map λq=>(q.1,q.2++[(r,j)])
def vA(n:Nat)(fr:Nat×Nat):Prop:=∀j,j<n->¬ (fr.1<=j/\j<fr.2)
def X6:Ty->Bool|.int .u8=>true|_=>false
structure ng(t:Ty)(n:Nat)(fr:Nat×Nat):Prop where
 un:vA n fr
 mrk:X6 t=false->¬ (fr.1<=n/\n<fr.2)
instance{t:Ty} {n:Nat} {fr:Nat×Nat}:CoeFun (ng t n fr) λ_=>∀j,j<n->¬ (fr.1<=j/\j<fr.2):=⟨λh=>h.un⟩
def ng.zero{t:Ty}{n:Nat}:ng t n (0,0):=⟨λj _=>by simp,λ_=>by simp⟩
structure Rc where
 w:World
 γ:Nat->G
 bx:Nat->Nat
 va:Pl->Option Value
def VO(c:Rc):Pl->Prop|.cD _=>True|.cell k _=>c.γ (c.bx k)=.at (.box k) []|.sub p t _ _=>VO c p/\∀b o a e,c.va p=some (.slice (some ⟨b,o,none⟩) a e)->c.γ b=.im\/c.γ b=.at (gp p).1 ((gp p).2++[tg t])
abbrev eK(w:World)(b o:Nat):Option Value:=w.cell? ⟨b,o,none⟩
def dN:TV->Bool|.b _|.i _ _|.s _|.nil|.iq|.eb _ _|.fS _ _|.own _ _ _=>true|_=>false
def fO(a:TV):Bool:=dN a||(match a with|.un=>true|_=>false)
def kF(a:TV):Bool:=fO a||(match a with|.vw _ _=>true|_=>false)
def iz:TV->Bool|.er _|.lY|.vec _ _=>true|.agg a=>a.all fO|tv=>fO tv
def pW:TV->Bool|.ptr _ _=>true|.ip a _=>a.all dN|_=>false
inductive Rd(c:Rc):Option Gp->TV->Value->Prop
 |un (m v):Rd c m .un v
 |b (m x):Rd c m (.b x) (.bool x)
 |i (m k n):Rd c m (.i k n) (.int k n)
 |s (m x):Rd c m (.s x) (.string ⟨⟨x⟩⟩)
 |nil (m):Rd c m .nil (.slice none 0 0)
 |iq (m a):Rd c m .iq (.slice a 0 0)
 |kO (m t a cap):Rd c m (.eb t []) (.slice a 0 cap)
 |nZ (m t) (xs:List (El t)) (b o cap) (f:Nat->Nat->Value):xs.length<=cap->c.γ b=.im->
  (∀(r:Nat)x(j:Nat)tv,xs[r]?=some x->(enc false t x)[j]?=some tv->eK c.w b (o+r*cI t+j)=some (f r j)/\(f r j).oneCell'=true)->
  (∀(r:Nat)x(j:Nat)tv,xs[r]?=some x->(enc false t x)[j]?=some tv->Rd c none tv (f r j))->Rd c m (.eb t xs) (.slice (some ⟨b,o,none⟩) xs.length cap)
 |qz (m t a):Rd c m (.fS t []) (.slice a 0 0)
 |qA (m t) (xs:List (El t)) (b o) (f:Nat->Nat->Value):c.γ b=.im->
  (∀(r:Nat)x(j:Nat)tv,xs[r]?=some x->(enc false t x)[j]?=some tv->eK c.w b (o+r*cI t+j)=some (f r j)/\(f r j).oneCell'=true)->
  (∀(r:Nat)x(j:Nat)tv,xs[r]?=some x->(enc false t x)[j]?=some tv->Rd c none tv (f r j))->Rd c m (.fS t xs) (.slice (some ⟨b,o,none⟩) xs.length xs.length)
 |jU (m d t a):Rd c m (.own d t []) (.slice a 0 0)
 |kE (q p d t) (xs:List (El t)) (b o cap cs e fr) (f:Nat->Nat->Value):xs.length<=cap->c.γ b=.at q (p++[tg t])->c.w.heap[b]?=some (.cells cs e fr)->ng t cs.size fr->o+cap*cI t<=cs.size->
  (∀(r:Nat)x(j:Nat)tv,xs[r]?=some x->(enc d t x)[j]?=some tv->eK c.w b (o+r*cI t+j)=some (f r j)/\(f r j).oneCell'=true)->
  (∀(r:Nat)x(j:Nat)tv,xs[r]?=some x->(enc d t x)[j]?=some tv->Rd c (some (q,p++[((r:Int),cj t j)])) tv (f r j))->Rd c (some (q,p)) (.own d t xs) (.slice (some ⟨b,o,none⟩) xs.length cap)
 |ko (q p t) (xs:List (El t)) (r0 c0 b o cap cs e fr) (f:Nat->Nat->Value):xs.length<=cap->c.γ b=.at q (p++[tg t])->c.w.heap[b]?=some (.cells cs e fr)->ng t cs.size fr->o+cap*cI t<=cs.size->
  (∀(r:Nat)x(j:Nat)tv,xs[r]?=some x->(enc true t x)[j]?=some tv->eK c.w b (o+r*cI t+j)=some (f r j)/\(f r j).oneCell'=true)->
  (∀(r:Nat)x(j:Nat)tv,xs[r]?=some x->(enc true t x)[j]?=some tv->((r:Int)≠r0\/j≠c0)->Rd c (some (q,p++[((r:Int),cj t j)])) tv (f r j))->Rd c (some (q,p)) (.ko t xs r0 c0) (.slice (some ⟨b,o,none⟩) xs.length cap)
 |vec (m t) (xs:List (El t)):gJ t=false->Rd c m (.vec t xs) (.agg (xs.map (jW t)).toArray)
 |vw (m p t v):VO c p->c.va p=some v->Rd c m (.vw p t) v
 |pa (m p t) (xs:List (El t)) (v u):p.jG=true->VO c p->c.va p=some u->Rd c (some (gp p)) (.own true t xs) v->Rd c m (.pa p t xs) v
 |sl (m p t lo hi a len cap a' cap'):VO c p->c.va p=some (.slice a len cap)->0<=lo->lo<=hi->hi<=(len:Int)->(cap'=0\/∃b o,a=some ⟨b,o,none⟩/\a'=some ⟨b,o+lo.toNat*cI t,none⟩)->
  hi.toNat-lo.toNat<=cap'->cap'+lo.toNat<=cap->Rd c m (.sl p t lo hi) (.slice a' (hi.toNat-lo.toNat) cap')
 |ptr (m k j):Rd c m (.ptr k j) (.pointer (some ⟨c.bx k,j,none⟩))
 |pe (m k n):0<=n->Rd c m (.pe k n) (.pointer (some ⟨c.bx k,n.toNat,none⟩))
 |ep (m p t r j b o len cap):VO c p->c.va p=some (.slice (some ⟨b,o,none⟩) len cap)->0<=r->r<(len:Int)->Rd c m (.ep p t r j) (.pointer (some ⟨b,o+r.toNat*cI t+j,none⟩))
 |ip (m cs j b o) (f:Nat->Value):(∀tv∈cs,dN tv=true)->c.γ b=.im->(∀(i:Nat)tv,cs[i]?=some tv->eK c.w b (o+i)=some (f i)/\(f i).oneCell'=true)->(∀(i:Nat)tv,cs[i]?=some tv->Rd c none tv (f i))->
  Rd c m (.ip cs j) (.pointer (some ⟨b,o+j,none⟩))
 |iv (m t) (xs:List (El t)) (b o):c.γ b=.im->gJ t=false->(∀(r:Nat)x,xs[r]?=some x->eK c.w b (o+r)=some (jW t x))->Rd c m (.iv t xs) (.pointer (some ⟨b,o,none⟩))
 |agg (m cs) (vs:Array Value):(∀tv∈cs,kF tv=true)->vs.size=cs.length->(∀(j:Nat)tv v,cs[j]?=some tv->vs[j]?=some v->v.oneCell'=true)->(∀(j:Nat)tv v,cs[j]?=some tv->vs[j]?=some v->Rd c (lh m 0 j) tv v)->Rd c m (.agg cs) (.agg vs)
 |fp (m cs) (vs:Array Value):(∀tv∈cs,iz tv=true)->vs.size=cs.length->(∀(j:Nat)tv v,cs[j]?=some tv->vs[j]?=some v->Rd c (lh m 0 j) tv v)->Rd c m (.fp cs) (.tuple vs)
 |fn (m g cap) (vs:Array Value):(∀tv∈cap,pW tv=true)->vs.size=cap.length->(∀(j:Nat)tv v,cap[j]?=some tv->vs[j]?=some v->Rd c none tv v)->Rd c m (.fn g cap) (.func (.func g) #[] vs)
 |lY (m):Rd c m .lY .nilIface
 |np (m):Rd c m .np (.pointer none)
 |sO (m t x):Rd c m (.er true) (.iface t x)
 |sP (m):Rd c m (.er false) .nilIface
inductive MV(p:Pl):TV->Prop
 |vw (t):MV p (.vw p t)
 |pa (t xs):MV p (.pa p t xs)
 |sl (t lo hi):MV p (.sl p t lo hi)
 |ep (t r j):MV p (.ep p t r j)
 |agg (cs t):TV.vw p t∈cs->MV p (.agg cs)
inductive MP(p:Pl):TV->Prop
 |pa (t xs):MP p (.pa p t xs)
inductive MB(k:Nat):TV->Prop
 |ptr (j):MB k (.ptr k j)
 |pe (n):MB k (.pe k n)
 |fn (g cs j):TV.ptr k j∈cs->MB k (.fn g cs)
def MP.mv{p:Pl}{tv:TV}(h:MP p tv):MV p tv:=by cases h;exact .pa _ _
def Wb{a:TV}(h:fO a=true):dN a=true\/a=.un:=by
 unfold fO at h;cases a<;>simp_all [dN]
def afC{a:TV}(h:kF a=true):dN a=true\/a=.un\/∃p t,a=.vw p t:=by
 unfold kF fO at h;cases a<;>simp_all [dN]
def aec{tv:TV}(h:kF tv=true)(k:Nat):¬ MB k tv:=by
 intro m;cases m<;>simp[kF,fO,dN] at h
def Ox{tv:TV}(h:kF tv=true)(p:Pl):¬ MP p tv:=by
 intro m;cases m;simp[kF,fO,dN] at h
def Wc{a:TV}{e:List TV}{p:Pl}(h:kF a=true)(j:a∈e)(k:MV p a):MV p (.agg e):=by
 cases k<;>first|exact .agg _ _ j|simp[kF,fO,dN] at h
def sd{tv:TV}(h:iz tv=true)(p:Pl):¬ MV p tv:=by
 intro k;cases k<;>simp[iz,fO,dN] at h;rename_i a;have:=h _ a;simp[fO,dN] at this
def CC{tv:TV}(h:iz tv=true)(k:Nat):¬ MB k tv:=by
 intro m;cases m<;>simp[iz,fO,dN] at h
def JZ{tv:TV}(h:pW tv=true)(p:Pl):¬ MV p tv:=by
 intro k;cases k<;>simp[pW] at h
def afD{a:TV}{e:List TV}{g k:Nat}(h:pW a=true)(j:a∈e)(m:MB k a):MB k (.fn g e):=by
 cases m<;>first|exact .fn _ _ _ j|simp[pW] at h
def gz{tv:TV}(h:dN tv=true)(p:Pl):¬ MV p tv:=by
 intro k;cases k<;>simp[dN] at h
def kS{tv:TV}(h:dN tv=true)(p:Nat):¬ MB p tv:=by
 intro k;cases k<;>simp[dN] at h
def zf(d:Bool)(t:Ty)(x:El t):∀a∈enc d t x,dN a=true:=by
 cases d<;>cases t<;>simp[enc,sc,dN]
def fh{a:Type}{l:List a}{j:Nat}{x:a}(h:l[j]?=some x):x∈l:=aiU h
def gj{d:Bool}{t:Ty}{x:El t}{j:Nat}{a:TV}(h:(enc d t x)[j]?=some a):dN a=true:=zf d t x a (fh h)
def lP{w w':World}{b o:Nat}(h:w'.heap[b]?=w.heap[b]?):eK w' b o=eK w b o:=by simp only[eK,World.cell?,h]
def Rd.mono{c Y:Rc}{m:Option Gp}{A:TV}{v:Value}(h:Rd c m A v):∀(m':Option Gp),
  (∀b,c.γ b=.im->Y.γ b=.im/\Y.w.heap[b]?=c.w.heap[b]?)->
  (∀q p,m=some (q,p)->∃P Q,m'=some (P,Q)/\∀b R,c.γ b=.at q (p++R)->Y.γ b=.at P (Q++R)/\Y.w.heap[b]?=c.w.heap[b]?)->
  (∀k,MB k A->Y.bx k=c.bx k)->(∀p,MV p A->Y.va p=c.va p/\(VO c p->VO Y p))->(∀p,MP p A->∀b R,c.γ b=.at (gp p).1 ((gp p).2++R)->Y.γ b=.at (gp p).1 ((gp p).2++R)/\Y.w.heap[b]?=c.w.heap[b]?)->Rd Y m' A v:=by
 have D:∀(q:Rt)(p:dv),(none:Option Gp)=some (q,p)->∃P Q,(none:Option Gp)=some (P,Q)/\∀b R,c.γ b=.at q (p++R)->Y.γ b=.at P (Q++R)/\Y.w.heap[b]?=c.w.heap[b]?:=λ_ _ h=>by simp at h
 have H:∀{m m':Option Gp}{r:Int}{j:Nat},(∀q p,m=some (q,p)->∃P Q,m'=some (P,Q)/\∀b R,c.γ b=.at q (p++R)->Y.γ b=.at P (Q++R)/\Y.w.heap[b]?=c.w.heap[b]?)->
   ∀q p,lh m r j=some (q,p)->∃P Q,lh m' r j=some (P,Q)/\∀b R,c.γ b=.at q (p++R)->Y.γ b=.at P (Q++R)/\Y.w.heap[b]?=c.w.heap[b]?:=by
  intro m m' r j N q p hs
  cases m with
  |none=>simp[lh] at hs
  |some g=>
   obtain⟨q0,p0⟩:=g
   simp only[lh,jx,di,eS] at hs
   obtain⟨rfl,rfl⟩:=hs
   obtain⟨P,Q,hm,hf⟩:=N _ _ rfl
   subst hm
   refine⟨P,Q++[(r,j)],rfl,λb R hb=>?_⟩
   have:=hf b ((r,j)::R) (by simpa using hb)
   simpa using this
 induction h with
 |un m v=>intros;exact .un _ _
 |b m x=>intros;exact .b _ _
 |i m k n=>intros;exact .i _ _ _
 |s m x=>intros;exact .s _ _
 |nil m=>intros;exact .nil _
 |iq m a=>intros;exact .iq _ _
 |kO m t a cap=>intros;exact .kO _ _ _ _
 |nZ m t xs b o cap f hl hg F _ S=>
  intro m' E N U I Z;obtain⟨J,hh⟩:=E b hg;exact .nZ _ _ _ _ _ _ f hl J (λr x j A hx y=>by rw[lP hh];exact F r x j A hx y)
   (λr x j A hx y=>S r x j A hx y none E D (λk M=>absurd M (kS (gj y) k)) (λp C=>absurd C (gz (gj y) p)) (λp C=>absurd C.mv (gz (gj y) p)))
 |qz m t a=>intros;exact .qz _ _ _
 |qA m t xs b o f hg F _ S=>
  intro m' E N U I Z;obtain⟨J,hh⟩:=E b hg;exact .qA _ _ _ _ _ f J (λr x j A hx y=>by rw[lP hh];exact F r x j A hx y)
   (λr x j A hx y=>S r x j A hx y none E D (λk M=>absurd M (kS (gj y) k)) (λp C=>absurd C (gz (gj y) p)) (λp C=>absurd C.mv (gz (gj y) p)))
 |jU m d t a=>intros;exact .jU _ _ _ _
 |kE q p d t xs b o cap cs e fr f hl hg hh hu hs F _ S=>
  intro m' E N U I Z;obtain⟨P,Q,rfl,hf⟩:=N q p rfl;obtain⟨J,aa⟩:=hf b [tg t] hg;refine .kE _ _ _ _ _ _ _ _ cs e fr f hl J (aa.trans hh) hu hs (λr x j A hx y=>by rw[lP aa];exact F r x j A hx y) (λr x j A hx y=>?_);exact S r x j A hx y _ E (H (m:=some (q,p)) (m':=some (P,Q)) N) (λk M=>absurd M (kS (gj y) k)) (λp C=>absurd C (gz (gj y) p)) (λp C=>absurd C.mv (gz (gj y) p))
 |ko q p t xs r0 c0 b o cap cs e fr f hl hg hh hu hs F _ S=>
  intro m' E N U I Z;obtain⟨P,Q,rfl,hf⟩:=N q p rfl;obtain⟨J,aa⟩:=hf b [tg t] hg;refine .ko _ _ _ _ _ _ _ _ _ cs e fr f hl J (aa.trans hh) hu hs (λr x j A hx y=>by rw[lP aa];exact F r x j A hx y) (λr x j A hx y ad=>?_);exact S r x j A hx y ad _ E (H (m:=some (q,p)) (m':=some (P,Q)) N) (λk M=>absurd M (kS (gj y) k)) (λp C=>absurd C (gz (gj y) p)) (λp C=>absurd C.mv (gz (gj y) p))
 |vec m t xs ht=>intros;exact .vec _ _ _ ht
 |vw m p t v M hv=>intro m' E N U I Z;exact .vw _ _ _ _ ((I p (.vw t)).2 M) ((I p (.vw t)).1.trans hv)
 |pa m p t xs v u ae af ah _ S=>
  intro m' E N U I Z;refine .pa _ _ _ _ _ u ae ((I p (.pa t xs)).2 af) ((I p (.pa t xs)).1.trans ah) (S _ E (λq R hq=>⟨_,_,rfl,λb ρ hb=>?_⟩) (λk M=>by cases M) (λp C=>by cases C) (λp C=>by cases C));simp only[di] at hq;have:=Z p (.pa t xs) b ρ (by rw[hq];exact hb);rw[hq] at this⊢;exact this
 |sl m p t lo hi a len cap a' ai M hv h1 h2 h3 h4 h5 h6=>intro m' E N U I Z;exact .sl _ _ _ _ _ a len cap _ _ ((I p (.sl t lo hi)).2 M) ((I p (.sl t lo hi)).1.trans hv) h1 h2 h3 h4 h5 h6
 |ptr m k j=>intro m' E N U I Z;rw[<-U k (.ptr j)];exact .ptr _ _ _
 |pe m k n h0=>intro m' E N U I Z;rw[<-U k (.pe n)];exact .pe _ _ _ h0
 |ep m p t r j b o len cap M hv h1 h2=>intro m' E N U I Z;exact .ep _ _ _ _ _ b o len cap ((I p (.ep t r j)).2 M) ((I p (.ep t r j)).1.trans hv) h1 h2
 |ip m cs j b o f C hg F _ S=>
  intro m' E N U I Z;obtain⟨J,hh⟩:=E b hg;exact .ip _ _ _ _ _ f C J (λi A hi=>by rw[lP hh];exact F i A hi) (λi A hi=>S i A hi none E D (λk M=>absurd M (kS (C A (fh hi)) k))
   (λp ab=>absurd ab (gz (C A (fh hi)) p)) (λp ab=>absurd ab.mv (gz (C A (fh hi)) p)))
 |iv m t xs b o hg ht F=>
  intro m' E N U I Z;obtain⟨J,hh⟩:=E b hg;exact .iv _ _ _ _ _ J ht (λr x hx=>by rw[lP hh];exact F r x hx)
 |agg m cs vs F hl h1 _ S=>
  intro m' E N U I Z;exact .agg _ _ _ F hl h1 (λj A v y hv=>S j A v y hv _ E (H N) (λk M=>absurd M (aec (F A (fh y)) k)) (λp C=>I p (Wc (F A (fh y)) (fh y) C))
   (λp C=>absurd C (Ox (F A (fh y)) p)))
 |fp m cs vs F hl _ S=>
  intro m' E N U I Z;exact .fp _ _ _ F hl (λj A v y hv=>S j A v y hv _ E (H N) (λk M=>absurd M (CC (F A (fh y)) k)) (λp C=>absurd C (sd (F A (fh y)) p)) (λp C=>absurd C.mv (sd (F A (fh y)) p)))
 |fn m g cap vs F hl _ S=>
  intro m' E N U I Z;exact .fn _ _ _ _ F hl (λj A v y hv=>S j A v y hv none E D (λk M=>U k (afD (F A (fh y)) (fh y) M)) (λp C=>absurd C (JZ (F A (fh y)) p)) (λp C=>absurd C.mv (JZ (F A (fh y)) p)))
 |lY m=>intros;exact .lY _
 |np m=>intros;exact .np _
 |sO m t x=>intros;exact .sO _ _ _
 |sP m=>intros;exact .sP _
def Rd.lift{c:Rc}{a:TV}{v:Value}(h:Rd c none a v)(m:Option Gp):Rd c m a v:=h.mono m (λ_ h=>⟨h,rfl⟩) (λ_ _ h=>by simp at h) (λ_ _=>rfl) (λ_ _=>⟨rfl,λh=>h⟩) (λ_ _ _ _ h=>⟨h,rfl⟩)
def Rd.same{c:Rc}{m:Option Gp}{a:TV}{v:Value}{c':Rc}(h:Rd c m a v)(u:∀b,c.γ b=.im->c'.γ b=.im/\c'.w.heap[b]?=c.w.heap[b]?)(x:∀q p,m=some (q,p)->∀b e,c.γ b=.at q (p++e)->c'.γ b=.at q (p++e)/\c'.w.heap[b]?=c.w.heap[b]?)(y:∀k,MB k a->c'.bx k=c.bx k)(A:∀p,MV p a->c'.va p=c.va p/\(VO c p->VO c' p))(C:∀p,MP p a->∀b e,c.γ b=.at (gp p).1 ((gp p).2++e)->c'.γ b=.at (gp p).1 ((gp p).2++e)/\c'.w.heap[b]?=c.w.heap[b]?):Rd c' m a v:=h.mono m u (λq p j=>⟨q,p,j,x q p j⟩) y A C
def Oy(d:Bool)(t:Ty)(x:El t):(enc d t x).map kh=enc false t x:=by
 cases d<;>cases t<;>simp[enc,kh,sc]
def Ek{d:Bool}{t:Ty}{x:El t}{j:Nat}{a:TV}(h:(enc false t x)[j]?=some a):∃kQ,(enc d t x)[j]?=some kQ/\a=kh kQ:=by
 rw[<-Oy d t x,iA] at h;cases e:(enc d t x)[j]? with
 |none=>simp[e] at h
 |some kQ=>exact⟨kQ,rfl,by simpa[e] using h.symm⟩
def Rd.j8{c c':Rc}{m:Option Gp}{C:TV}{v:Value}(h:Rd c m C v):dN C=true->(∀b,c.γ b=.im->c'.γ b=.im/\c'.w.heap[b]?=c.w.heap[b]?)->
  (∀q p,m=some (q,p)->∀b H,c.γ b=.at q (p++H)->c'.γ b=.im/\c'.w.heap[b]?=c.w.heap[b]?)->Rd c' none (kh C) v:=by
 induction h with
 |b m x=>intros;exact .b _ _
 |i m k n=>intros;exact .i _ _ _
 |s m x=>intros;exact .s _ _
 |nil m=>intros;exact .nil _
 |iq m a=>intros;exact .iq _ _
 |kO m t a cap=>intros;exact .kO _ _ _ _
 |nZ m t xs b o cap f I D E J _=>
  intro _ F _;exact(Rd.nZ none t xs b o cap f I D E J).mono none F (λ_ _ h=>by simp at h) (λk M=>by cases M) (λp y=>by cases y) (λp y=>by cases y)
 |qz m t a=>intros;exact .qz _ _ _
 |qA m t xs b o f D E J _=>
  intro _ F _;exact(Rd.qA none t xs b o f D E J).mono none F (λ_ _ h=>by simp at h) (λk M=>by cases M) (λp y=>by cases y) (λp y=>by cases y)
 |jU m d t a=>intros;exact .kO _ _ _ _
 |kE q p d t xs b o cap Z e fr f I D hh hu hs E _ U=>
  intro _ F R;obtain⟨N,P⟩:=R q p rfl b [tg t] D;refine .nZ _ _ _ _ _ _ f I N (λr x j C hx Q=>?_) (λr x j C hx Q=>?_)
  ·obtain⟨A,u,rfl⟩:=Ek (d:=d) Q;rw[lP P];exact E r x j A hx u
  ·obtain⟨A,u,rfl⟩:=Ek (d:=d) Q;refine U r x j A hx u (gj u) F (λq2 p2 S b2 H Y=>?_);simp only[di,eS] at S;obtain⟨rfl,rfl⟩:=S;exact R q p rfl b2 (((r:Int),cj t j)::H) (by simpa using Y)
 |_=>intro h;simp[dN] at h
def ns{t:Ty}(h:eZ t=true)(d a:Bool)(x:El t):enc d t x=enc a t x:=by cases t<;>simp_all [eZ,enc]
def aaE(d:Bool)(t:Ty)(x:El t):enc (eZ t) t x=(enc d t x).map (if eZ t then id else kh):=by
 cases a:eZ t with
 |true=>simp[ns a true d]
 |false=>simp[Oy]
def Rd.u5{c c':Rc}{q:Rt}{p:dv}{d:Bool}{t:Ty}{xs:List (El t)}{v:Value}(h:Rd c (some (q,p)) (.own d t xs) v)(H:∀b,c.γ b=.im->c'.γ b=.im/\c'.w.heap[b]?=c.w.heap[b]?)
  (h0:∀b t,c.γ b=.at q (p++[tg t])->c'.γ b=.at q (p++[tg t])/\c'.w.heap[b]?=c.w.heap[b]?)(I:∀b r j C,64<=j->c.γ b=.at q (p++(r,j)::C)->c'.γ b=.im/\c'.w.heap[b]?=c.w.heap[b]?):
  Rd c' (some (q,p)) (.own (eZ t) t xs) v:=by
 cases h with
 |jU=>exact .jU _ _ _ _
 |kE _ _ _ _ _ b o cap J e fr f M N P Q R S U=>
  obtain⟨D,A⟩:=h0 b t N;have back:∀(x:El t)(j:Nat)u,(enc (eZ t) t x)[j]?=some u->∃kQ,(enc d t x)[j]?=some kQ/\u=(if eZ t then id else kh) kQ:=λx j u y=>by
   rw[aaE d t x,iA] at y
   cases a:(enc d t x)[j]? with
   |none=>simp[a] at y
   |some kQ=>exact⟨kQ,rfl,by simpa[a] using y.symm⟩
  refine .kE _ _ _ _ _ _ _ _ J e fr f M D (A.trans P) Q R (λr x j u hx y=>?_) (λr x j u hx y=>?_)
  ·obtain⟨kQ,a,_⟩:=back x j u y;rw[lP A];exact S r x j kQ hx a
  ·obtain⟨kQ,a,rfl⟩:=back x j u y;have Y:=gj a;have hz:Rd c' none (kh kQ) (f r j):=(U r x j kQ hx a).j8 Y H (λq2 p2 E b2 C Z=>by
    simp only[di,eS] at E
    obtain⟨rfl,rfl⟩:=E
    exact I b2 r (cj t j) C (K6 t j) (by simpa using Z));cases F:eZ t with
   |false=>simpa[F] using hz.lift _
   |true=>
    have:kh kQ=kQ:=by
     have:kQ∈enc d t x:=fh a
     revert this
     cases t<;>simp_all [eZ,enc]<;>(rintro(rfl|rfl|rfl|rfl)<;>rfl)<;>first|(rintro(rfl|rfl|rfl)<;>rfl)|(rintro(rfl|rfl)<;>rfl)|(rintro rfl;rfl)
    rw[this] at hz;simpa[F] using hz.lift _
section
variable{c:Rc}{m:Option Gp}{v:Value}{t:Ty}{xs:List (El t)}
def Rd.lT{d:Bool}(h:Rd c m (.own d t xs) v):(xs=[]/\∃a,v=.slice a 0 0)\/∃q p b o cap u e fr,∃f:Nat->Nat->Value,m=some (q,p)/\v=.slice (some ⟨b,o,none⟩) xs.length cap/\xs.length<=cap/\c.γ b=.at q (p++[tg t])/\
  c.w.heap[b]?=some (.cells u e fr)/\ng t u.size fr/\o+cap*cI t<=u.size/\
  (∀(r:Nat)x(j:Nat)y,xs[r]?=some x->(enc d t x)[j]?=some y->eK c.w b (o+r*cI t+j)=some (f r j)/\(f r j).oneCell'=true)/\
  (∀(r:Nat)x(j:Nat)y,xs[r]?=some x->(enc d t x)[j]?=some y->Rd c (some (q,p++[((r:Int),cj t j)])) y (f r j)):=by
 cases h with
 |jU _ _ _ a=>exact .inl ⟨rfl,a,rfl⟩
 |kE q p _ _ _ b o cap u e fr f A C D E F H I=>exact .inr ⟨q,p,b,o,cap,u,e,fr,f,rfl,rfl,A,C,D,E,F,H,I⟩
def Rd.Oz{y:Int}{A:Nat}(h:Rd c m (.ko t xs y A) v):∃q p b o cap a e fr,∃f:Nat->Nat->Value,m=some (q,p)/\v=.slice (some ⟨b,o,none⟩) xs.length cap/\xs.length<=cap/\c.γ b=.at q (p++[tg t])/\
  c.w.heap[b]?=some (.cells a e fr)/\ng t a.size fr/\o+cap*cI t<=a.size/\
  (∀(r:Nat)x(j:Nat)u,xs[r]?=some x->(enc true t x)[j]?=some u->eK c.w b (o+r*cI t+j)=some (f r j)/\(f r j).oneCell'=true)/\
  (∀(r:Nat)x(j:Nat)u,xs[r]?=some x->(enc true t x)[j]?=some u->((r:Int)≠y\/j≠A)->Rd c (some (q,p++[((r:Int),cj t j)])) u (f r j)):=by
 cases h with
 |ko q p _ _ _ _ b o cap a e fr f C D E F H I J=>exact⟨q,p,b,o,cap,a,e,fr,f,rfl,rfl,C,D,E,F,H,I,J⟩
def Rd.qZ(h:Rd c m (.eb t xs) v):(xs=[]/\∃a cap,v=.slice a 0 cap)\/∃b o cap,∃f:Nat->Nat->Value,v=.slice (some ⟨b,o,none⟩) xs.length cap/\xs.length<=cap/\c.γ b=.im/\
  (∀(r:Nat)x(j:Nat)e,xs[r]?=some x->(enc false t x)[j]?=some e->eK c.w b (o+r*cI t+j)=some (f r j)/\(f r j).oneCell'=true)/\
  (∀(r:Nat)x(j:Nat)e,xs[r]?=some x->(enc false t x)[j]?=some e->Rd c none e (f r j)):=by
 cases h with
 |kO _ _ a cap=>exact .inl ⟨rfl,a,cap,rfl⟩
 |nZ _ _ _ b o cap f u y A C=>exact .inr ⟨b,o,cap,f,rfl,u,y,A,C⟩
def Rd.J0(h:Rd c m (.fS t xs) v):(xs=[]/\∃a,v=.slice a 0 0)\/∃b o,∃f:Nat->Nat->Value,v=.slice (some ⟨b,o,none⟩) xs.length xs.length/\c.γ b=.im/\
  (∀(r:Nat)x(j:Nat)e,xs[r]?=some x->(enc false t x)[j]?=some e->eK c.w b (o+r*cI t+j)=some (f r j)/\(f r j).oneCell'=true)/\
  (∀(r:Nat)x(j:Nat)e,xs[r]?=some x->(enc false t x)[j]?=some e->Rd c none e (f r j)):=by
 cases h with
 |qz _ _ a=>exact .inl ⟨rfl,a,rfl⟩
 |qA _ _ _ b o f u y A=>exact .inr ⟨b,o,f,rfl,u,y,A⟩
def Rd.CD(h:Rd c m (.eb t xs) v):∃a cap,v=.slice a xs.length cap/\xs.length<=cap:=by
 rcases h.qZ with⟨rfl,a,cap,rfl⟩|⟨b,o,cap,f,rfl,e,_⟩
 ·exact⟨a,cap,rfl,yi _⟩
 ·exact⟨_,_,rfl,e⟩
def Rd.J1{d:Bool}(h:Rd c m (.own d t xs) v):∃a cap,v=.slice a xs.length cap/\xs.length<=cap:=by
 rcases h.lT with⟨rfl,a,rfl⟩|⟨q,p,b,o,cap,u,e,fr,f,_,rfl,j,_⟩
 ·exact⟨a,0,rfl,yi _⟩
 ·exact⟨_,_,rfl,j⟩
def Rd.zG(h:Rd c m (.fS t xs) v):Rd c m (.eb t xs) v:=by
 rcases h.J0 with⟨rfl,a,rfl⟩|⟨b,o,f,rfl,e,j,u⟩
 ·exact .kO _ _ _ _
 ·exact .nZ _ _ _ _ _ _ f (iN _) e j u
end
end
section
section
variable{α:Type}
def NO{α:Type}(i j:Nat)(x y:α):(bif Nat.beq i j then x else y)=if i=j then x else y:=by
 cases h:Nat.beq i j
 ·rw[cN (λe=>by subst e;simp at h)];rfl
 ·rw[cM (gU h)];rfl
def mW(z:α)(l:Tr α)(x:α)(r:Tr α)(n:Nat):(Tr.nd l x r).get z n=if n=0 then x else if n % 2=1 then l.get z (n/2) else r.get z (n/2-1):=by
 simp only[Tr.get,NO];rfl
def EV(l:Tr α)(x:α)(r:Tr α)(n:Nat)(v:α):(Tr.nd l x r).set n v=if n=0 then .nd l v r else if n % 2=1 then .nd (l.set (n/2) v) x r else .nd l x (r.set (n/2-1) v):=by
 simp only[Tr.set,NO];rfl
def wc(z v:α):∀(t:Tr α)(i j:Nat),i≠j->(t.set i v).get z j=t.get z j
 |.lf,_,_,_=>rfl
 |.nd l x r,i,j,h=>by
  rw[EV,mW]
  by_cases y:i=0
  ·have e:j≠0:=by omega
   rw[cM y,mW,cN e,cN e]
  ·rw[cN y]
   by_cases u:i % 2=1
   ·rw[cM u,mW]
    by_cases e:j=0
    ·rw[cM e,cM e]
    ·rw[cN e,cN e]
     by_cases a:j % 2=1
     ·rw[cM a,cM a,wc z v l _ _ (by omega)]
     ·rw[cN a,cN a]
   ·rw[cN u,mW]
    by_cases e:j=0
    ·rw[cM e,cM e]
    ·rw[cN e,cN e]
     by_cases a:j % 2=1
     ·rw[cM a,cM a]
     ·rw[cN a,cN a,wc z v r _ _ (by omega)]
def yB(z v:α):∀(t:Tr α)(i:Nat),(t.set i v).get z i=v\/(t.set i v).get z i=z
 |.lf,_=>.inr rfl
 |.nd l x r,i=>by
  rw[EV]
  by_cases e:i=0
  ·rw[cM e,mW,cM e];exact .inl rfl
  ·rw[cN e]
   by_cases a:i % 2=1
   ·rw[cM a,mW,cN e,cM a];exact yB z v l _
   ·rw[cN a,mW,cN e,cN a];exact yB z v r _
def Er(z:α)(f:α->α)(a:f z=z):∀(t:Tr α)(i:Nat),(t.map f).get z i=f (t.get z i)
 |.lf,_=>a.symm
 |.nd l x r,i=>by
  simp only[Tr.map];rw[mW,mW];split
  ·rfl
  ·split
   ·exact Er z f a l _
   ·exact Er z f a r _
def wo(z:α):∀(n i:Nat),(Tr.full z n).get z i=z
 |0,_=>rfl
 |n+1,i=>by
  simp only[Tr.full];rw[mW];split
  ·rfl
  ·split
   ·exact wo z n _
   ·exact wo z n _
end
section
variable(s:TS)
def rN{k j:Nat}(v:TV)(h:j≠k):(s.raw k v).cD j=s.cD j:=wc _ _ _ _ _ (oY h)
def wq(k:Nat)(v:TV):(s.raw k v).cD k=v\/(s.raw k v).cD k=.un:=yB _ _ _ _
def OA(k j:Nat)(v:BC):(s.bx k v).cD j=s.cD j:=rfl
def uO{k j:Nat}(v:BC)(h:j≠k):(s.bx k v).box j=s.box j:=wc _ _ _ _ _ (oY h)
def uP(k:Nat)(v:BC):(s.bx k v).box k=v\/(s.bx k v).box k=.none:=yB _ _ _ _
def qW(a:Pl->Bool)(k:Nat):(s.kill a).cD k=Ev.kill a (s.cD k):=Er _ _ rfl _ _
def To(a:Pl->Bool)(k:Nat):(s.kill a).box k=s.box k:=rfl
def BO(d k:Nat):(s.gr d).cD k=Ev.gr d (Ev.kill (Pl.ig d) (s.cD k)):=Er _ (λv=>Ev.gr d (Ev.kill (Pl.ig d) v)) rfl _ _
def abe(d k:Nat):(s.gr d).box k=s.box k:=rfl
end
def aaf{a:Pl->Bool}{tv:TV}(h:fO tv=true):ky a tv=tv:=by
 cases tv<;>simp_all [ky,fO,dN]
def abf{a:Pl->Bool}{e:TV}(h:kF e=true):kF (ky a e)=true:=by
 rcases afC h with h|rfl|⟨p,t,rfl⟩
 ·rw[aaf (by simp[fO,h])];simp[kF,fO,h]
 ·rfl
 ·simp only[ky];cases a p<;>rfl
def Rd.ky{c:Rc}{m:Option Gp}{e:TV}{v:Value}(h:Rd c m e v)(a:Pl->Bool):Rd c m (Ev.ky a e) v:=by
 cases e<;>first
  |exact h
  |(simp only[Ev.ky];rename_i p _;cases a p<;>first|exact h|exact .un _ _)
  |(simp only[Ev.ky];rename_i p _ _;cases a p<;>first|exact h|exact .un _ _)
  |(simp only[Ev.ky];rename_i p _ _ _;cases a p<;>first|exact h|exact .un _ _)
def Rd.kill{c:Rc}{m:Option Gp}{e:TV}{v:Value}(h:Rd c m e v)(A:Pl->Bool):Rd c m (Ev.kill A e) v:=by
 cases e with
 |agg D=>
  cases h with
  |agg _ _ vs E F H I=>
   refine .agg _ _ _ (λe x=>?_) (by simpa using F) (λj e v y C=>?_) (λj e v y C=>?_)
   ·simp only[ik] at x;obtain⟨a,u,rfl⟩:=x;exact abf (E a u)
   all_goals
    rw[iA] at y;cases u:D[j]? with
    |none=>simp[u] at y
    |some a=>
     simp only[u,jx,di] at y;subst y
     first|exact H j a v u C|exact(I j a v u C).ky A
 |_=>exact h.ky A
def tD{u:Pl->Bool}{y:TV}{p:Pl}(h:MV p (Ev.kill u y)):MV p y/\u p=false:=by
 have one:∀{y:TV},(∀A,y≠.agg A)->MV p (ky u y)->MV p y/\u p=false:=by
  intro y C h
  cases y with
  |vw q t=>simp only[ky] at h;cases e:u q<;>simp[e] at h<;>cases h;exact⟨.vw _,e⟩
  |pa q t F=>simp only[ky] at h;cases e:u q<;>simp[e] at h<;>cases h;exact⟨.pa _ _,e⟩
  |sl q t H I=>simp only[ky] at h;cases e:u q<;>simp[e] at h<;>cases h;exact⟨.sl _ _ _,e⟩
  |ep q t r j=>simp only[ky] at h;cases e:u q<;>simp[e] at h<;>cases h;exact⟨.ep _ _ _,e⟩
  |agg A=>exact absurd rfl (C A)
  |_=>cases h
 cases y with
 |agg A=>
  simp only[Ev.kill] at h;cases h with
  |agg _ t D=>
   simp only[ik] at D;obtain⟨a,E,x⟩:=D;cases a with
   |vw q J=>
    simp only[ky] at x;cases e:u q with
    |true=>simp[e] at x
    |false=>
     simp only[e,cR,TV.vw.injEq] at x;obtain⟨rfl,rfl⟩:=x;exact⟨.agg _ _ E,e⟩
   |pa q _ _=>simp only[ky] at x;cases e:u q<;>simp[e] at x
   |sl q _ _ _=>simp only[ky] at x;cases e:u q<;>simp[e] at x
   |ep q _ _ _=>simp only[ky] at x;cases e:u q<;>simp[e] at x
   |_=>simp[ky] at x
 |_=>exact one (by simp) h
def Nf{d:Nat}:∀{a:List TV},nS d a=false->∀j,TV.ptr d j∉a
 |[],_,j,h=>by simp at h
 |v::a,h,j,e=>by
  simp only[nS] at h;cases u:ptrTo d v with
  |true=>simp[u] at h
  |false=>
   simp only[u,cR] at h;rcases eG.1 e with rfl|e
   ·simp[ptrTo] at u
   ·exact Nf h j e
def Rd.gr{c:Rc}{m:Option Gp}{a:TV}{v:Value}(h:Rd c m a v)(d:Nat):Rd c m (Ev.gr d a) v:=by
 cases a<;>first
  |exact h
  |(simp only[Ev.gr];rename_i k _;cases Nat.beq k d<;>first|exact h|exact .un _ _)
  |(simp only[Ev.gr];rename_i _ vs;cases nS d vs<;>first|exact h|exact .un _ _)
def Tp{d:Nat}{u:TV}{k:Nat}(h:MB k (Ev.gr d u)):MB k u/\k≠d:=by
 cases u with
 |ptr q t=>simp only[Ev.gr] at h;cases a:Nat.beq q d<;>simp[a] at h<;>cases h;exact⟨.ptr _,λe=>by subst e;simp at a⟩
 |pe q t=>simp only[Ev.gr] at h;cases a:Nat.beq q d<;>simp[a] at h<;>cases h;exact⟨.pe _,λe=>by subst e;simp at a⟩
 |fn g y=>
  simp only[Ev.gr] at h;cases a:nS d y<;>simp[a] at h<;>cases h;rename_i j x;exact⟨.fn _ _ _ x,λe=>by subst e;exact Nf a j x⟩
 |_=>simp only[Ev.gr] at h;cases h
def Tq{d:Nat}{tv:TV}{p:Pl}(h:MV p (Ev.gr d tv)):MV p tv:=by
 cases tv with
 |ptr q t=>simp only[Ev.gr] at h;cases a:Nat.beq q d<;>simp[a] at h<;>cases h
 |pe q t=>simp only[Ev.gr] at h;cases a:Nat.beq q d<;>simp[a] at h<;>cases h
 |fn g e=>simp only[Ev.gr] at h;cases a:nS d e<;>simp[a] at h<;>cases h
 |_=>exact h
def va(e:Nat->Bool)(j:Nat->Value)(u:Nat->Nat)(w:World):Pl->Option Value
 |.cD k=>if e k=true then some (j k) else none
 |.cell k c=>eK w (u k) c
 |.sub p t r c=>
  match va e j u w p with
  |some (.slice (some ⟨b,o,none⟩) a _)=>if 0<=r/\r<(a:Int)/\c<cI t then eK w b (o+r.toNat*cI t+c) else none
  |_=>none
structure Gs where
 γ:Nat->G
 bx:Nat->Nat
 tm:Nat->Value
def Gs.rc(C:Cx)(g:Gs)(w:World):Rc:=⟨w,g.γ,g.bx,va C.vs g.tm g.bx w⟩
def jQ(a:TV):Bool:=fO a||(match a with|.ko _ _ _ _=>true|_=>false)
def rS{tv:TV}(h:jQ tv=true)(p:Pl):¬ MV p tv:=by
 intro k;cases k<;>simp[jQ,fO,dN] at h
def EW{tv:TV}(h:jQ tv=true)(p:Nat):¬ MB p tv:=by
 intro k;cases k<;>simp[jQ,fO,dN] at h
def PT(c:Rc)(k:Nat)(x:List TV):Prop:=∃a e fr,c.w.heap[c.bx k]?=some (.cells a e fr)/\vA a.size fr/\c.γ (c.bx k)=.at (.box k) []/\a.size=x.length/\(∀u∈x,jQ u=true)/\∀(j:Nat)u v,x[j]?=some u->a[j]?=some v->v.oneCell'=true/\Rd c (some (.box k,[(0,j)])) u v
def agB(c:Rc)(k:Nat)(t:Ty)(j:List (El t)):Prop:=∃a e fr,c.w.heap[c.bx k]?=some (.cells a e fr)/\vA a.size fr/\c.γ (c.bx k)=.at (.box k) []/\gJ t=false/\a.toList=j.map (jW t)
def tQ(j:Nat->G)(w:World)(q:Rt)(x:cq)(v:Value):Prop:=x.length<=140737488355328->(v=.slice none 0 0/\x=[])\/∃g a e,v=.slice (some ⟨g,0,none⟩) x.length a/\j g=.at q [(0,1),tg (.int .u8)]/\w.heap[g]?=some (.cells e 5 (0,0))/\x.length<=a/\0<a/\a<=maxLen/\e.size=a/\e.toList.take x.length=x.map λc=>Value.int .u8 c.toNat
def tQ.move{γ a:Nat->G}{w j:World}{q u:Rt}{x:cq}{v:Value}(h:tQ γ w q x v)(y:∀g,γ g=.at q [(0,1),tg (.int .u8)]->a g=.at u [(0,1),tg (.int .u8)]/\j.heap[g]?=w.heap[g]?):tQ a j u x v:=λC=>by
 rcases h C with h|⟨g,cap,e,D,A,E,F⟩
 ·exact .inl h
 ·exact .inr ⟨g,cap,e,D,(y g A).1,(y g A).2.trans E,F⟩
abbrev GJ:TypeId:=181
def agC(c:Rc)(k:Nat)(x:cq):Prop:=∃p v,c.w.heap[c.bx k]?=some (.cells #[p,v] GJ (0,0))/\c.γ (c.bx k)=.at (.box k) []/\(p=.pointer none\/p=.pointer (some ⟨c.bx k,0,none⟩))/\tQ c.γ c.w (.box k) x v
def uf(c:Rc)(k:Nat):BC->Prop|.none=>True|.cells a=>PT c k a|.vec t e=>agB c k t e|.iL x=>agC c k x
structure Env where
 n0:Nat
 X7:Nat->G
 w0:World
structure xZ(E:Env)(γ:Nat->G)(w:World):Prop where
 tape:w.tape=E.w0.tape
 os:w.os=E.w0.os
 output:w.output=E.w0.output
 size:E.n0<=w.heap.size
 fr:∀b,b<E.n0->E.X7 b=.fr->γ b=.fr/\w.heap[b]?=E.w0.heap[b]?
 im:∀b,b<E.n0->E.X7 b=.im->γ b=.im/\w.heap[b]?=E.w0.heap[b]?
 new:∀b,w.heap.size<=b->γ b=.fr
structure cQ(C:Cx)(E:Env)(s:TS)(g:Gs)(w:World):Prop where
 fQ:∀k,Rd (g.rc C w) (some (.cD k,[])) (s.cD k) (g.tm k)
 boxes:∀k,uf (g.rc C w) k (s.box k)
 cL:xZ E g.γ w
 gl:∀i,Rd (g.rc C w) none (C.gl i) (.pointer (some ⟨i,0,none⟩))
 ln:∀i,(∀p,¬ MV p (C.gl i))/\∀k,¬ MB k (C.gl i)
 gb:∀i o,C.gb i=some o->g.γ i=.im/\w.heap[i]?=some o
structure dK(X:Rt->dv->Prop)(γ:Nat->G)(w:World)(γ':Nat->G)(w':World):Prop where
 im:∀b,γ b=.im->γ' b=.im/\w'.heap[b]?=w.heap[b]?
 at':∀b q p,γ b=.at q p->¬ X q p->γ' b=.at q p/\w'.heap[b]?=w.heap[b]?
 fr:∀b,b<w.heap.size->γ b=.fr->γ' b=.fr/\w'.heap[b]?=w.heap[b]?
 size:w.heap.size<=w'.heap.size
 new:∀b,w'.heap.size<=b->γ' b=.fr
 tape:w'.tape=w.tape
 os:w'.os=w.os
 output:w'.output=w.output
def xZ.next{E:Env}{X:Rt->dv->Prop}{γ e:Nat->G}{w j:World}(h:xZ E γ w)(k:dK X γ w e j):xZ E e j where
 tape:=k.tape.trans h.tape
 os:=k.os.trans h.os
 output:=k.output.trans h.output
 size:=Av h.size k.size
 fr:=λb a h0=>⟨(k.fr b (Me a h.size) (h.fr b a h0).1).1,(k.fr b (Me a h.size) (h.fr b a h0).1).2.trans (h.fr b a h0).2⟩
 im:=λb a h0=>⟨(k.im b (h.im b a h0).1).1,(k.im b (h.im b a h0).1).2.trans (h.im b a h0).2⟩
 new:=k.new
def dK.trans{X Y:Rt->dv->Prop}{γ u a:Nat->G}{w E x:World}(h:dK X γ w u E)(k:dK Y u E a x):dK (λq p=>X q p\/Y q p) γ w a x where
 im:=λb j=>⟨(k.im b (h.im b j).1).1,(k.im b (h.im b j).1).2.trans (h.im b j).2⟩
 at':=λb q p j hx=>by
  obtain⟨y,A⟩:=h.at' b q p j (λe=>hx (.inl e));obtain⟨C,D⟩:=k.at' b q p y (λe=>hx (.inr e));exact⟨C,D.trans A⟩
 fr:=λb j h0=>by
  obtain⟨y,A⟩:=h.fr b j h0;obtain⟨C,D⟩:=k.fr b (Me j h.size) y;exact⟨C,D.trans A⟩
 size:=Av h.size k.size
 new:=k.new
 tape:=k.tape.trans h.tape
 os:=k.os.trans h.os
 output:=k.output.trans h.output
def dK.mono{X Y:Rt->dv->Prop}{γ a:Nat->G}{w w':World}(h:dK X γ w a w')(j:∀q p,X q p->Y q p):dK Y γ w a w':={h with at':=λb q p u hx=>h.at' b q p u (λe=>hx (j _ _ e))}
def dK.refl{γ:Nat->G}{w:World}(X:Rt->dv->Prop)(a:∀b,w.heap.size<=b->γ b=.fr):dK X γ w γ w:=⟨λ_ h=>⟨h,rfl⟩,λ_ _ _ h _=>⟨h,rfl⟩,λ_ _ h=>⟨h,rfl⟩,iN _,a,rfl,rfl,rfl⟩
structure Kept(C:Cx)(X:Rt->dv->Prop)(g:Gs)(w:World)(g':Gs)(w':World)(tv:TV):Prop where
 bx:∀k,MB k tv->g'.bx k=g.bx k
 va:∀p,MV p tv->(g'.rc C w').va p=(g.rc C w).va p/\(VO (g.rc C w) p->VO (g'.rc C w') p)
 pa:∀p,MP p tv->∀π,¬ X (gp p).1 ((gp p).2++π)
def cQ.nF{C:Cx}{E:Env}{s s':TS}{g g':Gs}{w H:World}{X:Rt->dv->Prop}(h:cQ C E s g w)(y:dK X g.γ w g'.γ H)
  (I:∀k,Rd (g'.rc C H) (some (.cD k,[])) (s'.cD k) (g'.tm k)\/(s'.cD k=s.cD k/\g'.tm k=g.tm k/\(∀p,¬ X (.cD k) p)/\Kept C X g w g' H (s.cD k)))
  (P:∀k,uf (g'.rc C H) k (s'.box k)\/(s'.box k=s.box k/\g'.bx k=g.bx k/\∀p,¬ X (.box k) p)):cQ C E s' g' H where
 fQ:=λk=>by
  rcases I k with J|⟨J,F,M,h4⟩
  ·exact J
  ·rw[J,F];exact(h.fQ k).same (λb a=>y.im b a) (λq p N b π a=>by
    simp only[di,eS] at N
    obtain⟨rfl,rfl⟩:=N
    exact y.at' b _ _ a (M _)) h4.bx h4.va (λp A b π a=>y.at' b _ _ a (h4.pa p A π))
 boxes:=λk=>by
  rcases P k with J|⟨J,F,M⟩
  ·exact J
  ·rw[J];have a:=h.boxes k;cases hc:s.box k with
   |none=>trivial
   |cells cs=>
    rw[hc] at a;obtain⟨vs,e,fr,Q,hu,R,hl,Y,Z⟩:=a;obtain⟨u,D⟩:=y.at' _ _ _ R (M _);refine⟨vs,e,fr,?_,hu,?_,hl,Y,λj S v U hv=>⟨(Z j S v U hv).1,(Z j S v U hv).2.same (λb a=>y.im b a) (λq p N b π a=>?_) (λi hi=>absurd hi (EW (Y S (fh U)) i)) (λp A=>absurd A (rS (Y S (fh U)) p)) (λp A=>absurd A.mv (rS (Y S (fh U)) p))⟩⟩
    ·show H.heap[g'.bx k]?=_;rw[F];exact D.trans Q
    ·show g'.γ (g'.bx k)=_;rw[F];exact u
    ·simp only[di,eS] at N;obtain⟨rfl,rfl⟩:=N;exact y.at' b _ _ a (M _)
   |vec t xs=>
    rw[hc] at a;obtain⟨vs,e,fr,Q,hu,R,hl⟩:=a;obtain⟨u,D⟩:=y.at' _ _ _ R (M _);exact⟨vs,e,fr,by show H.heap[g'.bx k]?=_;rw[F];exact D.trans Q,hu,by show g'.γ (g'.bx k)=_;rw[F];exact u,hl⟩
   |iL x=>
    rw[hc] at a;obtain⟨p,v,Q,R,A,Z⟩:=a;obtain⟨u,D⟩:=y.at' _ _ _ R (M _);refine⟨p,v,by show H.heap[g'.bx k]?=_;rw[F];exact D.trans Q,by show g'.γ (g'.bx k)=_;rw[F];exact u,by show p=_\/p=.pointer (some ⟨g'.bx k,0,none⟩);rw[F];exact A,?_⟩;exact Z.move λg' u=>y.at' g' _ _ u (M _)
 cL:=h.cL.next y
 gl:=λi=>(h.gl i).same (λb a=>y.im b a) (λq p N=>by simp at N) (λk hk=>absurd hk ((h.ln i).2 k)) (λp A=>absurd A ((h.ln i).1 p)) (λp A=>absurd A.mv ((h.ln i).1 p))
 ln:=h.ln
 gb i o hi:=⟨(y.im i (h.gb i o hi).1).1,(y.im i (h.gb i o hi).1).2.trans (h.gb i o hi).2⟩
def ug:Pl->List Pl|.cD _=>[]|.cell _ _=>[]|.sub p _ _ _=>p::ug p
def oF:Pl->Option Nat|.cD k=>some k|.cell _ _=>none|.sub p _ _ _=>oF p
def C7:Pl->Option Nat|.cD _=>none|.cell k _=>some k|.sub p _ _ _=>C7 p
def nv{C:Cx}{X:Rt->dv->Prop}{g g':Gs}{w A:World}(E:dK X g.γ w g'.γ A):∀(p:Pl),VO (g.rc C w) p->
  (∀q∈ug p,∀b t,g.γ b=.at (gp q).1 ((gp q).2++[tg t])->(g'.γ b=.im\/g'.γ b=.at (gp q).1 ((gp q).2++[tg t]))/\A.heap[b]?=w.heap[b]?)->
  (∀k,oF p=some k->C.vs k=true->g'.tm k=g.tm k)->(∀k,C7 p=some k->g'.bx k=g.bx k/\¬ X (.box k) [])->
  (g'.rc C A).va p=(g.rc C w).va p/\VO (g'.rc C A) p
 |.cD k,_,_,F,_=>by
  refine⟨?_,trivial⟩;simp only[Gs.rc,va]
  by_cases D:C.vs k=true
  ·rw[cM D,cM D,F k rfl D]
  ·rw[cN D,cN D]
 |.cell k c,y,_,_,H=>by
  obtain⟨u,hx⟩:=H k rfl;simp only[VO,Gs.rc] at y;obtain⟨I,N⟩:=E.at' _ _ _ y hx;refine⟨?_,?_⟩
  ·simp only[Gs.rc,va];rw[u];exact lP N
  ·simp only[VO,Gs.rc];rw[u];exact I
 |.sub p t r c,y,M,F,H=>by
  obtain⟨y,I⟩:=y;obtain⟨x,J⟩:=nv E p y (λq P=>M q (by simp[ug,P])) F H;have j:∀b o a e,(g.rc C w).va p=some (.slice (some ⟨b,o,none⟩) a e)->(g'.γ b=.im\/g'.γ b=.at (gp p).1 ((gp p).2++[tg t]))/\A.heap[b]?=w.heap[b]?:=λb o a e u=>by
   rcases I b o a e u with h|h
   ·exact⟨.inl (E.im b h).1,(E.im b h).2⟩
   ·exact M p (by simp[ug]) b t h
  refine⟨?_,J,λb o a e u=>(j b o a e (x ▸u)).1⟩;simp only[Gs.rc] at x j⊢;simp only[va,x];split
  ·rename_i b o a e u;split
   ·exact lP (j b o a e u).2
   ·rfl
  ·rfl
def oq{X:Rt->dv->Prop}{e a:Nat->G}{w j:World}(u:dK X e w a j){p:Pl}(h:∀q∈ug p,∀t:Ty,X (gp q).1 ((gp q).2++[tg t])->False):∀q∈ug p,∀b t,e b=.at (gp q).1 ((gp q).2++[tg t])->(a b=.im\/a b=.at (gp q).1 ((gp q).2++[tg t]))/\j.heap[b]?=w.heap[b]?:=λq x b t y=>⟨.inr (u.at' b _ _ y (λhx=>h q x t hx)).1,(u.at' b _ _ y (λhx=>h q x t hx)).2⟩
def wT:∀{p:Pl}{k:Nat},oF p=some k↔(gp p).1=.cD k
 |.cD k,j=>by simp[oF,gp]
 |.cell _ _,j=>by simp[oF,gp]
 |.sub p _ _ _,j=>by simpa[oF,gp] using wT (p:=p)
def zo:∀{p:Pl}{k:Nat},C7 p=some k↔(gp p).1=.box k
 |.cD k,j=>by simp[C7,gp]
 |.cell _ _,j=>by simp[C7,gp]
 |.sub p _ _ _,j=>by simpa[C7,gp] using zo (p:=p)
def qe:∀{p q:Pl},q∈ug p->(gp q).1=(gp p).1/\p.jG=true
 |.cD _,_,h=>by simp[ug] at h
 |.cell _ _,_,h=>by simp[ug] at h
 |.sub p _ _ _,q,h=>by
  simp only[ug,eG] at h;refine⟨?_,rfl⟩;rcases h with rfl|h
  ·rfl
  ·exact(qe h).1
def xa:∀{p:Pl}{k:Nat},p.l6 k=true↔(gp p).1=.cD k
 |.cD k,j=>by simp only[Pl.l6,gp,Nat.beq_eq,Rt.cD.injEq];exact⟨λh=>h.symm,λh=>h.symm⟩
 |.cell _ _,j=>by simp[Pl.l6,gp]
 |.sub p _ _ _,j=>by simpa[Pl.l6,gp] using xa (p:=p)
def uY:∀{p:Pl}{k:Nat},p.ig k=true↔(gp p).1=.box k
 |.cD k,j=>by simp[Pl.ig,gp]
 |.cell k _,j=>by simp only[Pl.ig,gp,Nat.beq_eq,Rt.box.injEq];exact⟨λh=>h.symm,λh=>h.symm⟩
 |.sub p _ _ _,j=>by simpa[Pl.ig,gp] using uY (p:=p)
def aed{p:Pl}{k:Nat}:p.n9 k=true↔(gp p).1=.cD k/\p.jG=true:=by
 cases p with
 |sub p t r c=>simp only[Pl.n9,xa,gp,Pl.jG,jB]
 |_=>simp[Pl.n9,Pl.jG]
def aee{p:Pl}{k:Nat}:p.oa k=true↔(gp p).1=.box k/\p.jG=true:=by
 cases p with
 |sub p t r c=>simp only[Pl.oa,uY,gp,Pl.jG,jB]
 |_=>simp[Pl.oa,Pl.jG]
def cQ.uh{C:Cx}{E:Env}{s a:TS}{g:Gs}{w:World}(h:cQ C E s g w)(j:∀k,Rd (g.rc C w) (some (.cD k,[])) (a.cD k) (g.tm k))(u:∀k,a.box k=s.box k\/a.box k=.none):cQ C E a g w:=⟨j,λk=>by rcases u k with e|e<;>rw[e];exact h.boxes k;trivial,h.cL,h.gl,h.ln,h.gb⟩
def cQ.kill{C:Cx}{E:Env}{s:TS}{g:Gs}{w:World}(h:cQ C E s g w)(a:Pl->Bool):cQ C E (s.kill a) g w:=h.uh (λk=>by rw[qW];exact(h.fQ k).kill a) (λk=>.inl (To s a k))
def cQ.gr{C:Cx}{E:Env}{s:TS}{g:Gs}{w:World}(h:cQ C E s g w)(d:Nat):cQ C E (s.gr d) g w:=h.uh (λk=>by rw[BO];exact((h.fQ k).kill _).gr d) (λk=>.inl (abe s d k))
end
section
section
def u7:∀(l:List TV)(n:Nat),nth l n=l[n]?.getD .un
 |[],_=>by simp[nth]
 |_::_,0=>rfl
 |_::r,n+1=>by simp[nth,u7 r n]
def sf:∀(l:List TV)(n:Nat)(x:TV),ld l n x=l.set n x
 |[],_,_=>rfl
 |_::_,0,_=>rfl
 |v::r,n+1,x=>by simp[ld,sf r n x]
def zp:∀(n:Nat)(l:List TV),takeN n l=l.take n
 |0,_=>by simp[takeN]
 |n+1,[]=>rfl
 |n+1,v::r=>by simp[takeN,zp n r]
def zq:∀(n:Nat)(l:List TV),vh n l=l.drop n
 |0,_=>rfl
 |n+1,[]=>rfl
 |n+1,v::r=>by simp[vh,zq n r]
def UZ:∀(l m:List TV),Dh l m=l++m
 |[],_=>rfl
 |v::r,m=>by simp[Dh,UZ r m]
def xb:∀(l:List TV),qw l=l.length
 |[]=>rfl
 |_::r=>by simp[qw,xb r]
def CE(a e:List TV)(c:Nat):pK a c e=a.take c++e++a.drop (c+e.length):=by
 simp only[pK,UZ,zp,zq,xb,ke];rfl
def uS{c n:Nat}{cs:List TV}:room c n cs=true↔c+n<=cs.length:=by
 simp only[room,xb,Nat.ble_eq];rfl
variable{α R:Type}{r:R}
def fa{o:Option α}{f:α->Option R}:ck o f=some r↔∃x,o=some x/\f x=some r:=Aw
def dY{c:Bool}{x:Option R}:(bif c then x else none)=some r↔c=true/\x=some r:=by cases c<;>simp
def Cf{b:Bool}{x y:Option R}:um b x y=some r↔(b=true/\x=some r)\/(b=false/\y=some r):=by cases b<;>simp[um]
def lQ{a:List α}{n:Int}{x:α}:cm a n=some x↔0<=n/\a[n.toNat]?=some x:=by
 unfold cm
 by_cases h:0<=n
 ·rw[cM h];exact⟨λe=>⟨h,e⟩,λe=>e.2⟩
 ·rw[cN h];exact⟨λe=>by simp at e,λe=>absurd e.1 h⟩
def mr{b:Bool}{u:Unit}:dV b=some u↔b=true:=by cases b<;>simp[dV]
def tj{a u:List α}{l h:Int}:ff a l h=some u↔(0<=l/\l<=h/\h<=a.length)/\u=(a.drop l.toNat).take (h.toNat-l.toNat):=by
 unfold ff
 by_cases j:0<=l/\l<=h/\h<=a.length
 ·rw[cM j];exact⟨λe=>⟨j,(gV e).symm⟩,λe=>by rw[e.2]⟩
 ·rw[cN j];exact⟨λe=>by simp at e,λe=>absurd e.1 j⟩
end
def U0{C:Cx}{E:Env}{s:TS}{g:Gs}{w:World}{R:Type}{r:R}(h:cQ C E s g w):∀(p:Pl)(K:TV->Option R),j4 C s p K=some r->
  ∃P,K P=some r/\(P=.un\/∃v,(g.rc C w).va p=some v/\Rd (g.rc C w) (some (gp p)) P v/\VO (g.rc C w) p)
 |.cD k,K,j=>by
  simp only[j4,dY] at j;refine⟨_,j.2,.inr ⟨g.tm k,?_,h.fQ k,trivial⟩⟩;simp only[Gs.rc,va];rw[cM j.1]
 |.cell k c,K,j=>by
  simp only[j4] at j;split at j
  ·rename_i cs A;refine⟨_,j,?_⟩;rw[u7];have D:=h.boxes k;rw[A] at D;obtain⟨vs,e,fr,hh,hu,U,hl,hT,Y⟩:=D
   by_cases Q:c<cs.length
   ·right
    have a:c<vs.size:=by omega
    obtain⟨_,h2⟩:=Y c cs[c] vs[c] (eN Q) (jN a);refine⟨vs[c],?_,by rw[eN Q];exact h2,U⟩;have aa:w.heap[g.bx k]?=some (.cells vs e fr):=hh;simp[Gs.rc,va,eK,World.cell?,aa,a]
   ·left;simp[nI (by omega:cs.length<=c)]
  ·simp at j
 |.sub p t i c,K,j=>by
  simp only[j4] at j;obtain⟨P,j,S⟩:=U0 h p _ j;have ab:∀(d:Bool)(y:Ty)(xs:List (El y))(x:El y),P=(if d then .own true y xs else P)->y=t->True:=λ_ _ _ _ _ _=>trivial;clear ab;split at j
  ·rename_i d y xs;obtain⟨F,H⟩:=dY.1 j;obtain⟨x,hx,I⟩:=fa.1 H;obtain⟨h0,hx⟩:=lQ.1 hx;have F:y=t:=fG F;subst F;refine⟨_,I,?_⟩;rw[u7];rcases S with S|⟨v,J,Y,M⟩
   ·simp at S
   rcases Y.lT with⟨rfl,_⟩|⟨q,π,b,o,ad,cs,e,fr,f,hm,rfl,hl,U,hh,hu,hs,Q,N⟩
   ·simp at hx
   ·simp only[di] at hm
    by_cases a:c<cI y
    ·right
     have u:(enc d y x)[c]?=some ((enc d y x)[c]'(by rw[iu];exact a)):=eN _;obtain⟨h1,h2⟩:=Q i.toNat x c _ hx u;have h3:=N i.toNat x c _ hx u;refine⟨f i.toNat c,?_,?_,M,λb' o' ae Z A=>?_⟩
     ·have af:i.toNat<xs.length:=(eT.1 hx).1;simp only[Gs.rc] at J⊢;simp only[va,J];rw[cM ⟨h0,by omega,a⟩];exact h1
     ·rw[u];have hi:((i.toNat:Nat):Int)=i:=by omega
      rw[hi] at h3;simp only[gp,hm];exact h3
     ·have:(g.rc C w).va p=_:=J;rw[this] at A;simp only[di,kH,mS,jB] at A;obtain⟨⟨rfl,_⟩,_⟩:=A;exact .inr (by rw[hm];exact U)
    ·left;rw[nI (by rw[iu];omega)];rfl
  ·rename_i y xs;obtain⟨F,H⟩:=dY.1 j;obtain⟨x,hx,I⟩:=fa.1 H;obtain⟨h0,hx⟩:=lQ.1 hx;have F:y=t:=fG F;subst F;refine⟨_,I,?_⟩;rw[u7];rcases S with S|⟨v,J,Y,M⟩
   ·simp at S
   rcases Y.qZ with⟨rfl,_⟩|⟨b,o,ad,f,rfl,hl,U,Q,N⟩
   ·simp at hx
   ·by_cases a:c<cI y
    ·right
     have u:(enc false y x)[c]?=some ((enc false y x)[c]'(by rw[iu];exact a)):=eN _;obtain⟨h1,h2⟩:=Q i.toNat x c _ hx u;have h3:=N i.toNat x c _ hx u;refine⟨f i.toNat c,?_,?_,M,λb' o' ae Z A=>?_⟩
     ·have af:i.toNat<xs.length:=(eT.1 hx).1;simp only[Gs.rc] at J⊢;simp only[va,J];rw[cM ⟨h0,by omega,a⟩];exact h1
     ·rw[u];exact h3.lift _
     ·have:(g.rc C w).va p=_:=J;rw[this] at A;simp only[di,kH,mS,jB] at A;obtain⟨⟨rfl,_⟩,_⟩:=A;exact .inl U
    ·left;rw[nI (by rw[iu];omega)];rfl
  ·simp at j
def gn(C:Cx)(s:TS):Pl->Option TV
 |.cD k=>if C.vs k=true then some (s.cD k) else none
 |.cell k c=>
  match s.box k with
  |.cells j=>some (nth j c)
  |_=>none
 |.sub p t i c=>
  match gn C s p with
  |some (.own d a e)=>if a=t then(cm e i).map λx=>nth (enc d a x) c else none
  |some (.eb a e)=>if a=t then(cm e i).map λx=>nth (enc false a x) c else none
  |_=>none
def uZ{C:Cx}{s:TS}{R:Type}:∀(p:Pl)(K:TV->Option R),j4 C s p K=(gn C s p).bind K
 |.cD k,K=>by simp only[j4,gn];cases C.vs k<;>rfl
 |.cell k c,K=>by simp only[j4,gn];cases s.box k<;>rfl
 |.sub p t i c,K=>by
  simp only[j4,gn];rw[uZ p];cases gn C s p with
  |none=>rfl
  |some u=>
   cases u with
   |own d e j=>
    by_cases a:e=t
    ·subst a;simp only[o4,gi,cP,gE];unfold ck;cases cm j i<;>rfl
    ·simp only[o4,cN a,gP a,cR];rfl
   |eb e j=>
    by_cases a:e=t
    ·subst a;simp only[o4,gi,cP,gE];unfold ck;cases cm j i<;>rfl
    ·simp only[o4,cN a,gP a,cR];rfl
   |_=>rfl
def py{C:Cx}{s:TS}{R:Type}{r:R}{p:Pl}{K:TV->Option R}(h:j4 C s p K=some r):∃a,gn C s p=some a/\K a=some r:=by
 rw[uZ] at h;exact Aw.1 h
def tE{C:Cx}{E:Env}{s:TS}{g:Gs}{w:World}(h:cQ C E s g w){p:Pl}{a:TV}(j:gn C s p=some a):a=.un\/∃v,(g.rc C w).va p=some v/\Rd (g.rc C w) (some (gp p)) a v/\VO (g.rc C w) p:=by
 obtain⟨u,e,x⟩:=U0 (r:=a) h p some (by rw[uZ,j];rfl);simp only[di] at e;subst e;exact x
def eQ(q1:Rt)(p1:dv)(q:Rt)(p:dv):Prop:=q=q1/\p1<+:p
def dZ(γ:Nat->G)(q1:Rt)(p1:dv)(q2:Rt)(p2:dv):Nat->G:=λb=>
 match γ b with
 |.at q p=>if q=q1/\p1<+:p then .at q2 (p2++p.drop p1.length) else .at q p
 |x=>x
def lJ(γ:Nat->G)(q1:Rt)(p1:dv):Nat->G:=λb=>
 match γ b with
 |.at q p=>if q=q1/\p1<+:p then .im else .at q p
 |x=>x
section
variable{γ:Nat->G}{q1 q2 q:Rt}{p1 p2 p π:dv}{b:Nat}
def zt(h:γ b=.at q1 (p1++π)):dZ γ q1 p1 q2 p2 b=.at q2 (p2++π):=by simp[dZ,h]
def wI(h:γ b=.at q p)(a:¬ eQ q1 p1 q p):dZ γ q1 p1 q2 p2 b=.at q p:=by
 simp only[dZ,h];exact cN a
def qY(h:γ b=.im):dZ γ q1 p1 q2 p2 b=.im:=by simp[dZ,h]
def Fk(h:γ b=.fr):dZ γ q1 p1 q2 p2 b=.fr:=by simp[dZ,h]
def J2(h:γ b=.at q1 (p1++π)):lJ γ q1 p1 b=.im:=by simp[lJ,h]
def Ts(h:γ b=.at q p)(a:¬ eQ q1 p1 q p):lJ γ q1 p1 b=.at q p:=by
 simp only[lJ,h];exact cN a
def CF(h:γ b=.im):lJ γ q1 p1 b=.im:=by simp[lJ,h]
def OB(h:γ b=.fr):lJ γ q1 p1 b=.fr:=by simp[lJ,h]
def aef(h:γ b=.at q p):lJ γ q1 p1 b=.im\/lJ γ q1 p1 b=.at q p:=by
 simp only[lJ,h];split<;>simp
def ph{w:World}(a:∀b,w.heap.size<=b->γ b=.fr):dK (eQ q1 p1) γ w (dZ γ q1 p1 q2 p2) w:=⟨λ_ h=>⟨qY h,rfl⟩,λ_ _ _ h hx=>⟨wI h hx,rfl⟩,λ_ _ h=>⟨Fk h,rfl⟩,iN _,λb e=>Fk (a b e),rfl,rfl,rfl⟩
def U1{w:World}(a:∀b,w.heap.size<=b->γ b=.fr):dK (eQ q1 p1) γ w (lJ γ q1 p1) w:=⟨λ_ h=>⟨CF h,rfl⟩,λ_ _ _ h hx=>⟨Ts h hx,rfl⟩,λ_ _ h=>⟨OB h,rfl⟩,iN _,λb e=>OB (a b e),rfl,rfl,rfl⟩
end
def Rd.KH{c:Rc}{m:Option Gp}{a:TV}{v:Value}(h:Rd c m a v){p:Pl}(e:MP p a):p.jG=true:=by
 cases e;cases h;assumption
def RS{C:Cx}{E:Env}{s:TS}{g:Gs}{w:World}{k:Nat}{a:dv}{γ':Nat->G}(h:cQ C E s g w)(x:dK (eQ (.cD k) a) g.γ w γ' w)(y:∀j p,MV p (s.cD j)->(gp p).1=.cD k->p.jG=true->False)
  (j:Nat):Kept C (eQ (.cD k) a) g w {g with γ:=γ'} w (s.cD j) where
 bx:=λ_ _=>rfl
 va:=λp e=>by
  have:=λu=>nv (C:=C) (g:=g) (g':={g with γ:=γ'}) x p u (oq x λq A _ hx=>y j p e ((qe A).1 ▸hx.1) (qe A).2) (λ_ _ _=>rfl) (λi _=>⟨rfl,λhx=>by simp[eQ] at hx⟩);exact⟨rfl,λu=>(this u).2⟩
 pa:=λp e π hx=>y j p e.mv hx.1 ((h.fQ j).KH e)
def abg{C:Cx}{E:Env}{s:TS}{g:Gs}{w:World}{k c:Nat}{e:dv}{a:Nat->G}(h:cQ C E s g w)(y:dK (eQ (.box k) ((0,c)::e)) g.γ w a w)(A:∀j p,MV p (s.cD j)->(gp p).1=.box k->p.jG=true->False)
  (j:Nat):Kept C (eQ (.box k) ((0,c)::e)) g w {g with γ:=a} w (s.cD j) where
 bx:=λ_ _=>rfl
 va:=λp u=>by
  have:=λx=>nv (C:=C) (g:=g) (g':={g with γ:=a}) y p x (oq y λq D _ hx=>A j p u ((qe D).1 ▸hx.1) (qe D).2) (λ_ _ _=>rfl) (λi _=>⟨rfl,λhx=>by simp[eQ] at hx⟩);exact⟨rfl,λx=>(this x).2⟩
 pa:=λp u π hx=>A j p u.mv hx.1 ((h.fQ j).KH u)
def Ig{s:TS}{k:Nat}:∀j p,MV p ((s.kill (Pl.n9 k)).cD j)->(gp p).1=.cD k->p.jG=true->False:=λj p a e u=>by
 rw[qW] at a;have:=(tD a).2;rw[aed.2 ⟨e,u⟩] at this;simp at this
def Ih{s:TS}{k:Nat}:∀j p,MV p ((s.kill (Pl.oa k)).cD j)->(gp p).1=.box k->p.jG=true->False:=λj p a e u=>by
 rw[qW] at a;have:=(tD a).2;rw[aee.2 ⟨e,u⟩] at this;simp at this
def cQ.K7{C:Cx}{E:Env}{s:TS}{g:Gs}{w:World}{k:Nat}{x:dv}{a:Nat->G}{u:TV}(h:cQ C E s g w)(A:dK (eQ (.cD k) x) g.γ w a w)(D:∀j p,MV p (s.cD j)->(gp p).1=.cD k->p.jG=true->False)
  (F:Rd (Gs.rc C {g with γ:=a} w) (some (.cD k,[])) u (g.tm k)):cQ C E (s.raw k u) {g with γ:=a} w:=by
 refine h.nF A (λj=>?_) (λj=>.inr ⟨rfl,rfl,λp hx=>by simp[eQ] at hx⟩)
 by_cases y:j=k
 ·subst y
  left
  rcases wq s j u with e|e<;>rw[e]
  ·exact F
  ·exact .un _ _
 ·exact .inr ⟨rN s u y,rfl,λp hx=>y (by simpa[eQ] using hx.1),RS h A D j⟩
def Ng{C:Cx}{g:Gs}{w:World}{γ':Nat->G}{k c:Nat}{N:List TV}{π0:dv}{E:TV}(D:PT (g.rc C w) k N)(F:dK (eQ (.box k) ((0,c)::π0)) g.γ w γ' w)(Z:jQ E=true)
  (hv:∀v,eK w (g.bx k) c=some v->Rd (Gs.rc C {g with γ:=γ'} w) (some (.box k,[(0,c)])) E v):PT (Gs.rc C {g with γ:=γ'} w) k (N.set c E):=by
 obtain⟨P,e,fr,Q,hu,hg,hl,u,S⟩:=D;have H:=(F.at' _ _ _ hg (by simp[eQ])).1;refine⟨P,e,fr,Q,hu,H,by simpa using hl,λx hx=>?_,λj x v a y=>?_⟩
 ·rcases Ax hx with hx|rfl
  ·exact u x hx
  ·exact Z
 ·rw[aiV] at a;split at a
  ·rename_i A;subst A;split at a
   ·rename_i I;simp only[di] at a;subst a;have J:w.heap[g.bx k]?=some (.cells P e fr):=Q;refine⟨(S _ _ v (eN I) y).1,hv v ?_⟩;simp[eK,World.cell?,J,y]
   ·simp at a
  ·rename_i A;obtain⟨h1,h2⟩:=S j x v a y;refine⟨h1,h2.same (λb D=>F.im b D) (λq p U b π D=>?_) (λi hi=>absurd hi (EW (u x (fh a)) i)) (λp M=>absurd M (rS (u x (fh a)) p)) (λp M=>absurd M.mv (rS (u x (fh a)) p))⟩;simp only[di,eS] at U;obtain⟨rfl,rfl⟩:=U;refine F.at' b _ _ D λhx=>?_;obtain⟨_,t,Y⟩:=hx;simp at Y;exact A Y.1
def cQ.W7{C:Cx}{E:Env}{s:TS}{g:Gs}{w:World}{k c:Nat}{y:List TV}{π0:dv}{u:Nat->G}{x:TV}(h:cQ C E s g w)(F:s.box k=.cells y)(A:dK (eQ (.box k) ((0,c)::π0)) g.γ w u w)
  (H:∀j p,MV p (s.cD j)->(gp p).1=.box k->p.jG=true->False)(I:jQ x=true)
  (J:∀v,eK w (g.bx k) c=some v->Rd (Gs.rc C {g with γ:=u} w) (some (.box k,[(0,c)])) x v):cQ C E (s.bx k (.cells (ld y c x))) {g with γ:=u} w:=by
 refine h.nF A (λj=>.inr ⟨OA s k j _,rfl,λp hx=>by simp[eQ] at hx,abg h A H j⟩) (λj=>?_)
 by_cases D:j=k
 ·subst D
  left
  have a:=h.boxes j;rw[F] at a;rcases uP s j (.cells (ld y c x)) with e|e<;>rw[e]
  ·rw[sf];exact Ng a A I J
  ·trivial
 ·exact .inr ⟨uO s _ D,rfl,λp hx=>D (by simpa[eQ] using hx.1)⟩
end
def Rd.q8{c:Rc}{m:Option Gp}{a:TV}{v:Value}(h:Rd c m a v)(e:Pl->Bool):Rd c m (Ev.q8 e a) v:=by
 cases a<;>first
  |exact h
  |(simp only[Ev.q8];rename_i p _ _;cases e p<;>first|exact h|exact .un _ _)
def Nh{a:Pl->Bool}{e:TV}{p:Pl}(h:MP p (Ev.q8 a e)):a p=false:=by
 cases e with
 |pa q t u=>simp only[Ev.q8] at h;cases j:a q<;>simp[j] at h<;>cases h;exact j
 |_=>cases h
def y9(s:TS)(a:Pl->Bool)(k:Nat):(s.gv a).cD k=Ev.q8 a (s.cD k):=Er _ _ rfl _ _
def cQ.gv{C:Cx}{E:Env}{s:TS}{g:Gs}{w:World}(h:cQ C E s g w)(a:Pl->Bool):cQ C E (s.gv a) g w:=h.uh (λk=>by rw[y9];exact(h.fQ k).q8 a) (λ_=>.inl rfl)
def W8{s:TS}{k:Nat}:∀j p,MP p ((s.gv (Pl.l6 k)).cD j)->(gp p).1=.cD k->False:=λj p a e=>by
 rw[y9] at a;have:=Nh a;rw[xa.2 e] at this;simp at this
def W9{s:TS}{k:Nat}:∀j p,MP p ((s.gv (Pl.ig k)).cD j)->(gp p).1=.box k->False:=λj p a e=>by
 rw[y9] at a;have:=Nh a;rw[uY.2 e] at this;simp at this
def Qt(e a:Nat->G):Prop:=∀b q p,e b=.at q p->a b=.im\/a b=.at q p
def Wd{a:Nat->G}{e:Rt}{j:dv}:Qt a (lJ a e j):=λ_ _ _ h=>aef h
def JA{C:Cx}{g:Gs}{w:World}{a:Nat->G}{X:Rt->dv->Prop}{e:TV}(j:dK X g.γ w a w)(u:Qt g.γ a)(hx:∀k,¬ X (.box k) [])(x:∀p,MP p e->∀y,¬ X (gp p).1 ((gp p).2++y)):
  Kept C X g w {g with γ:=a} w e where
 bx:=λ_ _=>rfl
 va:=λp _=>⟨rfl,λA=>(nv (C:=C) (g:=g) (g':={g with γ:=a}) j p A (λ_ _ b _ D=>⟨u b _ _ D,rfl⟩) (λ_ _ _=>rfl) (λi _=>⟨rfl,hx i⟩)).2⟩
 pa:=x
def cQ.Xa{C:Cx}{E:Env}{s:TS}{g:Gs}{w:World}{k:Nat}{u:dv}{a:Nat->G}{x:TV}(h:cQ C E s g w)(A:dK (eQ (.cD k) u) g.γ w a w)(D:∀j,j≠k->Kept C (eQ (.cD k) u) g w {g with γ:=a} w (s.cD j))
  (F:Rd (Gs.rc C {g with γ:=a} w) (some (.cD k,[])) x (g.tm k)):cQ C E (s.raw k x) {g with γ:=a} w:=by
 refine h.nF A (λj=>?_) (λj=>.inr ⟨rfl,rfl,λp hx=>by simp[eQ] at hx⟩)
 by_cases y:j=k
 ·subst y
  left
  rcases wq s j x with e|e<;>rw[e]
  ·exact F
  ·exact .un _ _
 ·exact .inr ⟨rN s x y,rfl,λp hx=>y (by simpa[eQ] using hx.1),D j y⟩
def cQ.Xb{C:Cx}{E:Env}{s:TS}{g:Gs}{w:World}{k c:Nat}{y:List TV}{π0:dv}{a:Nat->G}{x:TV}(h:cQ C E s g w)(F:s.box k=.cells y)(D:dK (eQ (.box k) ((0,c)::π0)) g.γ w a w)
  (H:∀j,Kept C (eQ (.box k) ((0,c)::π0)) g w {g with γ:=a} w (s.cD j))(I:jQ x=true)
  (J:∀v,eK w (g.bx k) c=some v->Rd (Gs.rc C {g with γ:=a} w) (some (.box k,[(0,c)])) x v):cQ C E (s.bx k (.cells (ld y c x))) {g with γ:=a} w:=by
 refine h.nF D (λj=>.inr ⟨OA s k j _,rfl,λp hx=>by simp[eQ] at hx,H j⟩) (λj=>?_)
 by_cases A:j=k
 ·subst A
  left
  have u:=h.boxes j;rw[F] at u;rcases uP s j (.cells (ld y c x)) with e|e<;>rw[e]
  ·rw[sf];exact Ng u D I J
  ·trivial
 ·exact .inr ⟨uO s _ A,rfl,λp hx=>A (by simpa[eQ] using hx.1)⟩
def fo(a s:TS):Prop:=∀k p,MV p (a.cD k)->MV p (s.cD k)
def fo.refl(s:TS):fo s s:=λ_ _ h=>h
def fo.trans{s e a:TS}(h:fo a e)(k:fo e s):fo a s:=λi p j=>k i p (h i p j)
def fo.kill(s:TS)(e:Pl->Bool):fo (s.kill e) s:=λi p a=>by rw[qW] at a;exact(tD a).1
def abh{a:Pl->Bool}{tv:TV}{p:Pl}(h:MV p (Ev.q8 a tv)):MV p tv:=by
 cases tv with
 |pa q t j=>simp only[Ev.q8] at h;cases e:a q<;>simp[e] at h<;>cases h;exact .pa _ _
 |_=>exact h
def fo.gv(s:TS)(e:Pl->Bool):fo (s.gv e) s:=λi p a=>by rw[y9] at a;exact abh a
def fo.raw(s:TS)(k:Nat){v:TV}(h:∀p,MV p v->MV p (s.cD k)):fo (s.raw k v) s:=λi p a=>by
 by_cases hi:i=k
 ·subst hi;rcases wq s i v with e|e<;>rw[e] at a
  ·exact h p a
  ·cases a
 ·rwa[rN s v hi] at a
def fo.Lo{j s:TS}(k:Nat){v:TV}(h0:fo j s)(h:∀p,MV p v->MV p (s.cD k)):fo (j.raw k v) s:=λi p a=>by
 by_cases hi:i=k
 ·subst hi;rcases wq j i v with e|e<;>rw[e] at a
  ·exact h p a
  ·cases a
 ·rw[rN j v hi] at a;exact h0 i p a
def fo.bx(s:TS)(k:Nat)(v:BC):fo (s.bx k v) s:=λi p a=>a
def kW(q:Rt)(p:dv):Prop:=(∃k,q=.box k)/\p=[]
structure FK(Z:Rt->Prop)(γ γ':Nat->G):Prop where
 im:∀b,γ b=.im->γ' b=.im
 at':∀b q p,γ b=.at q p->(Z q->kW q p)->γ' b=.at q p
 fr:∀b,γ b=.fr->γ' b=.fr
def FK.refl{Z:Rt->Prop}(γ:Nat->G):FK Z γ γ:=⟨λ_ h=>h,λ_ _ _ h _=>h,λ_ h=>h⟩
def FK.trans{Z:Rt->Prop}{γ a GX:Nat->G}(h:FK Z γ a)(k:FK Z a GX):FK Z γ GX:=⟨λb e=>k.im b (h.im b e),λb q p e hz=>k.at' b q p (h.at' b q p e hz) hz,λb e=>k.fr b (h.fr b e)⟩
def FK.mono{Z Z':Rt->Prop}{γ γ':Nat->G}(h:FK Z γ γ')(hz:∀q,Z q->Z' q):FK Z' γ γ':=⟨h.im,λb q p a e=>h.at' b q p a (λk=>e (hz q k)),h.fr⟩
def pD(q:Rt)(p:dv):Prop:=∀k,q=.box k->p≠[]
def za{k:Nat}{p:dv}:pD (.cD k) p:=λ_ h=>by simp at h
def zg{k:Nat}{p:dv}:pD (.cE k) p:=λ_ h=>by simp at h
def Es{q:Rt}{x:Int×Nat}{p:dv}:pD q (x::p):=λ_ _=>by simp
def wU:∀(p:Pl),pD (gp p).1 (gp p).2
 |.cD _=>za
 |.cell _ _=>Es
 |.sub _ _ _ _=>λ_ _=>by simp[gp]
def pD.Hb{a q:Rt}{j p:dv}(h:pD a j)(hz:q=a->kW q p)(hx:eQ a j q p):False:=by
 obtain⟨u,t,e⟩:=hx;obtain⟨⟨k,x⟩,y⟩:=hz u;subst u;rw[y] at e;simp at e;exact h k x e.1
def FK.dZ{γ:Nat->G}{q1 q2:Rt}{p1 p2:dv}(a:pD q1 p1):FK (λq=>q=q1) γ (dZ γ q1 p1 q2 p2):=⟨λ_ h=>qY h,λ_ _ _ h hz=>wI h (λhx=>a.Hb hz hx),λ_ h=>Fk h⟩
def FK.j8{γ:Nat->G}{q1:Rt}{p1:dv}(a:pD q1 p1):FK (λq=>q=q1) γ (lJ γ q1 p1):=⟨λ_ h=>CF h,λ_ _ _ h hz=>Ts h (λhx=>a.Hb hz hx),λ_ h=>OB h⟩
def FK.gD{Z:Rt->Prop}{γ e:Nat->G}{w:World}(h:FK Z γ e)(j:∀b,w.heap.size<=b->γ b=.fr):dK (λq p=>Z q/\¬ kW q p) γ w e w:=⟨λb a=>⟨h.im b a,rfl⟩,λb q p a hz=>⟨h.at' b q p a (λk=>aiW λj=>hz ⟨k,j⟩),rfl⟩,λb _ a=>⟨h.fr b a,rfl⟩,iN _,λb a=>h.fr b (j b a),rfl,rfl,rfl⟩
def PU(Z:Rt->Prop):Prop:=∀n,¬ Z (.cE n)
def jk:∀(p:Pl)(n:Nat),(gp p).1≠.cE n
 |.cD k,n=>by simp[gp]
 |.cell _ _,n=>by simp[gp]
 |.sub p _ _ _,n=>by simpa[gp] using jk p n
def Rd.fk{C:Cx}{g:Gs}{w:World}{e:Nat->G}{Z:Rt->Prop}{n:Nat}{y:dv}{j:TV}{v:Value}(h:Rd (g.rc C w) (some (.cE n,y)) j v)(u:dN j=true)(k:FK Z g.γ e)(hz:PU Z):Rd (Gs.rc C {g with γ:=e} w) (some (.cE n,y)) j v:=
 h.same (λb x=>⟨k.im b x,rfl⟩) (λq p a b ρ x=>by
  simp only[di,eS] at a
  obtain⟨rfl,rfl⟩:=a
  exact⟨k.at' b _ _ x (λh=>absurd h (hz _)),rfl⟩) (λi hi=>absurd hi (kS u i)) (λp a=>absurd a (gz u p)) (λp a=>absurd a.mv (gz u p))
def Rd.Xc{C:Cx}{g:Gs}{w:World}{q J:Rt}{p M:dv}{t:Ty}{H:List (El t)}{x:El t}{v:Value}{i:Int}{j:Nat}(h:Rd (g.rc C w) (some (q,p)) (.own true t H) v)(hx:cm H i=some x):
  Rd (Gs.rc C {g with γ:=dZ g.γ q (p++[(i,cj t j)]) J M} w) (some (q,p)) (.ko t H i j) v:=by
 obtain⟨h0,hx⟩:=lQ.1 hx;rcases h.lT with⟨rfl,_⟩|⟨q',p',b,o,cap,Q,e,fr,f,N,rfl,R,S,U,Y,Z,hc,hr⟩
 ·simp at hx
 simp only[di,eS] at N;obtain⟨rfl,rfl⟩:=N;have A:∀(b:Nat)(r:Nat)(c:Nat)(D:dv),((r:Int)≠i\/c≠j)->g.γ b=.at q ((p++[((r:Int),cj t c)])++D)->dZ g.γ q (p++[(i,cj t j)]) J M b=.at q ((p++[((r:Int),cj t c)])++D):=λb r c D a E=>
  wI E (λ⟨_,t,u⟩=>by
   simp at u
   rcases a with h|h
   ·exact h u.1.1.symm
   ·exact h (KG u.1.2).2.symm)
 refine .ko _ _ _ _ _ _ _ _ _ Q e fr f R (wI S λ⟨_,t,u⟩=>by simp at u;exact GI u.1) U Y Z hc (λr y c tv hy F a=>?_);exact(hr r y c tv hy F).same (λb E=>⟨qY E,rfl⟩) (λq3 p3 P b D E=>by
  simp only[di,eS] at P
  obtain⟨rfl,rfl⟩:=P
  exact⟨A b r c D a E,rfl⟩) (λk hk=>absurd hk (kS (gj F) k)) (λp I=>absurd I (gz (gj F) p)) (λp I=>absurd I.mv (gz (gj F) p))
def Rd.C8{C:Cx}{g:Gs}{w:World}{q q2:Rt}{p p2:dv}{e:TV}{v:Value}(h:Rd (g.rc C w) (some (q,p)) e v)(j:dN e=true):Rd (Gs.rc C {g with γ:=dZ g.γ q p q2 p2} w) (some (q2,p2)) e v:=
 h.mono _ (λb u=>⟨qY u,rfl⟩) (λx y a=>by
  simp only[di,eS] at a
  obtain⟨rfl,rfl⟩:=a
  exact⟨_,_,rfl,λb A u=>⟨zt u,rfl⟩⟩) (λi hi=>absurd hi (kS j i)) (λp a=>absurd a (gz j p)) (λp a=>absurd a.mv (gz j p))
def Tt{C:Cx}{s:TS}{p:Pl}{t:Ty}{i:Int}{c:Nat}{u:TV}(h:gn C s (.sub p t i c)=some u):∃d a x,(gn C s p=some (.own d t a)\/(d=false/\gn C s p=some (.eb t a)))/\cm a i=some x/\u=nth (enc d t x) c:=by
 simp only[gn] at h;split at h
 ·rename_i d y a e;split at h
  ·rename_i j;subst j;simp only[yj] at h;obtain⟨x,hx,rfl⟩:=h;exact⟨d,a,x,.inl e,hx,rfl⟩
  ·simp at h
 ·rename_i y a e;split at h
  ·rename_i j;subst j;simp only[yj] at h;obtain⟨x,hx,rfl⟩:=h;exact⟨false,a,x,.inr ⟨rfl,e⟩,hx,rfl⟩
  ·simp at h
 ·simp at h
def J3{C:Cx}{E:Env}{s:TS}{g:Gs}{w:World}{R:Type}{r:R}{n:Nat}{π0:dv}{Q:TV}{v:Value}(h:cQ C E s g w)(p:Pl){K:TS->Option R}(hg:gn C s p=some Q)(y:dN Q=true)
  (M:Rd (g.rc C w) (some (gp p)) Q v)(e:nf s p K=some r):
  ∃Y D,K Y=some r/\cQ C E Y {g with γ:=D} w/\Rd (Gs.rc C {g with γ:=D} w) (some (.cE n,π0)) Q v/\FK (λq=>q=(gp p).1) g.γ D/\fo Y s:=by
 have A:∀{q:Rt}{p:dv},dK (eQ q p) g.γ w (dZ g.γ q p (.cE n) π0) w:=ph h.cL.new;cases p with
 |cD k=>
  simp only[nf] at e;refine⟨_,dZ g.γ (.cD k) [] (.cE n) π0,e,?_,M.C8 y,.dZ (wU (.cD k)),(fo.raw _ _ (λp a=>by cases a)).trans (fo.kill _ _)⟩;exact(h.kill (Pl.n9 k)).K7 A Ig (.un _ _)
 |cell k c=>
  simp only[nf] at e;split at e
  ·rename_i cs S;refine⟨_,dZ g.γ (.box k) [(0,c)] (.cE n) π0,e,?_,M.C8 y,.dZ (wU (.cell k c)),(fo.bx _ _ _).trans (fo.kill _ _)⟩;exact(h.kill (Pl.oa k)).W7 (π0:=[]) S A Ih rfl (λ_ _=>.un _ _)
  ·simp at e
 |sub p t i c=>
  obtain⟨d,xs,x,a,hx,rfl⟩:=Tt hg;cases p with
  |cD k=>
   simp only[nf] at e;split at e
   ·rename_i u N Z;obtain⟨F,H⟩:=dY.1 e;have F:u=t:=fG F;subst F;have U:gn C s (.cD k)=some (.own true u N):=by
     simp only[gn] at a⊢
     rcases a with a|⟨_,a⟩<;>(split at a<;>simp_all)
    rw[U] at a;have I:N=xs/\d=true:=by
     rcases a with a|⟨_,a⟩
     ·simp only[di,TV.own.injEq,heq_eq_eq,vV] at a;exact⟨a.2,a.1.symm⟩
     ·simp at a
    obtain⟨rfl,rfl⟩:=I;refine⟨_,dZ g.γ (.cD k) [(i,cj u c)] (.cE n) π0,H,?_,M.C8 y,.dZ (wU (.sub (.cD k) u i c)),(fo.raw _ _ (λp a=>by cases a)).trans (fo.kill _ _)⟩;have P:=h.fQ k;rw[Z] at P;exact(h.kill (Pl.n9 k)).K7 A Ig (P.Xc hx)
   ·simp at e
  |cell k j=>
   simp only[nf] at e;split at e
   ·rename_i cs S;split at e
    ·rename_i u N hn;obtain⟨F,H⟩:=dY.1 e;have F:u=t:=fG F;subst F;have U:gn C s (.cell k j)=some (.own true u N):=by simp[gn,S,hn]
     rw[U] at a;have I:N=xs/\d=true:=by
      rcases a with a|⟨_,a⟩
      ·simp only[di,TV.own.injEq,heq_eq_eq,vV] at a;exact⟨a.2,a.1.symm⟩
      ·simp at a
     obtain⟨rfl,rfl⟩:=I;refine⟨_,dZ g.γ (.box k) [(0,j),(i,cj u c)] (.cE n) π0,H,?_,M.C8 y,.dZ (wU (.sub (.cell k j) u i c)),(fo.bx _ _ _).trans (fo.kill _ _)⟩;refine(h.kill (Pl.oa k)).W7 (π0:=[(i,cj u c)]) S A Ih rfl (λv M=>?_);rcases tE h U with h1|⟨v',J,h1,_⟩
     ·simp at h1
     ·have:v'=v:=by
        simp only[Gs.rc,va] at J
        rw[M] at J;exact(gV J).symm
      subst this;exact h1.Xc hx
    ·simp at e
   ·simp at e
  |sub p u i' c'=>simp[nf] at e
section
open Classical in
noncomputable def ki(γ:Nat->G)(q1:Rt)(p1:dv):Nat->G:=λb=>
 match γ b with
 |.at q p=>if q=q1/\(∃i j a,64<=j/\p=p1++(i,j)::a) then .im else .at q p
 |x=>x
section
variable{γ:Nat->G}{q1 q:Rt}{p1 p:dv}{b:Nat}
def CG(h:γ b=.im):ki γ q1 p1 b=.im:=by simp[ki,h]
def OC(h:γ b=.fr):ki γ q1 p1 b=.fr:=by simp[ki,h]
def We:Qt γ (ki γ q1 p1):=λb q p h=>by simp only[ki,h];split<;>simp
def IM{t:Ty}(h:γ b=.at q1 (p1++[tg t])):ki γ q1 p1 b=.at q1 (p1++[tg t]):=by
 simp only[ki,h];rw[cN];rintro⟨_,i,j,u,e,a⟩;have a:=Mf a;simp only[lN] at a;exact agA e a.1.symm
def CH{i:Int}{j:Nat}{π:dv}(a:64<=j)(h:γ b=.at q1 (p1++(i,j)::π)):ki γ q1 p1 b=.im:=by
 simp only[ki,h];exact cM ⟨rfl,i,j,π,a,rfl⟩
def FK.ki(a:pD q1 p1):FK (λq=>q=q1) γ (ki γ q1 p1):=⟨λ_ h=>CG h,λb q p h hz=>by simp only[Sd.ki,h];exact cN (λk=>a.Hb hz ⟨k.1,by obtain⟨_,i,j,e,_,rfl⟩:=k;exact s5 _ _⟩),λ_ h=>OC h⟩
def NP{w:World}(a:∀b,w.heap.size<=b->γ b=.fr):dK (eQ q1 p1) γ w (ki γ q1 p1) w:=⟨λ_ h=>⟨CG h,rfl⟩,λb q p h hx=>⟨by simp only[ki,h];exact cN (λk=>hx ⟨k.1,by obtain⟨_,i,j,u,_,rfl⟩:=k;exact s5 _ _⟩),rfl⟩,λ_ _ h=>⟨OC h,rfl⟩,iN _,λb e=>OC (a b e),rfl,rfl,rfl⟩
end
def cQ.J4{C:Cx}{E:Env}{s:TS}{g:Gs}{w:World}{k:Nat}{a:TV}(h:cQ C E s g w)(x:Rd (g.rc C w) (some (.cD k,[])) a (g.tm k)):cQ C E (s.raw k a) g w:=
 h.uh (λj=>by
  by_cases u:j=k
  ·subst u
   rcases wq s j a with e|e<;>rw[e]
   ·exact x
   ·exact .un _ _
  ·rw[rN s a u];exact h.fQ j) (λj=>.inl rfl)
def cQ.KI{C:Cx}{E:Env}{s:TS}{g:Gs}{w:World}{k:Nat}{v:BC}(h:cQ C E s g w)(u:uf (g.rc C w) k v):cQ C E (s.bx k v) g w:=
 ⟨h.fQ,λj=>by
   by_cases a:j=k
   ·subst a
    rcases uP s j v with e|e<;>rw[e]
    ·exact u
    ·trivial
   ·rw[uO s v a];exact h.boxes j,h.cL,h.gl,h.ln,h.gb⟩
def Tu(cs:List TV)(c:Nat):ld cs c (nth cs c)=cs:=by
 rw[sf,u7]
 by_cases h:c<cs.length
 ·rw[eN h];simp
 ·rw[List.set_eq_of_length_le (by omega)]
def C9(s:TS):Pl->TV
 |.cD k=>s.cD k
 |.cell k c=>
  match s.box k with
  |.cells a=>nth a c
  |_=>.un
 |.sub p _ _ _=>C9 s p
def xx:Pl->Pl|.cD k=>.cD k|.cell k c=>.cell k c|.sub p _ _ _=>xx p
def iF:TV->Bool|.own _ _ _=>true|_=>false
def Tv:∀(p:Pl)(t:Ty)(i:Int)(c:Nat),∃a j e,64<=j/\gp (.sub p t i c)=((gp (xx p)).1,(gp (xx p)).2++(a,j)::e)
 |.cD k,t,i,c=>⟨i,cj t c,[],K6 _ _,rfl⟩
 |.cell k j,t,i,c=>⟨i,cj t c,[],K6 _ _,rfl⟩
 |.sub p t a u,t0,i,c=>by
  obtain⟨y,A,e,x,h⟩:=Tv p t a u;refine⟨y,A,e++[(i,cj t0 c)],x,?_⟩;show((gp (.sub p t a u)).1,(gp (.sub p t a u)).2++[(i,cj t0 c)])=_;rw[h];simp[xx]
def Tw(a:TV):iF (kh a)=false:=by cases a<;>rfl
def sg{t:Ty}{x:El t}{j:Nat}{a:TV}(h:(enc false t x)[j]?=some a):iF a=false:=by
 obtain⟨e,_,rfl⟩:=Ek (d:=false) h;exact Tw _
def wV{a:TV}(h:iF a=true):∃d t,∃xs:List (El t),a=.own d t xs:=by
 cases a<;>simp[iF] at h;exact⟨_,_,_,rfl⟩
def FV{tv:TV}(h:iF tv=false):kh tv=tv/\Ev.u5 tv=tv:=by
 cases tv<;>simp_all [iF,kh,Ev.u5]
def Sr{C:Cx}{s:TS}:∀{p:Pl}{e:TV},gn C s p=some e->iF e=true->iF (C9 s p)=true
 |.cD k,e,h,a=>by
  simp only[gn] at h;split at h
  ·simp only[di] at h;subst h;exact a
  ·simp at h
 |.cell k c,e,h,a=>by
  simp only[gn] at h;split at h
  ·rename_i A y;simp only[di] at h;subst h;simp only[C9,y];exact a
  ·simp at h
 |.sub p t i c,e,h,a=>by
  obtain⟨d,D,x,j,_,rfl⟩:=Tt h;rcases j with j|⟨rfl,j⟩
  ·exact Sr (p:=p) j rfl
  ·exfalso;rw[u7] at a;cases u:(enc false t x)[c]? with
   |none=>rw[u] at a;simp[iF] at a
   |some e=>
    rw[u] at a;have:=sg u;simp[this] at a
def Wf(s:TS)(k:Nat):fo ((s.gv (Pl.l6 k)).raw k (s.cD k)) s:=fo.Lo k (fo.gv _ _) (λ_ h=>h)
def U2{C:Cx}{E:Env}{s:TS}{g:Gs}{w:World}{R:Type}{r:R}(h:cQ C E s g w):∀(p:Pl){K:TS->Option R},ub s p K=some r->
  ∃N A,K N=some r/\cQ C E N {g with γ:=A} w/\FK (λq=>q=(gp p).1) g.γ A/\(iF (C9 s p)=true->∀b i j D,64<=j->g.γ b=.at (gp (xx p)).1 ((gp (xx p)).2++(i,j)::D)->A b=.im)/\fo N s
 |.cD k,K,u=>by
  simp only[ub] at u;cases F:iF (s.cD k) with
  |true=>
   obtain⟨d,t,Q,J⟩:=wV F;have x:dK (eQ (.cD k) []) g.γ w (ki g.γ (.cD k) []) w:=NP h.cL.new;refine⟨_,ki g.γ (.cD k) [],u,?_,.ki (by first|exact za|exact Es),λ_ b i j D H a=>CH H a,fo.Lo k (fo.gv _ _) (λp y=>by rw[J] at y;cases y)⟩;refine(h.gv (Pl.l6 k)).Xa x (λj _=>JA x We (λ_ hx=>by simp[eQ] at hx) (λp y D hx=>W8 j p y hx.1)) ?_;have S:=h.fQ k;rw[J] at S⊢;exact S.u5 (λb a=>⟨CG a,rfl⟩) (λb t a=>⟨IM a,rfl⟩) (λb i j D H a=>⟨CH H a,rfl⟩)
  |false=>
   rw[(FV F).2] at u;exact⟨_,g.γ,u,(h.gv (Pl.l6 k)).J4 (h.fQ k),.refl _,(λe=>by simp only[C9] at e;rw[F] at e;simp at e),λi p y=>Wf s k i p y⟩
 |.cell k c,K,u=>by
  simp only[ub] at u;split at u
  ·rename_i U a;cases F:iF (nth U c) with
   |true=>
    obtain⟨d,t,Q,J⟩:=wV F;have x:dK (eQ (.box k) [(0,c)]) g.γ w (ki g.γ (.box k) [(0,c)]) w:=NP h.cL.new;refine⟨_,ki g.γ (.box k) [(0,c)],u,?_,.ki (by first|exact za|exact Es),λ_ b i j D H a=>CH H a,(fo.bx _ _ _).trans (fo.gv _ _)⟩;rw[J];refine(h.gv (Pl.ig k)).Xb (π0:=[]) a x (λj=>JA x We (λ_ hx=>by simp[eQ] at hx) (λp y D hx=>W9 j p y hx.1)) rfl (λv Y=>?_);have Z:gn C s (.cell k c)=some (.own d t Q):=by simp[gn,a,J]
    rcases tE h Z with P|⟨v',I,P,_⟩
    ·simp at P
    ·have:v'=v:=by
       simp only[Gs.rc,va] at I
       rw[Y] at I;exact(gV I).symm
     subst this;exact Rd.u5 P (λb a=>⟨CG a,rfl⟩) (λb t a=>⟨IM a,rfl⟩) (λb i j D H a=>⟨CH H a,rfl⟩)
   |false=>
    rw[(FV F).2,Tu] at u;have M:=h.boxes k;rw[a] at M;exact⟨_,g.γ,u,(h.gv (Pl.ig k)).KI M,.refl _,(λe=>by simp only[C9,a] at e;rw[F] at e;simp at e),(fo.bx _ _ _).trans (fo.gv _ _)⟩
  ·simp at u
 |.sub p _ _ _,K,u=>by
  simp only[ub] at u;exact U2 h p u
def OD{C:Cx}{E:Env}{s:TS}{g:Gs}{w:World}{R:Type}{r:R}(h:cQ C E s g w):∀(p:Pl){K:TS->Option R},sE s p K=some r->
  ∃S D,K S=some r/\cQ C E S {g with γ:=D} w/\FK (λq=>q=(gp p).1) g.γ D/\(∀a v,gn C s p=some a->iF a=true->Rd (g.rc C w) (some (gp p)) a v->Rd (Gs.rc C {g with γ:=D} w) none (kh a) v)/\fo S s
 |.cD k,K,x=>by
  simp only[sE] at x;cases H:iF (s.cD k) with
  |true=>
   obtain⟨d,t,xs,P⟩:=wV H;have F:dK (eQ (.cD k) []) g.γ w (lJ g.γ (.cD k) []) w:=U1 h.cL.new;have U:∀a v,dN a=true->Rd (g.rc C w) (some (.cD k,[])) a v->Rd (Gs.rc C {g with γ:=lJ g.γ (.cD k) []} w) none (kh a) v:=λa v I A=>
    A.j8 I (λb u=>⟨CF u,rfl⟩) (λq p J b Q u=>by
     simp only[di,eS] at J
     obtain⟨rfl,rfl⟩:=J
     exact⟨J2 u,rfl⟩)
   refine⟨_,lJ g.γ (.cD k) [],x,?_,.j8 (by first|exact za|exact Es),λa v y e A=>?_,fo.Lo k (fo.gv _ _) (λp I=>by rw[P] at I;cases I)⟩
   ·refine(h.gv (Pl.l6 k)).Xa F (λj _=>JA F Wd (λ_ hx=>by simp[eQ] at hx) (λp I Q hx=>W8 j p I hx.1)) ?_;exact(U _ _ (by rw[P];rfl) (h.fQ k)).lift _
   ·obtain⟨d',t',Y,rfl⟩:=wV e;exact U _ v rfl A
  |false=>
   rw[(FV H).1] at x;refine⟨_,g.γ,x,(h.gv (Pl.l6 k)).J4 (h.fQ k),.refl _,λa v y e _=>?_,Wf s k⟩;simp only[gn] at y;split at y
   ·simp only[di] at y;subst y;rw[H] at e;simp at e
   ·simp at y
 |.cell k c,K,x=>by
  simp only[sE] at x;split at x
  ·rename_i cs u;cases H:iF (nth cs c) with
   |true=>
    obtain⟨d,t,xs,P⟩:=wV H;have F:dK (eQ (.box k) [(0,c)]) g.γ w (lJ g.γ (.box k) [(0,c)]) w:=U1 h.cL.new;have U:∀a v,dN a=true->Rd (g.rc C w) (some (.box k,[(0,c)])) a v->Rd (Gs.rc C {g with γ:=lJ g.γ (.box k) [(0,c)]} w) none (kh a) v:=λa v I A=>
     A.j8 I (λb u=>⟨CF u,rfl⟩) (λq p J b Q u=>by
      simp only[di,eS] at J
      obtain⟨rfl,rfl⟩:=J
      exact⟨J2 u,rfl⟩)
    refine⟨_,lJ g.γ (.box k) [(0,c)],x,?_,.j8 (by first|exact za|exact Es),λa v y e A=>?_,(fo.bx _ _ _).trans (fo.gv _ _)⟩
    ·refine(h.gv (Pl.ig k)).Xb (π0:=[]) u F (λj=>JA F Wd (λ_ hx=>by simp[eQ] at hx) (λp I Q hx=>W9 j p I hx.1)) (by rw[P];rfl) (λv A=>?_);have y:gn C s (.cell k c)=some (.own d t xs):=by simp[gn,u,P]
     rcases tE h y with Z|⟨v',M,Z,_⟩
     ·simp at Z
     ·have:v'=v:=by
        simp only[Gs.rc,va] at M
        rw[A] at M;exact(gV M).symm
      subst this;rw[P];exact(U _ _ rfl Z).lift _
    ·obtain⟨d',t',Y,rfl⟩:=wV e;exact U _ v rfl A
   |false=>
    rw[(FV H).1,Tu] at x;have aa:=h.boxes k;rw[u] at aa;refine⟨_,g.γ,x,(h.gv (Pl.ig k)).KI aa,.refl _,λa v y e _=>?_,(fo.bx _ _ _).trans (fo.gv _ _)⟩;simp only[gn,u,di] at y;subst y;rw[H] at e;simp at e
  ·simp at x
 |.sub p t i c,K,x=>by
  simp only[sE] at x;obtain⟨S,D,Z,h2,h3,h4,h5⟩:=U2 h p x;refine⟨S,D,Z,h2,h3,λa v y H A=>?_,h5⟩;have N:=Sr (p:=.sub p t i c) y H;obtain⟨i',j,Q,hj,ab⟩:=Tv p t i c;rw[ab] at A;obtain⟨d',t',Y,rfl⟩:=wV H;exact A.j8 rfl (λb u=>⟨h3.im b u,rfl⟩) (λq2 p2 J b ρ u=>by
   simp only[di,eS] at J
   obtain⟨rfl,rfl⟩:=J
   have ad:g.γ b=.at (gp (xx p)).1 ((gp (xx p)).2++(i',j)::Q++ρ):=u
   exact⟨h4 N b i' j (Q++ρ) hj (by simpa using ad),rfl⟩)
def Ss{C:Cx}{E:Env}{w:World}{R:Type}{r:R}:∀(e:List Pl){s:TS}{g:Gs}{K:TS->Option R},cQ C E s g w->KE e s K=some r->
  ∃x j,K x=some r/\cQ C E x {g with γ:=j} w
 |[],s,g,K,h,a=>⟨s,g.γ,a,h⟩
 |p::e,s,g,K,h,a=>by
  simp only[KE] at a;obtain⟨J,y,A,D,_,_⟩:=OD h p a;obtain⟨F,u,H,I⟩:=Ss e D A;exact⟨F,u,H,I⟩
def Rd.any{c:Rc}{m:Option Gp}{a:TV}{v:Value}(h:Rd c m a v)(y:dN a=true)(x:iF a=false)(A:Option Gp):Rd c A a v:=by
 cases h with
 |kO=>exact .kO _ _ _ _
 |nZ _ _ _ _ _ _ f C e j u=>exact .nZ _ _ _ _ _ _ f C e j u
 |qz=>exact .qz _ _ _
 |qA _ _ _ _ _ f e j u=>exact .qA _ _ _ _ _ f e j u
 |b=>exact .b _ _
 |i=>exact .i _ _ _
 |s=>exact .s _ _
 |nil=>exact .nil _
 |iq=>exact .iq _ _
 |jU=>simp[iF] at x
 |kE=>simp[iF] at x
 |_=>simp[dN] at y
def Rd.FW{c:Rc}{m E:Option Gp}{t:Ty}{y:List (El t)}{a F:Option Addr}{len cap e:Nat}{lo hi:Int}(h:Rd c m (.eb t y) (.slice a len cap))(U:0<=lo)(Y:lo<=hi)(N:hi<=y.length)
  (H:e=0\/∃b o,a=some ⟨b,o,none⟩/\F=some ⟨b,o+lo.toNat*cI t,none⟩)(P:hi.toNat-lo.toNat<=e):Rd c E (.eb t ((y.drop lo.toNat).take (hi.toNat-lo.toNat))) (.slice F (hi.toNat-lo.toNat) e):=by
 have u:((y.drop lo.toNat).take (hi.toNat-lo.toNat)).length=hi.toNat-lo.toNat:=by simp;omega
 rcases h.qZ with⟨rfl,_⟩|⟨b,o,I,f,J,Z,Q,R,S⟩
 ·simp at N;have:lo.toNat=0/\hi.toNat=0:=by omega
  simp only[List.drop_nil,List.take_nil,this.1,this.2];exact .kO _ _ _ _
 ·simp only[kH] at J;obtain⟨rfl,rfl,rfl⟩:=J
  by_cases hz:hi.toNat-lo.toNat=0
  ·rw[hz];simp only[Ay];exact .kO _ _ _ _
  ·rcases H with H|⟨b',o',M,rfl⟩
   ·omega
   ·simp only[di,mS,jB] at M;obtain⟨rfl,rfl⟩:=M;have A:∀(r:Nat)(x:El t),((y.drop lo.toNat).take (hi.toNat-lo.toNat))[r]?=some x->y[lo.toNat+r]?=some x:=λr x hx=>by
     rw[o5] at hx
     split at hx
     ·rwa[vW] at hx
     ·simp at hx
    have:=Rd.nZ (c:=c) E t ((y.drop lo.toNat).take (hi.toNat-lo.toNat)) b (o+lo.toNat*cI t) e (λr j=>f (lo.toNat+r) j) (by rw[u];exact P) Q (λr x j C hx D=>by
     have:=R _ x j C (A r x hx) D
     rw[jO] at this
     rw[show o+lo.toNat*cI t+r*cI t+j=o+(lo.toNat*cI t+r*cI t)+j by omega]
     exact this) (λr x j C hx D=>S _ x j C (A r x hx) D);rw[u] at this;exact this
structure qM(c:Rc)(G:Gp)(tv:TV)(v:Value):Prop where
 vw:∀p t,tv=.vw p t->c.va p=some v
 sl:∀p t lo hi,tv=.sl p t lo hi->∃a len cap a' cap',c.va p=some (.slice a len cap)/\v=.slice a' (hi.toNat-lo.toNat) cap'/\0<=lo/\lo<=hi/\hi<=(len:Int)/\
  (cap'=0\/∃b o,a=some ⟨b,o,none⟩/\a'=some ⟨b,o+lo.toNat*cI t,none⟩)/\hi.toNat-lo.toNat<=cap'/\cap'+lo.toNat<=cap
 pl:dN tv=true->Rd c (some G) tv v
def Rd.Hc{c:Rc}{G:Gp}{a:TV}{v:Value}(h:Rd c (some G) a v):qM c G a v where
 vw:=λp t e=>by subst e;cases h;assumption
 sl:=λp t lo hi e=>by subst e;cases h;exact⟨_,_,_,_,_,by assumption,rfl,by assumption,by assumption,by assumption,by assumption,by assumption,by assumption⟩
 pl:=λ_=>h
def qM.fk{C:Cx}{g:Gs}{w:World}{a:Nat->G}{Z:Rt->Prop}{n:Nat}{e:dv}{j:TV}{v:Value}(h:qM (g.rc C w) (.cE n,e) j v)(k:FK Z g.γ a)(hz:PU Z):qM (Gs.rc C {g with γ:=a} w) (.cE n,e) j v where
 vw:=h.vw
 sl:=h.sl
 pl:=λu=>(h.pl u).fk u k hz
def Zv(a:List TV)(q:Rt):Prop:=∃e∈a,∃p,MV p e/\(gp p).1=q
def Tx(a:List TV):PU (Zv a):=λn⟨_,_,p,_,h⟩=>jk p n h
def K8{C:Cx}{E:Env}{s:TS}{g:Gs}{w:World}{R:Type}{r:R}{m:Bool->Pl->Bool}{n:Nat}{π0:dv}{tv:TV}{v:Value}{K:TV->TS->Option R}(h:cQ C E s g w)(N:qM (g.rc C w) (.cE n,π0) tv v)
  (j:cv C m tv s K=some r):
  ∃aa D y,K aa D=some r/\cQ C E D {g with γ:=y} w/\Rd (Gs.rc C {g with γ:=y} w) (some (.cE n,π0)) aa v/\dN aa=true/\FK (λq=>∃p,MV p tv/\(gp p).1=q) g.γ y/\fo D s:=by
 unfold cv at j;split at j
 ·rename_i p t;obtain⟨x,P,j⟩:=py j;have F:=N.vw p t rfl;split at j
  ·rename_i d t' xs;rcases tE h P with Q|⟨v',A,Q,_⟩
   ·simp at Q
   have:v'=v:=by rw[F] at A;exact(gV A).symm
   subst this;split at j
   ·obtain⟨D,y,h2,h3,h4,S,h6⟩:=OD h p j;exact⟨_,D,y,h2,h3,(S _ _ P rfl Q).lift _,rfl,h4.mono (λq hq=>⟨p,.vw _,hq.symm⟩),h6⟩
   ·obtain⟨D,y,h2,h3,h4,S,h6⟩:=J3 (n:=n) (π0:=π0) h p P rfl Q j;exact⟨_,D,y,h2,h3,h4,rfl,S.mono (λq hq=>⟨p,.vw _,hq.symm⟩),h6⟩
  ·rename_i t' xs;rcases tE h P with Q|⟨v',A,Q,_⟩
   ·simp at Q
   have:v'=v:=by rw[F] at A;exact(gV A).symm
   subst this;exact⟨_,s,g.γ,j,h,Q.any rfl rfl _,rfl,.refl _,.refl _⟩
  ·simp at j
 ·rename_i p t0 lo hi;obtain⟨x,P,j⟩:=py j;obtain⟨a,af,cap,a',U,F,rfl,Q,h2,h3,h4,S,h6⟩:=N.sl p t0 lo hi rfl;split at j
  ·rename_i d t xs;obtain⟨ht,H⟩:=dY.1 j;have ht:t=t0:=fG ht;subst ht;rcases tE h P with Y|⟨v',A,Y,_⟩
   ·simp at Y
   have:v'=.slice a af cap:=by rw[F] at A;exact(gV A).symm
   subst this;split at H
   ·obtain⟨ys,ab,I⟩:=fa.1 H;obtain⟨⟨h8,h9,J⟩,rfl⟩:=tj.1 ab;obtain⟨D,y,ad,ae,ah,ai,aj⟩:=OD h p I;have:=ai _ _ P rfl Y;exact⟨_,D,y,ad,ae,Rd.FW this h8 h9 J h4 S,rfl,ah.mono (λq hq=>⟨p,.sl _ _ _,hq.symm⟩),aj⟩
   ·obtain⟨u,hu,I⟩:=fa.1 H;have Z:=mr.1 hu;simp only[pJ,dQ] at Z;obtain⟨rfl,ap⟩:=Z;obtain⟨D,y,h8,h9,J,ad,ae⟩:=J3 (n:=n) (π0:=π0) h p P rfl Y I;refine⟨_,D,y,h8,h9,?_,rfl,ad.mono (λq hq=>⟨p,.sl _ _ _,hq.symm⟩),ae⟩;have e0:hi.toNat-(0:Int).toNat=xs.length:=by simp;omega
    rw[e0] at S⊢;rcases J.lT with⟨rfl,a0,M⟩|⟨q,p',b,o,an,cs,e,fr,f,hm,M,hl,ak,hh,am,hs,hc,hr⟩
    ·simp only[kH] at M;obtain⟨_,_,rfl⟩:=M;have:U=0:=by omega
     subst this;exact .jU _ _ _ _
    ·simp only[kH] at M;obtain⟨rfl,rfl,rfl⟩:=M;rw[hm];rcases h4 with rfl|⟨b',o',hb,rfl⟩
     ·have:xs=[]:=Mg (by omega);subst this;exact .jU _ _ _ _
     ·simp only[di,mS,jB] at hb;obtain⟨rfl,rfl⟩:=hb;have ao:U*cI t<=cap*cI t:=mT _ (by simpa using h6);simp only[Int.toNat_zero,Hy,rI];exact .kE _ _ _ _ _ _ _ _ cs e fr f S ak hh am (by omega) hc hr
  ·rename_i t xs;obtain⟨ht,H⟩:=dY.1 j;have ht:t=t0:=fG ht;subst ht;obtain⟨ys,ab,I⟩:=fa.1 H;obtain⟨⟨h8,h9,J⟩,rfl⟩:=tj.1 ab;rcases tE h P with Y|⟨v',A,Y,_⟩
   ·simp at Y
   have:v'=.slice a af cap:=by rw[F] at A;exact(gV A).symm
   subst this;exact⟨_,s,g.γ,I,h,Rd.FW Y h8 h9 J h4 S,rfl,.refl _,.refl _⟩
  ·simp at j
 ·exact⟨_,s,g.γ,j,h,N.pl rfl,rfl,.refl _,.refl _⟩
 ·exact⟨_,s,g.γ,j,h,N.pl rfl,rfl,.refl _,.refl _⟩
 ·exact⟨_,s,g.γ,j,h,(N.pl rfl).zG,rfl,.refl _,.refl _⟩
 ·exact⟨_,s,g.γ,j,h,N.pl rfl,rfl,.refl _,.refl _⟩
 ·exact⟨_,s,g.γ,j,h,N.pl rfl,rfl,.refl _,.refl _⟩
 ·exact⟨_,s,g.γ,j,h,N.pl rfl,rfl,.refl _,.refl _⟩
 ·exact⟨_,s,g.γ,j,h,N.pl rfl,rfl,.refl _,.refl _⟩
 ·exact⟨_,s,g.γ,j,h,N.pl rfl,rfl,.refl _,.refl _⟩
 ·simp at j
def Pq{C:Cx}{E:Env}{w:World}{R:Type}{r:R}{m:Bool->Pl->Bool}{n:Nat}:∀(y:List TV){s:TS}{g:Gs}{F:List Value}{j0:Nat}{K:List TV->TS->Option R},cQ C E s g w->F.length=y.length->
  (∀(j:Nat)a v,y[j]?=some a->F[j]?=some v->qM (g.rc C w) (.cE n,[(0,j0+j)]) a v)->pU C m y s K=some r->
  ∃e N A,K e N=some r/\cQ C E N {g with γ:=A} w/\e.length=y.length/\(∀a∈e,dN a=true)/\(∀(j:Nat)a v,e[j]?=some a->F[j]?=some v->Rd (Gs.rc C {g with γ:=A} w) (some (.cE n,[(0,j0+j)])) a v)/\FK (Zv y) g.γ A/\fo N s
 |[],s,g,F,j0,K,h,J,M,H=>⟨[],s,g.γ,H,h,rfl,by simp,by simp,.refl _,.refl _⟩
 |v::y,s,g,[],j0,K,h,J,M,H=>by simp at J
 |v::y,s,g,x::F,j0,K,h,J,M,H=>by
  simp only[pU] at H;obtain⟨P,s1,aa,h1,h2,h3,Y,Z,h6⟩:=K8 h (M 0 v x rfl rfl) H;obtain⟨e,s2,Q,k1,k2,k3,k4,k5,k6,k7⟩:=Pq y (j0:=j0+1) h2 (by simpa using J) (λj a u I D=>by
   have h0:=(M (j+1) a u (by simpa using I) (by simpa using D)).fk Z (λn⟨p,_,h⟩=>jk p n h)
   rwa[show j0+(j+1)=j0+1+j by omega] at h0) h1;refine⟨P::e,s2,Q,k1,k2,by simp[k3],λa S=>?_,λj a u I D=>?_,(Z.mono (λq⟨p,U,hq⟩=>⟨v,by simp,p,U,hq⟩)).trans (k6.mono (λq⟨u,D,U⟩=>⟨u,by simp[D],U⟩)),k7.trans h6⟩
  ·rcases eG.1 S with rfl|S
   ·exact Y
   ·exact k4 a S
  ·cases j with
   |zero=>
    simp at I D;subst I;subst D;exact h3.fk Y k6 (Tx y)
   |succ j=>
    rw[show j0+(j+1)=j0+1+j by omega];exact k5 j a u (by simpa using I) (by simpa using D)
end
def Gs.set(g:Gs)(d:Nat)(v:Value):Gs:={g with tm:=λj=>if j=d then v else g.tm j}
def Gs.put(g:Gs)(d:Option Nat)(v:Value):Gs:=
 match d with
 |some d=>g.set d v
 |none=>g
structure eE(nt:Nat)(g:Gs)(a:Act):Prop where
 df:a.defers=[]
 sz:a.tmps.size=nt
 tm:∀k,k<nt->a.tmps.getD k undef=g.tm k
def ij(a:Nat):Option Nat->Prop|some d=>d<a|none=>True
def eE.put{j:Nat}{g:Gs}{a:Act}{d:Option Nat}{v:Value}(h:eE j g a)(x:ij j d):eE j (g.put d v) (a.put d v):=by
 cases d with
 |none=>exact h
 |some d=>
  refine⟨h.df,by simpa[Act.put] using h.sz,λk u=>?_⟩;simp only[Act.put,Gs.put,Gs.set,uD]
  by_cases e:k=d
  ·subst e;rw[aiX (by rw[h.sz];exact u),cM rfl];rfl
  ·rw[Zj (oY e),cN e,<-uD];exact h.tm k u
def eE.same{e:Nat}{g g':Gs}{a:Act}(h:eE e g a)(j:g'.tm=g.tm):eE e g' a:=⟨h.df,h.sz,λk u=>by rw[j];exact h.tm k u⟩
def gB:TV->Bool|.own _ _ _|.ko _ _ _ _|.agg _|.fp _=>false|_=>true
def Rd.anyM{c:Rc}{m:Option Gp}{y:TV}{v:Value}(h:Rd c m y v)(x:gB y=true)(E:Option Gp):Rd c E y v:=by
 cases h with
 |un=>exact .un _ _
 |b=>exact .b _ _
 |i=>exact .i _ _ _
 |s=>exact .s _ _
 |nil=>exact .nil _
 |iq=>exact .iq _ _
 |kO=>exact .kO _ _ _ _
 |nZ _ _ _ _ _ _ f F A C D=>exact .nZ _ _ _ _ _ _ f F A C D
 |qz=>exact .qz _ _ _
 |qA _ _ _ _ _ f A C D=>exact .qA _ _ _ _ _ f A C D
 |jU=>simp[gB] at x
 |kE=>simp[gB] at x
 |ko=>simp[gB] at x
 |vec _ _ _ H=>exact .vec _ _ _ H
 |vw _ _ _ _ a e=>exact .vw _ _ _ _ a e
 |pa _ _ _ _ _ _ a e j u=>exact .pa _ _ _ _ _ _ a e j u
 |sl _ _ _ _ _ _ _ _ _ _ a e j u I h6 J M=>exact .sl _ _ _ _ _ _ _ _ _ _ a e j u I h6 J M
 |ptr=>exact .ptr _ _ _
 |pe _ _ _ h0=>exact .pe _ _ _ h0
 |ep _ _ _ _ _ _ _ _ _ a e j u=>exact .ep _ _ _ _ _ _ _ _ _ a e j u
 |ip _ _ _ _ _ f a e j u=>exact .ip _ _ _ _ _ f a e j u
 |iv _ _ _ _ _ a e j=>exact .iv _ _ _ _ _ a e j
 |agg=>simp[gB] at x
 |fp=>simp[gB] at x
 |fn _ _ _ _ a e j=>exact .fn _ _ _ _ a e j
 |lY=>exact .lY _
 |np=>exact .np _
 |sO=>exact .sO _ _ _
 |sP=>exact .sP _
def Rd.K9{c:Rc}{m:Option Gp}{a:TV}{v:Value}(h:Rd c m a v){p:Pl}(x:MV p a):∃u,c.va p=some u:=by
 cases x with
 |vw=>cases h;exact⟨_,by assumption⟩
 |pa=>cases h;exact⟨_,by assumption⟩
 |sl=>cases h;exact⟨_,by assumption⟩
 |ep=>cases h;exact⟨_,by assumption⟩
 |agg E t y=>
  cases h with
  |agg _ _ vs F H I A=>
   obtain⟨j,C,D⟩:=p8 y;have e:=A j _ (vs[j]'(by omega)) (by rw[eN C,D]) (jN _);generalize lh m 0 j=J at e;cases e;exact⟨_,by assumption⟩
def La{e:Nat->Bool}{j:Nat->Value}{x:Nat->Nat}{w:World}:∀{p:Pl}{u:Value}{d:Nat},va e j x w p=some u->oF p=some d->e d=true
 |.cD k,u,d,h,a=>by
  simp only[oF,di] at a;subst a;simp only[va] at h;split at h
  ·assumption
  ·simp at h
 |.cell _ _,u,d,h,a=>by simp[oF] at a
 |.sub p t r c,u,d,h,a=>by
  simp only[va] at h;split at h
  ·rename_i y;exact La y a
  ·simp at h
def NQ{D:Nat->Bool}{C:Nat->Value}{E:Nat->Nat}{w:World}:∀{p:Pl}{u:Value}{d:Nat},va D C E w p=some u->oF p=some d->p.jG=true->∃a j x,C d=.slice a j x
 |.cD k,u,d,h,e,A=>by simp[Pl.jG] at A
 |.cell _ _,u,d,h,e,A=>by simp[Pl.jG] at A
 |.sub p t r c,u,d,h,e,_=>by
  simp only[va] at h;split at h
  ·rename_i b o j x y;cases p with
   |cD k=>
    simp only[oF,di] at e;subst e;simp only[va] at y;split at y
    ·exact⟨_,_,_,gV y⟩
    ·simp at y
   |cell _ _=>simp[oF] at e
   |sub F H I J=>exact NQ y e rfl
  ·simp at h
def Wg{c:Rc}{m:Option Gp}(v:Value):Rd c m (qJ v) v:=by
 unfold qJ;split
 ·exact .b _ _
 ·exact .i _ _ _
 ·rename_i x;have:(⟨⟨x.data.toList⟩⟩:ByteArray)=x:=by cases x;simp
  have h:=Rd.s (c:=c) m x.data.toList;rwa[this] at h
 ·exact .nil _
 ·exact .lY _
 ·exact .np _
 ·exact .un _ _
def U3(v:Value):gB (qJ v)=true:=by
 unfold qJ;split<;>rfl
def Gg(v:Value)(h:∀a,v≠.agg a):xV v=qJ v:=by
 cases v<;>first|rfl|exact absurd rfl (h _)
def Qu:Value->Bool|.agg a=>a.all λv=>v.oneCell'&&kF (qJ v)|_=>true
def fD(a:Nat):Operand->Bool|.tmp k=>Nat.blt k a|.const v=>Qu v|_=>true
def Wh{c:Rc}{m:Option Gp}(v:Value)(x:Qu v=true):Rd c m (xV v) v:=by
 cases v with
 |agg D=>
  simp only[xV];simp only[Qu,Array.all_eq_true_iff_forall_mem] at x;refine .agg _ _ _ (λA e=>?_) (by simp) (λj A v u y=>?_) (λj A v u y=>?_)
  ·simp only[ik,Array.mem_toList_iff] at e;obtain⟨a,C,rfl⟩:=e;have:=x a C;simp at this;exact this.2
  ·have:=x v (Zk y);simp at this;exact this.1
  ·rw[iA,l7,y] at u;simp only[jx,di] at u;subst u;exact Wg v
 |_=>rw[Gg _ (by simp)];exact Wg _
def iY:Operand->Option Gp|.tmp k=>some (.cD k,[])|_=>none
def afE{C:Cx}{E:Env}{s:TS}{g:Gs}{w:World}(h:cQ C E s g w)(k:Nat):Rd (g.rc C w) (some (.cD k,[])) (nE C k (s.cD k)) (g.tm k):=by
 have e:=h.fQ k;have a:∀t,Rd (g.rc C w) (some (.cD k,[])) (bif C.vs k then .vw (.cD k) t else .un) (g.tm k):=λt=>by
  cases j:C.vs k with
  |true=>exact .vw _ _ _ _ trivial (by simp only[Gs.rc,va];rw[cM j])
  |false=>exact .un _ _
 unfold nE;split
 ·exact a _
 ·exact a _
 ·exact e
def iU{C:Cx}{E:Env}{s:TS}{g:Gs}{w:World}{e:Nat}{a:Act}(h:cQ C E s g w)(l:eE e g a){x:Operand}(hx:fD e x=true):Rd (g.rc C w) (iY x) (dn C s x) (a.eval x):=by
 cases x with
 |tmp k=>
  simp only[dn,Act.eval,iY];rw[l.tm k (by simpa[fD,s6] using hx)];exact afE h k
 |const v=>exact Wh v hx
 |global i=>exact h.gl i
 |func n=>exact .fn _ _ _ _ (by simp) (by simp) (by simp)
def IN{C:Cx}{s:TS}(e:∀i,gB (C.gl i)=true){x:Operand}:(∃a,dn C s x=.agg a)\/(∃a,dn C s x=.fp a)\/gB (dn C s x)=true:=by
 cases x with
 |tmp k=>
  simp only[dn];cases j:s.cD k<;>simp[nE,gB]<;>(try(cases C.vs k<;>simp))
 |const v=>
  cases v with
  |agg a=>exact .inl ⟨_,rfl⟩
  |_=>exact .inr (.inr (by simp only[dn];rw[Gg _ (by simp)];exact U3 _))
 |global i=>exact .inr (.inr (e i))
 |func n=>exact .inr (.inr rfl)
def PV{C:Cx}{E:Env}{s:TS}{g:Gs}{w:World}{k:Nat}(h:cQ C E s g w)(A:∀a x y,g.tm k≠.slice a x y):∀j p,MV p (s.cD j)->(gp p).1=.cD k->p.jG=true->False:=λj p D F H=>by
 obtain⟨u,I⟩:=(h.fQ j).K9 D;obtain⟨a,x,y,e⟩:=NQ I (wT.2 F) H;exact A _ _ _ e
def Dm{C:Cx}{E:Env}{s:TS}{g:Gs}{w:World}{Y n:Nat}{a:Act}(h:cQ C E s g w)(l:eE Y g a)(hg:∀i,gB (C.gl i)=true){x:Operand}(hx:fD Y x=true):
  ∃γ',cQ C E (iH s x) {g with γ:=γ'} w/\Rd (Gs.rc C {g with γ:=γ'} w) (some (.cE n,[])) (dn C s x) (a.eval x)/\FK (λq=>∃k,x=.tmp k/\q=.cD k) g.γ γ':=by
 have hv:=iU h l hx;have u:gB (dn C s x)=true->iH s x=s->∃γ',cQ C E (iH s x) {g with γ:=γ'} w/\Rd (Gs.rc C {g with γ:=γ'} w) (some (.cE n,[])) (dn C s x) (a.eval x)/\FK (λq=>∃k,x=.tmp k/\q=.cD k) g.γ γ':=
  λha P=>⟨g.γ,by rw[P];exact h,hv.anyM ha _,.refl _⟩;cases x with
 |tmp k=>
  have I:(∀D,s.cD k=D->dn C s (.tmp k)=D->(∀a j cap,g.tm k≠.slice a j cap)->Rd (g.rc C w) (some (.cD k,[])) D (g.tm k)->gB D=false->(∀p,¬ MP p D)->(∀i,¬ MB i D)->iH s (.tmp k)=s.raw k .un->
    ∃γ',cQ C E (iH s (.tmp k)) {g with γ:=γ'} w/\Rd (Gs.rc C {g with γ:=γ'} w) (some (.cE n,[])) (dn C s (.tmp k)) (a.eval (.tmp k))/\FK (λq=>∃Z,Operand.tmp k=.tmp Z/\q=.cD Z) g.γ γ'):=by
   intro D A ho y F _ Q R P
   have J:dK (eQ (.cD k) []) g.γ w (dZ g.γ (.cD k) [] (.cE n) []) w:=ph h.cL.new
   refine⟨dZ g.γ (.cD k) [] (.cE n) [],?_,?_,(FK.dZ za).mono (λq N=>⟨k,rfl,N⟩)⟩
   ·rw[P];exact h.K7 J (PV h y) (.un _ _)
   ·rw[ho];have S:a.eval (.tmp k)=g.tm k:=l.tm k (by simpa[fD,s6] using hx);rw[S];refine F.mono _ (λb U=>⟨qY U,rfl⟩) (λq p N=>?_) (λi M=>absurd M (R i)) (λp H=>?_) (λp H=>absurd H (Q p))
    ·simp only[di,eS] at N;obtain⟨rfl,rfl⟩:=N;exact⟨_,_,rfl,λb π U=>⟨zt U,rfl⟩⟩
    ·have:=RS (γ':=dZ g.γ (.cD k) [] (.cE n) []) h J (PV h y) k;exact this.va p (by rw[A];exact H)
  cases A:s.cD k with
  |agg D=>
   have F:=h.fQ k;rw[A] at F;have y:∀a j cap,g.tm k≠.slice a j cap:=λa j cap e=>by rw[e] at F;cases F
   exact I _ A (by simp[dn,A,nE]) y F rfl (λp H=>by cases H) (λi M=>by cases M) (by simp[iH,A])
  |fp D=>
   have F:=h.fQ k;rw[A] at F;have y:∀a j cap,g.tm k≠.slice a j cap:=λa j cap e=>by rw[e] at F;cases F
   exact I _ A (by simp[dn,A,nE]) y F rfl (λp H=>by cases H) (λi M=>by cases M) (by simp[iH,A])
  |_=>exact u (by simp only[dn,A,nE];first|rfl|(cases C.vs k<;>rfl)) (by simp[iH,A])
 |const v=>
  cases v with
  |agg D=>
   refine⟨g.γ,h,?_,.refl _⟩;exact Wh (.agg D) hx
  |_=>exact u (by simp only[dn];rw[Gg _ (by simp)];exact U3 _) rfl
 |global i=>exact u (hg i) rfl
 |func i=>exact u rfl rfl
def cQ.Xy{C:Cx}{E:Env}{s:TS}{g:Gs}{w:World}{n d:Nat}{D:TV}{v:Value}(h:cQ C E s g w)(Q:Rd (g.rc C w) (some (.cE n,[])) D v)(u:∀j p,MV p (s.cD j)->(gp p).1≠.cD d)(R:∀p,MV p D->(gp p).1≠.cD d):
  cQ C E (s.raw d D) (Gs.set {g with γ:=dZ g.γ (.cE n) [] (.cD d) []} d v) w:=by
 have x:dK (eQ (.cE n) []) g.γ w (Gs.set {g with γ:=dZ g.γ (.cE n) [] (.cD d) []} d v).γ w:=ph h.cL.new;have F:∀p,(gp p).1≠.cD d->(Gs.rc C (Gs.set {g with γ:=dZ g.γ (.cE n) [] (.cD d) []} d v) w).va p=(g.rc C w).va p/\(VO (g.rc C w) p->VO (Gs.rc C (Gs.set {g with γ:=dZ g.γ (.cE n) [] (.cD d) []} d v) w) p):=λp y=>by
  have a:∀k,oF p=some k->C.vs k=true->(Gs.set {g with γ:=dZ g.γ (.cE n) [] (.cD d) []} d v).tm k=g.tm k:=λk u _=>by
   simp only[Gs.set]
   exact cN (λe=>y (by rw[<-e];exact wT.1 u))
  have I:va C.vs (Gs.set {g with γ:=dZ g.γ (.cE n) [] (.cD d) []} d v).tm g.bx w p=va C.vs g.tm g.bx w p:=by
   have:∀q:Pl,oF q=oF p->va C.vs (Gs.set {g with γ:=dZ g.γ (.cE n) [] (.cD d) []} d v).tm g.bx w q=va C.vs g.tm g.bx w q:=by
    intro q A
    induction q with
    |cD k=>
     simp only[va]
     by_cases u:C.vs k=true
     ·rw[cM u,cM u,a k (by rw[<-A];rfl) u]
     ·rw[cN u,cN u]
    |cell=>rfl
    |sub q t r c S=>simp only[va];rw[S A]
   exact this p rfl
  refine⟨I,λJ=>?_⟩;exact(nv (C:=C) (g:=g) (g':=Gs.set {g with γ:=dZ g.γ (.cE n) [] (.cD d) []} d v) x p J (oq x λq A _ hx=>jk q n hx.1) a (λk _=>⟨rfl,λhx=>by simp[eQ] at hx⟩)).2
 refine h.nF x (λj=>?_) (λj=>.inr ⟨rfl,rfl,λp hx=>by simp[eQ] at hx⟩)
 by_cases M:j=d
 ·subst M
  left
  have N:(Gs.set {g with γ:=dZ g.γ (.cE n) [] (.cD j) []} j v).tm j=v:=by simp[Gs.set]
  rw[N];rcases wq s j D with e|e<;>rw[e]
  ·refine Q.mono _ (λb H=>⟨qY H,rfl⟩) (λq p A=>?_) (λ_ _=>rfl) (λp y=>F p (R p y)) (λp y b P H=>⟨wI H (λhx=>jk p n hx.1),rfl⟩);simp only[di,eS] at A;obtain⟨rfl,rfl⟩:=A;exact⟨_,_,rfl,λb P H=>⟨zt H,rfl⟩⟩
  ·exact .un _ _
 ·refine .inr ⟨rN s D M,by simp only[Gs.set];exact cN M,λp hx=>by simp[eQ] at hx,?_⟩;exact⟨λ_ _=>rfl,λp y=>F p (u j p y),λp y P hx=>jk p n hx.1⟩
def cQ.put{C:Cx}{E:Env}{s:TS}{g:Gs}{w:World}{n:Nat}{d:Option Nat}{A:TV}{v:Value}(h:cQ C E s g w)(x:Rd (g.rc C w) (some (.cE n,[])) A v):
  ∃γ',cQ C E (eA C s d A) (Gs.put {g with γ:=γ'} d v) w/\FK (λq=>q=.cE n) g.γ γ':=by
 cases d with
 |none=>exact⟨g.γ,h,.refl _⟩
 |some d=>
  refine⟨dZ g.γ (.cE n) [] (.cD d) [],?_,.dZ zg⟩;simp only[eA,TS.put,Gs.put];cases D:C.vs d with
  |true=>
   refine(h.kill (Pl.l6 d)).Xy (x.kill (Pl.l6 d)) (λj p a e=>?_) (λp a e=>?_)
   ·rw[qW] at a;have:=(tD a).2;rw[xa.2 e] at this;simp at this
   ·have:=(tD a).2;rw[xa.2 e] at this;simp at this
  |false=>
   refine h.Xy x (λj p a e=>?_) (λp a e=>?_)
   ·obtain⟨u,y⟩:=(h.fQ j).K9 a;have:=La y (wT.2 e);rw[D] at this;simp at this
   ·obtain⟨u,y⟩:=x.K9 a;have:=La y (wT.2 e);rw[D] at this;simp at this
end Go.Sd
namespace Go.Sd
open Go Go.RowKit
open Go.Ev hiding World cY Rd
section
def Rd.pE{c:Rc}{m:Option Gp}{x:Bool}{v:Value}(h:Rd c m (.b x) v):v=.bool x:=by cases h;rfl
def Rd.kz{c:Rc}{m:Option Gp}{k:IntKind}{n:Int}{v:Value}(h:Rd c m (.i k n) v):v=.int k n:=by cases h;rfl
def Rd.nT{c:Rc}{m:Option Gp}{x:cq}{v:Value}(h:Rd c m (.s x) v):v=.string ⟨⟨x⟩⟩:=by cases h;rfl
def zC:TV->Value->Bool|.un,v=>v.oneCell'|.b x,.bool y=>x==y|.i k n,.int e j=>decide (k=e)&&decide (n=j)|.s x,.string y=>x==y.data.toList|.nil,.slice none 0 0=>true|.eb _ [],.slice _ 0 0=>true|_,_=>false
def kr:List TV->List Value->Bool|[],[]=>true|t::e,v::j=>zC t v&&kr e j|_,_=>false
def Xd{c:Rc}{m:Option Gp}{tv:TV}{v:Value}(h:zC tv v=true):Rd c m tv v/\v.oneCell'=true/\fO tv=true:=by
 unfold zC at h;split at h
 ·exact⟨.un _ _,h,rfl⟩
 ·simp at h;subst h;exact⟨.b _ _,rfl,rfl⟩
 ·simp at h;obtain⟨rfl,rfl⟩:=h;exact⟨.i _ _ _,rfl,rfl⟩
 ·rename_i x y;simp at h;have:(⟨⟨x⟩⟩:ByteArray)=y:=by cases y;rename_i d;cases d;simp at h;simp[h]
  rw[<-this];exact⟨.s _ _,rfl,rfl⟩
 ·exact⟨.nil _,rfl,rfl⟩
 ·exact⟨.kO _ _ _ _,rfl,rfl⟩
 ·simp at h
def CW{c:Rc}{m:Nat->Option Gp}:∀{e:List TV}{x:List Value},kr e x=true->x.length=e.length/\∀(j:Nat)tv v,e[j]?=some tv->x[j]?=some v->Rd c (m j) tv v/\v.oneCell'=true/\fO tv=true
 |[],[],_=>⟨rfl,by simp⟩
 |[],_::_,h=>by simp[kr] at h
 |_::_,[],h=>by simp[kr] at h
 |t::e,v::x,h=>by
  simp only[kr,dF] at h;obtain⟨F,H⟩:=h;obtain⟨I,J⟩:=CW (m:=λj=>m (j+1)) H;refine⟨by simp[I],λj tv u y D=>?_⟩;cases j with
  |zero=>simp at y D;subst y;subst D;exact Xd F
  |succ j=>exact J j tv u (by simpa using y) (by simpa using D)
def qB(P:Program)(t:TypeId):Bool:=
 match P.underlying t with
 |some (.struct _)|some (.array _ _)=>true
 |_=>false
def mA(P:Program)(t:TypeId):List Value:=
 match P.info? t with
 |some i=>
  match i.zero with
  |some z=>z.cells.toList
  |none=>[]
 |none=>[]
def vB(P:Program)(t:TypeId):Bool:=
 match P.info? t with
 |some i=>i.zero.isSome
 |none=>false
def Hd(P:Program)(e:Ty)(j:TypeId):Bool:=
 match e,P.underlying j with
 |.int k,some (.int u)=>decide (k=u)
 |.str,some .string=>true
 |.bool,some .bool=>true
 |e,some (.struct _)=>Ev.gJ e
 |_,_=>false
def zU(P:Program)(e:Ty)(j:TypeId):Bool:=(P.cellsOf j==cI e)&&vB P j&&kr (Ev.enc false e (pV e)) (mA P j)&&Hd P e j
def oy:List (Nat×Nat)->List Field->Bool|[],[]=>true|(e,j)::r,f::fs=>(e==f.offset)&&(j==f.type)&&(f.name != "_")&&oy r fs|_,_=>false
def mO(P:Program)(C:Cx)(n:Nat)(F:TI)(u:Option TypeDesc):Bool:=
    match F,u with
    |.bool,some .bool=>kr (zero C 4 n) (mA P n)
    |.int k,some (.int H)=>decide (k=H)&&kr (zero C 4 n) (mA P n)
    |.str,some .string=>kr (zero C 4 n) (mA P n)
    |.sl e I D,some (.slice j)=>zU P e j&&(I==cI e)&&(P.bytesOf j==D)&&kr (zero C 4 n) (mA P n)
    |.st _ _ fs,some (.struct J)=>oy fs J.toList&&kr (zero C 4 n) (mA P n)&&fs.all λp=>(C.dj p.2).var
    |.ar x e,some (.array y j)=>(x==y)&&zU P e j&&(cI e==1)&&!(qB P j)&&!(Ev.gJ e)&&kr (List.replicate x (nth (Ev.enc false e (pV e)) 0)) (mA P n)
    |.ptr,some (.pointer _)=>kr (zero C 4 n) (mA P n)
    |.sL,some (.interface _)=>kr (zero C 4 n) (mA P n)
    |_,_=>false
def jq(P:Program)(C:Cx)(n:Nat)(ti:TI):Bool:=
 match ti with
 |.other=>true
 |.iL=>Nat.beq n GJ&&(vB P n&&(P.cellsOf n==2)&&(match mA P n with|[.pointer none,.slice none 0 0]=>true|_=>false))
 |ti=>(P.cellsOf n==ti.sz)&&(qB P n==ti.ag)&&Nat.blt 0 ti.sz&&vB P n&&
  mO P C n ti (P.underlying n)
structure ga(P:Program)(C:Cx):Prop where
 ty:∀n,jq P C n (C.dj n)=true
 gl:∀i,gB (C.gl i)=true
def agD{P:Program}{C:Cx}(h:C.ty.all (λp=>jq P C p.1 p.2)=true)(n:Nat):jq P C n (C.dj n)=true:=by
 have j:∀(l:List (Nat×TI)),l.all (λp=>jq P C p.1 p.2)=true->jq P C n (lV l n)=true:=by
  intro l
  induction l with
  |nil=>intro _;rfl
  |cons p r u=>
   intro h
   simp only[Hz,dF] at h
   simp only[lV,NO]
   split
   ·rename_i e;rw[<-e];exact h.1
   ·exact u h.2
 exact j _ h
section
variable{P:Program}{C:Cx}{w:World}{n:Nat}
def MZ{t:TypeId}(h:0<P.cellsOf t):∃i,P.info? t=some i/\i.size=P.cellsOf t:=by
 unfold Program.cellsOf at*;cases e:P.info? t with
 |none=>simp[e] at h
 |some i=>exact⟨i,rfl,rfl⟩
def wu{t:TypeId}(h:0<P.cellsOf t):(sizeOf t).run P w=.ok (P.cellsOf t) w:=by
 obtain⟨i,e,j⟩:=MZ h;simp[sizeOf,typeInfo,e,j]
def qm(h:jq P C n (C.dj n)=true)(j:(C.dj n).var=true):P.cellsOf n=(C.dj n).sz/\0<(C.dj n).sz/\qB P n=(C.dj n).ag/\(∃d,P.underlying n=some d)/\vB P n=true:=by
 unfold jq at h;split at h
 ·rename_i e;rw[e] at j;simp[TI.var] at j
 ·rename_i e;rw[e] at j;simp[TI.var] at j
 ·simp only[dF,p9,s6] at h;obtain⟨⟨⟨⟨x,y⟩,D⟩,F⟩,u⟩:=h;refine⟨x,D,y,?_,F⟩;cases H:P.underlying n with
  |none=>rw[H] at u;unfold mO at u;split at u<;>simp_all
  |some d=>exact⟨d,rfl⟩
def BP{d:TypeDesc}(h:P.underlying n=some d):(isAgg n).run P w=.ok (qB P n) w:=by
 simp only[isAgg,underlying,qB,rJ,run_program,Result.andThen,h,Zl];cases d<;>rfl
def Lb(e:TI)(h:e.ag=false):e.sz=1:=by cases e<;>simp_all [TI.ag,TI.sz]
def Lc{t:Ty}{m:Nat}{fs:List (Nat×Nat)}(h:jq P C n (C.dj n)=true)(x:C.dj n=.st t m fs):∃j,P.underlying n=some (.struct j)/\oy fs j.toList=true/\kr (zero C 4 n) (mA P n)=true/\∀p∈fs,(C.dj p.2).var=true:=by
 rw[x] at h;simp only[jq,dF] at h;obtain⟨_,e⟩:=h;cases u:P.underlying n with
 |none=>rw[u] at e;simp[mO] at e
 |some d=>?_
 rw[u] at e;cases d<;>simp only[mO,dF,p9,lO,jC,dQ,reduceCtorEq] at e;exact⟨_,rfl,e.1.1,e.1.2,e.2⟩
def vn{e:Ty}{x gq:Nat}(h:jq P C n (C.dj n)=true)(D:C.dj n=.sl e x gq):∃u,P.underlying n=some (.slice u)/\zU P e u=true/\x=cI e/\P.bytesOf u=gq:=by
 rw[D] at h;simp only[jq,dF] at h;obtain⟨_,j⟩:=h;cases y:P.underlying n with
 |none=>rw[y] at j;simp[mO] at j
 |some d=>?_
 rw[y] at j;cases d<;>simp only[mO,dF,p9,lO,jC,dQ,reduceCtorEq] at j;exact⟨_,rfl,j.1.1.1,j.1.1.2,j.1.2⟩
def GK{e:Ty}{j:Nat}(h:jq P C n (C.dj n)=true)(D:C.dj n=.ar j e):∃x,P.underlying n=some (.array j x)/\zU P e x=true/\cI e=1/\qB P x=false/\Ev.gJ e=false/\kr (List.replicate j (nth (Ev.enc false e (pV e)) 0)) (mA P n)=true:=by
 rw[D] at h;simp only[jq,dF] at h;obtain⟨_,u⟩:=h;cases y:P.underlying n with
 |none=>rw[y] at u;simp[mO] at u
 |some d=>?_
 rw[y] at u;cases d<;>simp only[mO,dF,p9,lO,jC,dQ,reduceCtorEq] at u;obtain⟨⟨⟨⟨⟨rfl,F⟩,H⟩,I⟩,J⟩,M⟩:=u;exact⟨_,rfl,F,H,I,J,M⟩
def aeg(h:jq P C n (C.dj n)=true)(x:(C.dj n).var=true)(F:∀j e,C.dj n≠.ar j e):kr (zero C 4 n) (mA P n)=true:=by
 cases y:C.dj n with
 |other=>rw[y] at x;simp[TI.var] at x
 |iL=>rw[y] at x;simp[TI.var] at x
 |ar j e=>exact absurd y (F j e)
 |_=>
  rw[y] at h;simp only[jq,dF] at h;obtain⟨_,u⟩:=h;cases D:P.underlying n with
  |none=>rw[D] at u;simp[mO] at u
  |some d=>
   rw[D] at u;cases d<;>simp only[mO,dF,reduceCtorEq,iS] at u
   first|exact u|exact u.2|exact u.1.2
def u9(h:jq P C n (C.dj n)=true)(u:C.dj n=.str):P.underlying n=some .string:=by
 rw[u] at h;simp only[jq,dF] at h;obtain⟨_,e⟩:=h;cases j:P.underlying n with
 |none=>rw[j] at e;simp[mO] at e
 |some d=>?_
 rw[j] at e;cases d<;>simp only[mO,dF,p9,lO,jC,dQ,reduceCtorEq] at e;rfl
def U4(h:jq P C n (C.dj n)=true)(u:C.dj n=.bool):P.underlying n=some .bool:=by
 rw[u] at h;simp only[jq,dF] at h;obtain⟨_,e⟩:=h;cases j:P.underlying n with
 |none=>rw[j] at e;simp[mO] at e
 |some d=>?_
 rw[j] at e;cases d<;>simp only[mO,dF,p9,lO,jC,dQ,reduceCtorEq] at e;rfl
def Wi{k:IntKind}(h:jq P C n (C.dj n)=true)(u:C.dj n=.int k):P.underlying n=some (.int k):=by
 rw[u] at h;simp only[jq,dF] at h;obtain⟨_,e⟩:=h;cases j:P.underlying n with
 |none=>rw[j] at e;simp[mO] at e
 |some d=>?_
 rw[j] at e;cases d<;>simp only[mO,dF,p9,lO,jC,dQ,reduceCtorEq] at e;rw[e.1]
def afF(h:jq P C n (C.dj n)=true)(u:C.dj n=.sL):∃x,P.underlying n=some (.interface x):=by
 rw[u] at h;simp only[jq,dF] at h;obtain⟨_,e⟩:=h;cases j:P.underlying n with
 |none=>rw[j] at e;simp[mO] at e
 |some d=>?_
 rw[j] at e;cases d<;>simp only[mO,dF,p9,lO,jC,dQ,reduceCtorEq] at e;exact⟨_,rfl⟩
end
structure Out(C:Cx)(E:Env)(nt:Nat)(X:Rt->dv->Prop)(d:Option Nat)(nb:Nat->Prop)(g:Gs)(w:World)(s':TS)(a':Act)(w':World)(g':Gs):Prop where
 rel:cQ C E s' g' w'
 Dx:eE nt g' a'
 gD:dK X g.γ w g'.γ w'
 tm:∀k,d≠some k->g'.tm k=g.tm k
 bx:∀k,¬ nb k->g'.bx k=g.bx k
def vC(P:Program)(o:Oper)(a:Act)(w:World)(u:Act->World->Prop):Prop:=∀(next:Act->World->Prop)(Q:Exit->Act->World->Prop),(∀e j,u e j->next e j)->o.wp P a w next Q
def XZ(Z:Rt->Prop)(q:Rt)(p:dv):Prop:=(Z q\/∃n,q=.cE n)/\¬ kW q p
def gW{R:Type}(P:Program)(C:Cx)(E:Env)(nt:Nat)(o:Oper)(g:Gs)(a:Act)(w:World)(K:TS->Option R)(r:R)(Z:Rt->Prop):Prop:=∃e,K e=some r/\vC P o a w (λj u=>∃x,Out C E nt (XZ Z) o.dst (λ_=>False) g w e j u x)
def Gh(g:Gs)(d:Option Nat)(v:Value):(g.put d v).γ=g.γ:=by cases d<;>rfl
def Gi(g:Gs)(d:Option Nat)(v:Value):(g.put d v).bx=g.bx:=by cases d<;>rfl
def KJ(g:Gs)(d:Option Nat)(v:Value)(k:Nat)(h:d≠some k):(g.put d v).tm k=g.tm k:=by
 cases d with
 |none=>rfl
 |some d=>simp only[Gs.put,Gs.set];exact cN (λe=>h (by rw[e]))
def FK.xz{Z:Rt->Prop}{γ e:Nat->G}{w:World}(h:FK (λq=>Z q\/∃n,q=.cE n) γ e)(j:∀b,w.heap.size<=b->γ b=.fr):dK (XZ Z) γ w e w:=h.gD j
section
variable{P:Program}{C:Cx}{E:Env}{nt n:Nat}{o:Oper}{s A:TS}{g:Gs}{a:Act}{w:World}{R:Type}{r:R}{K:TS->Option R}{Z:Rt->Prop}{γ1:Nat->G}{tv:TV}{v:Value}
def q6(y:cQ C E A {g with γ:=γ1} w)(D:FK Z g.γ γ1)(F:∀b,w.heap.size<=b->g.γ b=.fr)(l:eE nt g a)(H:ij nt o.dst)(I:Rd (Gs.rc C {g with γ:=γ1} w) (some (.cE n,[])) tv v)
  (J:(execOp a.eval o).run P w=.ok (.value v) w)(j:K (eA C A o.dst tv)=some r):gW P C E nt o g a w K r Z:=by
 obtain⟨u,M,f2⟩:=y.put (d:=o.dst) I;refine⟨_,j,λnext Q e=>?_⟩;simp only[Oper.wp,J,Oper.upon];refine e _ _ ⟨_,M,(l.same (g':={g with γ:=u}) rfl).put H,?_,λk j=>KJ _ _ _ _ j,λk _=>by rw[Gi]⟩;rw[Gh];exact FK.xz ((D.mono (λq x=>.inl x)).trans (f2.mono (λq x=>.inr ⟨n,x⟩))) F
def kx(h:cQ C E s g w)(l:eE nt g a)(e:ij nt o.dst){m:Option Gp}(j:Rd (g.rc C w) m tv v)(u:gB tv=true)(x:(execOp a.eval o).run P w=.ok (.value v) w)(y:K (eA C s o.dst tv)=some r):gW P C E nt o g a w K r Z:=q6 (n:=0) (γ1:=g.γ) h (.refl _) h.cL.new l e (j.anyM u _) x y
def gW.mono{Z':Rt->Prop}(h:gW P C E nt o g a w K r Z)(hz:∀q,Z q->Z' q):gW P C E nt o g a w K r Z':=by
 obtain⟨j,u,x⟩:=h;refine⟨j,u,λnext Q y=>x next Q (λD F⟨H,e⟩=>y D F ⟨H,{e with gD:=e.gD.mono (λq p hx=>⟨hx.1.imp (hz q) id,hx.2⟩)}⟩)⟩
def ry(x:Operand)(q:Rt):Prop:=∃k,x=.tmp k/\q=.cD k
def J5(hC:ga P C)(h:cQ C E s g w)(l:eE nt g a)(u:ij nt o.dst){x:Operand}(e:o.op=.move x)(hx:fD nt x=true)(j:Ev.step C o s K=some r):gW P C E nt o g a w K r (ry x):=by
 simp only[Ev.step,e] at j;obtain⟨γ1,y,D,F⟩:=Dm (n:=0) h l hC.gl hx;exact q6 y F h.cL.new l u D (by simp[execOp,e]) j
def OE(hC:ga P C)(h:cQ C E s g w)(l:eE nt g a)(M:ij nt o.dst){c x y:Operand}(D:o.op=.pick c x y)(N:fD nt c=true)(hx:fD nt x=true)(Q:fD nt y=true)(e:Ev.step C o s K=some r):
  gW P C E nt o g a w K r (λq=>ry x q\/ry y q):=by
 simp only[Ev.step,D] at e;split at e
 ·rename_i b S;have u:=iU h l N;rw[S] at u;have j:=u.pE;rcases Cf.1 e with⟨rfl,e⟩|⟨rfl,e⟩
  ·obtain⟨γ1,F,H,I⟩:=Dm (n:=0) h l hC.gl hx;exact q6 F (I.mono λq J=>.inl J) h.cL.new l M H (by simp[execOp,D,j,asBool]) e
  ·obtain⟨γ1,F,H,I⟩:=Dm (n:=0) h l hC.gl Q;exact q6 F (I.mono λq J=>.inr J) h.cL.new l M H (by simp[execOp,D,j,asBool]) e
 ·simp at e
def U5{R:Type}{r:R}{c:Rc}{m:Option Gp}{p:TV}{u:Value}{n:Nat}{K:TV->Option R}(h:Rd c m p u)(e:rm p n K=some r):∃b H I,u=.pointer (some ⟨b,H,none⟩)/\K I=some r/\Rd c m I (.pointer (some ⟨b,H+n,none⟩))/\gB I=true:=by
 have N:∀x y:Nat,x+Nat.add y n=x+y+n:=λx y=>(o6 x y n).symm;cases p with
 |ptr k j=>
  simp only[rm] at e;cases h;exact⟨_,_,_,rfl,e,.ptr _ _ _,rfl⟩
 |ep p t i j=>
  simp only[rm] at e;cases h;rename_i J M D F;refine⟨_,_,_,rfl,e,?_,rfl⟩;rw[<-N];exact Rd.ep m p t i (Nat.add j n) _ _ _ _ J M D F
 |ip Q j=>
  simp only[rm] at e;cases h with
  |ip _ _ _ b o f S U D F=>?_
  refine⟨_,_,_,rfl,e,?_,rfl⟩;rw[<-N];exact Rd.ip m Q (Nat.add j n) _ _ f S U D F
 |pe k i=>
  simp only[rm] at e;obtain⟨D,F⟩:=dY.1 e;have:n=0:=gU D;subst this;cases h;exact⟨_,_,_,rfl,F,.pe _ _ _ (by assumption),rfl⟩
 |iv t Y=>
  simp only[rm] at e;obtain⟨D,F⟩:=dY.1 e;have:n=0:=gU D;subst this;cases h;exact⟨_,_,_,rfl,F,.iv _ _ _ _ _ (by assumption) (by assumption) (by assumption),rfl⟩
 |_=>simp[rm] at e
def IP(a:Addr)(h:a.spot=none)(n:Nat):a.add n=⟨a.block,a.off+n,none⟩:=by
 cases a;simp_all [Addr.add]
def Rp(h:cQ C E s g w)(l:eE nt g a)(y:ij nt o.dst){x:Operand}(j:o.op=.nilCheck x)(hx:fD nt x=true)(u:Ev.step C o s K=some r):gW P C E nt o g a w K r Z:=by
 simp only[Ev.step,j] at u;obtain⟨b,D,J,F,e,H,I⟩:=U5 (iU h l hx) u;exact kx h l y H I (by simp[execOp,j,F]) e
def MI:∀{fs:List (Nat×Nat)}{x:List Field}{j e u:Nat},oy fs x=true->nX fs j=some (e,u)->∃f,x[j]?=some f/\f.offset=e/\f.type=u/\(e,u)∈fs
 |[],_,_,_,_,_,h=>by simp[nX] at h
 |_::_,[],_,_,_,h,_=>by simp[oy] at h
 |(D,F)::fs,f::x,0,e,u,h,y=>by
  simp only[oy,dF,p9] at h;simp only[nX,di,eS] at y;obtain⟨rfl,rfl⟩:=y;exact⟨f,rfl,h.1.1.1.symm,h.1.1.2.symm,by simp⟩
 |(D,F)::fs,f::x,j+1,e,u,h,y=>by
  simp only[oy,dF,p9] at h;obtain⟨H,I,J,M,N⟩:=MI h.2 (by simpa[nX] using y);exact⟨H,by simpa using I,J,M,by simp[N]⟩
def Re(hC:ga P C)(h:cQ C E s g w)(l:eE nt g a)(J:ij nt o.dst){t:Nat}{x:Operand}{j:Nat}(I:o.op=.fieldAddr t x j)(hx:fD nt x=true)(e:Ev.step C o s K=some r):gW P C E nt o g a w K r Z:=by
 simp only[Ev.step,I] at e;split at e
 ·rename_i t' m fs M;split at e
  ·rename_i N ft Q;obtain⟨gs,S,U,_,u⟩:=Lc (hC.ty t) M;obtain⟨f,y,rfl,rfl,Y⟩:=MI U Q;obtain⟨b,aa,p',D,F,hr,ha⟩:=U5 (iU h l hx) e;obtain⟨ab,ad,_⟩:=qm (hC.ty f.type) (u _ Y);have hs:=wu (P:=P) (w:=w) (t:=f.type) (by omega);have H:¬ P.cellsOf f.type=0:=by omega
   rw[l7] at y;refine kx h l J hr ha ?_ F;simp[execOp,I,Instr.fieldAt,underlying,S,y,D,Instr.sureAddr,Go.fieldPlace,hs,H,IP]
  ·simp at e
 ·simp at e
def U6(h:cQ C E s g w)(l:eE nt g a)(F:ij nt o.dst){H:UnOp}{t:Nat}{x:Operand}(D:o.op=.unOp H t x)(hx:fD nt x=true)(e:Ev.step C o s K=some r):gW P C E nt o g a w K r Z:=by
 simp only[Ev.step,D] at e;have j:=iU h l hx;unfold LF at e;split at e
 ·rename_i k n u;rw[u] at j;have y:=j.kz;exact kx h l F (.i none k _) rfl (by simp[execOp,D,y,Op.unary,Op.intArith,gG]) e
 ·rename_i b u;rw[u] at j;have y:=j.pE;exact kx h l F (.b none _) rfl (by simp[execOp,D,y,Op.unary,cF]) e
 ·rename_i k n u;rw[u] at j;have y:=j.kz;exact kx h l F (.i none k _) rfl (by simp[execOp,D,y,Op.unary,Op.intBits,tY,fe]) e
 ·simp at e
def Q7(hC:ga P C)(h:cQ C E s g w)(l:eE nt g a)(J:ij nt o.dst){t:Nat}{x:Operand}(F:o.op=.makeInterface t x)(j:Ev.step C o s K=some r)(M:C.dj t≠.iL):gW P C E nt o g a w K r Z:=by
 simp only[Ev.step,F] at j;have y:(C.dj t).var=true->C.dj t≠.sL->K (eA C s o.dst (.er true))=some r->gW P C E nt o g a w K r Z:=λu N j=>by
  obtain⟨_,_,_,⟨d,H⟩,_⟩:=qm (hC.ty t) u
  refine kx h l J (.sO none t (a.eval x)) rfl ?_ j
  simp only[execOp,F,Instr.makeInterface,underlying,rJ,run_program,Result.andThen,H,Zl]
  cases d<;>first|rfl|skip
  exfalso
  have:=hC.ty t
  unfold jq at this
  split at this
  ·rename_i e;rw[e] at u;simp[TI.var] at u
  ·rename_i e;rw[e] at u;simp[TI.var] at u
  ·simp only[dF] at this;obtain⟨_,I⟩:=this;rw[H] at I;generalize C.dj t=D at*;cases D<;>simp[mO] at I N
 split at j
 ·simp at j
 ·simp at j
 ·rename_i Q S;refine y ?_ (λe=>Q e) j;generalize C.dj t=D at*;cases D<;>first|rfl|exact absurd rfl M|exact absurd rfl S
def Ni:∀{e:List TV},K3 e=true->∀tv∈e,∃k j,tv=.ptr k j
 |[],_,tv,h=>by simp at h
 |v::e,u,tv,h=>by
  cases v<;>simp only[K3] at u<;>first|(simp at u;done)|skip
  rcases eG.1 h with rfl|h
  ·exact⟨_,_,rfl⟩
  ·exact Ni u tv h
def Rq(h:cQ C E s g w)(l:eE nt g a)(Q:ij nt o.dst){I:FuncId}{x y:Array Operand}(J:o.op=.makeFunc (.func I) x y)(hx:x=#[])(S:∀z∈y.toList,fD nt z=true)(M:Ev.step C o s K=some r):gW P C E nt o g a w K r Z:=by
 subst hx;simp only[Ev.step,J] at M;obtain⟨N,U⟩:=dY.1 M;refine kx (v:=.func (.func I) #[] (y.map a.eval)) (m:=none) h l Q ?_ rfl (by simp[execOp,J,Instr.makeFunc]) U;refine .fn _ _ _ _ (λtv Y=>?_) (by simp) (λj tv v F H=>?_)
 ·obtain⟨k,j,rfl⟩:=Ni N tv Y;rfl
 ·rw[iA] at F;rw[aiY] at H;cases u:y[j]? with
  |none=>simp[u] at H
  |some z=>
   simp only[u,jx,di] at H;rw[l7,u] at F;simp only[jx,di] at F;subst F;subst H;have D:dn C s z∈y.toList.map (dn C s):=ik.2 ⟨z,by simpa using Zk u,rfl⟩;obtain⟨k,i,e⟩:=Ni N _ D;exact(iU h l (S z (by simpa using Zk u))).anyM (by rw[e];rfl) _
end
end
section
section
variable{P:Program}{C:Cx}{w:World}{op:BinOp}{t:TypeId}{x y:Operand}{R:Type}{r:R}{K:TV->Option R}
def LG(P:Program)(w:World)(op:BinOp)(t:TypeId)(x y:Operand)(e j:Value)(K:TV->Option R)(r:R):Prop:=
 ∃v tv,K tv=some r/\((do eqGuard op t x y e j;binOp op t e j):Sem Value).run P w=.ok v w/\(∀c m,Rd c m tv v)/\gB tv=true
def sB{e j:Value}{k:IntKind}{n:Int}(u:K (.i k n)=some r)(A:((do eqGuard op t x y e j;binOp op t e j):Sem Value).run P w=.ok (.int k n) w):LG P w op t x y e j K r:=⟨_,_,u,A,λ_ _=>.i _ _ _,rfl⟩
def nw{e j:Value}{b:Bool}(u:K (.b b)=some r)(A:((do eqGuard op t x y e j;binOp op t e j):Sem Value).run P w=.ok (.bool b) w):LG P w op t x y e j K r:=⟨_,_,u,A,λ_ _=>.b _ _,rfl⟩
def Wj{k D:IntKind}{a c:Int}(F:LD op=true\/D=k)(e:Ak op k a c K=some r):LG P w op t x y (.int k a) (.int D c) K r:=by
 have H:(eqGuard op t x y (.int k a) (.int D c)).run P w=.ok () w:=by
  unfold eqGuard
  cases op<;>simp
 have u:∀v,(binOp op t (.int k a) (.int D c)).run P w=.ok v w->((do eqGuard op t x y (.int k a) (.int D c);binOp op t (.int k a) (.int D c)):Sem Value).run P w=.ok v w:=λv I=>by
  simp only[rJ,H,Result.andThen,I]
 cases op<;>simp only[Ak,LD,iS,false_or,fa] at e F
 case shl=>
  obtain⟨n,j,e⟩:=e;unfold pH at j;split at j
  ·simp at j
  ·rename_i A;simp only[di] at j;subst j;exact sB e (u _ (by simp[binOp,Op.shift,A]))
 case shr=>
  obtain⟨n,j,e⟩:=e;unfold kL at j;split at j
  ·simp at j
  ·rename_i A;simp only[di] at j;subst j;exact sB e (u _ (by simp[binOp,Op.shift,A]))
 case quo=>
  subst F;obtain⟨n,j,e⟩:=e;unfold jT at j;split at j
  ·simp at j
  ·rename_i A;simp only[di] at j;subst j;exact sB e (u _ (by simp[binOp,Op.intDiv,A]))
 case rem=>
  subst F;obtain⟨n,j,e⟩:=e;unfold kg at j;split at j
  ·simp at j
  ·rename_i A;simp only[di] at j;subst j;exact sB e (u _ (by simp[binOp,Op.intDiv,A]))
 all_goals subst F
 case add=>exact sB e (u _ (by simp[binOp,Op.intArith,cz]))
 case sub=>exact sB e (u _ (by simp[binOp,Op.intArith,cX]))
 case mul=>exact sB e (u _ (by simp[binOp,Op.intArith,eM]))
 case and=>exact sB e (u _ (by simp[binOp,Op.intBits,iw]))
 case or=>exact sB e (u _ (by simp[binOp,Op.intBits,l5]))
 case xor=>exact sB e (u _ (by simp[binOp,Op.intBits,fe]))
 case andNot=>exact sB e (u _ (by simp[binOp,Op.intBits,Xw]))
 case eql=>exact nw e (u _ (by simp[binOp,Op.intCmp,cp];rfl))
 case neq=>exact nw e (u _ (by simp[binOp,Op.intCmp,cp,cF];rfl))
 case lss=>exact nw e (u _ (by simp[binOp,Op.intCmp,cC]))
 case leq=>exact nw e (u _ (by simp[binOp,Op.intCmp,dI]))
 case gtr=>exact nw e (u _ (by simp[binOp,Op.intCmp,cC]))
 case geq=>exact nw e (u _ (by simp[binOp,Op.intCmp,dI]))
def Xz(a b:List UInt8):(a==b)=decide (a=b):=by by_cases h:a=b<;>simp[h]
def JB(l:List UInt8):(ByteArray.mk ⟨l⟩).toList=l:=by rw[ByteArray.toList_eq]
def agE{k F:IntKind}{a c:Int}{j u:List TV}{q:Bool}(h:jK (.i k a::j) (.i F c::u)=some q):∃A,jK j u=some A/\q=(cp a c&&A):=by
 cases j with
 |nil=>
  cases u with
  |nil=>simp only[jK,di] at h;exact⟨true,rfl,by simp[h]⟩
  |cons d u=>simp[jK] at h
 |cons e j=>
  cases D:jK (e::j) u with
  |none=>simp[jK,D] at h
  |some A=>simp only[jK,D,di] at h;exact⟨A,rfl,h.symm⟩
def agF{a c:cq}{j u:List TV}{q:Bool}(h:jK (.s a::j) (.s c::u)=some q):∃A,jK j u=some A/\q=(dz a c&&A):=by
 cases j with
 |nil=>
  cases u with
  |nil=>simp only[jK,di] at h;exact⟨true,rfl,by simp[h]⟩
  |cons d u=>simp[jK] at h
 |cons e j=>
  cases D:jK (e::j) u with
  |none=>simp[jK,D] at h
  |some A=>simp only[jK,D,di] at h;exact⟨A,rfl,h.symm⟩
def agG{a c:Bool}{j u:List TV}{q:Bool}(h:jK (.b a::j) (.b c::u)=some q):∃A,jK j u=some A/\q=(ju a c&&A):=by
 cases j with
 |nil=>
  cases u with
  |nil=>simp only[jK,di] at h;exact⟨true,rfl,by simp[h]⟩
  |cons d u=>simp[jK] at h
 |cons e j=>
  cases D:jK (e::j) u with
  |none=>simp[jK,D] at h
  |some A=>simp only[jK,D,di] at h;exact⟨A,rfl,h.symm⟩
def U7(hC:ga P C)(Y ys:Array Value)(d:Nat):∀(fs:List (Nat×Nat))(gs:List Field)(n:Nat)(cs ds:List TV)(q:Bool),oy fs gs=true->uc C fs n cs ds=true->
  (∀(j:Nat)tv,cs[j]?=some tv->∃v c m,Y[n+j]?=some v/\Rd c m tv v)->(∀(j:Nat)tv,ds[j]?=some tv->∃v c m,ys[n+j]?=some v/\Rd c m tv v)->jK cs ds=some q->
  (Op.eqFields (d+1) Y ys gs).run P w=.ok q w
 |[],[],n,[],[],q,_,_,_,_,h=>by simp only[jK,di] at h;subst h;simp[Op.eqFields]
 |[],_::_,_,_,_,_,h,_,_,_,_=>by simp[oy] at h
 |_::_,[],_,_,_,_,h,_,_,_,_=>by simp[oy] at h
 |[],[],_,_::_,_,_,_,h,_,_,_=>by simp[uc] at h
 |[],[],_,[],_::_,_,_,h,_,_,_=>by simp[uc] at h
 |_::_,_::_,_,[],_,_,_,h,_,_,_=>by simp[uc] at h
 |_::_,_::_,_,_::_,[],_,_,h,_,_,_=>by simp[uc] at h
 |(aj,ft)::fs,f::gs,n,c::cs,e::ds,q,hp,D,hx,hy,h=>by
  simp only[oy,dF,p9,bne_iff_ne] at hp;obtain⟨⟨⟨rfl,rfl⟩,I⟩,hp⟩:=hp;simp only[uc] at D;cases F:Nat.beq f.offset n with
  |false=>rw[F] at D;simp at D
  |true=>
   rw[F,cP] at D;have F:=gU F;obtain⟨vx,cx,mx,aa,ab⟩:=hx 0 c rfl;obtain⟨vy,cy,my,ad,ae⟩:=hy 0 e rfl;have af:∀(j:Nat)tv,cs[j]?=some tv->∃v c m,Y[n+1+j]?=some v/\Rd c m tv v:=λj tv hj=>by
    rw[show n+1+j=n+(j+1) by omega];exact hx (j+1) tv (by simpa using hj)
   have ah:∀(j:Nat)tv,ds[j]?=some tv->∃v c m,ys[n+1+j]?=some v/\Rd c m tv v:=λj tv hj=>by
    rw[show n+1+j=n+(j+1) by omega];exact hy (j+1) tv (by simpa using hj)
   have ih:=λD q' hq=>U7 hC Y ys d fs gs (n+1) cs ds q' hp D af ah hq;have u:∀(zs:Array Value)(v:Value)(dd:TypeDesc),P.underlying f.type=some dd->qB P f.type=false->zs[n]?=some v->(part f.type zs f.offset).run P w=.ok v w:=λzs v dd A ai hz=>by
    simp[part,BP A,ai,F,hz]
   split at D
   ·rename_i k k1 a k2 b J;cases S:decide (k1=k)<;>rw[S] at D<;>simp only[cP,cR] at D
    ·simp at D
    cases U:decide (k2=k)<;>rw[U] at D<;>simp only[cP,cR] at D
    ·simp at D
    have S:=fG S;have U:=fG U;subst S;subst U;have A:=Wi (hC.ty f.type) J;have M:=ab.kz;have N:=ae.kz;subst M;subst N;obtain⟨q',Q,rfl⟩:=agE h;simp only[Op.eqFields,cM I,rJ,u Y _ _ A (by simp[qB,A]) aa,u ys _ _ A (by simp[qB,A]) ad,Result.andThen];rw[show(Op.equalIn (d+1) f.type (.int k2 a) (.int k2 b)).run P w=.ok (a==b) w by simp[Op.equalIn,lx A]];have:=ih D q' Q;simp only[cp]
    by_cases H:a=b
    ·simp[H,this]
    ·simp[H]
   ·rename_i a b J;have A:=u9 (hC.ty f.type) J;have M:=ab.nT;have N:=ae.nT;subst M;subst N;obtain⟨q',Q,rfl⟩:=agF h;simp only[Op.eqFields,cM I,rJ,u Y _ _ A (by simp[qB,A]) aa,u ys _ _ A (by simp[qB,A]) ad,Result.andThen];rw[run_equalIn_string w d f.type _ _ A];have:=ih D q' Q;simp only[JB,dz]
    by_cases H:a=b
    ·simp[H,this]
    ·simp[H]
   ·rename_i a b J;have A:=U4 (hC.ty f.type) J;have M:=ab.pE;have N:=ae.pE;subst M;subst N;obtain⟨q',Q,rfl⟩:=agG h;simp only[Op.eqFields,cM I,rJ,u Y _ _ A (by simp[qB,A]) aa,u ys _ _ A (by simp[qB,A]) ad,Result.andThen];rw[aiZ w d f.type _ _ A];have:=ih D q' Q;simp only[ju]
    by_cases H:a=b
    ·simp[H,this]
    ·simp[H]
   ·simp at D
def GY(P:Program)(C:Cx)(t:TypeId)(y:Operand):Bool:=
 match C.dj t with
 |.st _ _ _=>!P.stoodInHeld t&&!P.eqGuardType P.depth t
 |.sL=>match y with|.const _=>true|_=>false
 |_=>true
def Z1(d:Nat){e:Array (String×TypeId)}{j:TypeId}{v:Value}(h:P.underlying t=some (.interface e)):(Op.equalIn (d+1) t (.iface j v) .nilIface).run P w=.ok false w:=by simp[Op.equalIn,lx h]
def Z2(d:Nat){e:Array (String×TypeId)}(h:P.underlying t=some (.interface e)):(Op.equalIn (d+1) t .nilIface .nilIface).run P w=.ok true w:=by simp[Op.equalIn,lx h]
def afG(hC:ga P C){vx vy:Value}{H ty:TV}{c:Rc}{m m':Option Gp}(hx:Rd c m H vx)(I:Rd c m' ty vy)(A:GY P C t y=true)(F:G8 C (C.dj t) H ty=true)(e:Du op H ty K=some r):LG P w op t x y vx vy K r:=by
 unfold Du at e;split at e
 ·rename_i k a k' c';have D:=hx.kz;have J:=I.kz;subst D;subst J;cases Y:LD op with
  |true=>rw[Y] at e;exact Wj (.inl Y) e
  |false=>
   rw[Y,cR] at e;obtain⟨D,J⟩:=dY.1 e;exact Wj (.inr (fG D)) J
 ·rename_i a b;have D:=hx.nT;have J:=I.nT;subst D;subst J;have hg:(eqGuard op t x y (.string ⟨⟨a⟩⟩) (.string ⟨⟨b⟩⟩)).run P w=.ok () w:=by
   unfold eqGuard
   cases op<;>simp
  have go:∀v,(binOp op t (.string ⟨⟨a⟩⟩) (.string ⟨⟨b⟩⟩)).run P w=.ok v w->((do eqGuard op t x y (.string ⟨⟨a⟩⟩) (.string ⟨⟨b⟩⟩);binOp op t (.string ⟨⟨a⟩⟩) (.string ⟨⟨b⟩⟩)):Sem Value).run P w=.ok v w:=λv M=>by
   simp only[rJ,hg,Result.andThen,M]
  split at e
  ·obtain⟨z,hz,e⟩:=fa.1 e;unfold da at hz;split at hz
   ·simp at hz
   ·rename_i h0;simp only[di] at hz;subst hz;refine⟨_,_,e,go (.string ⟨⟨a++b⟩⟩) ?_,λ_ _=>.s _ _,rfl⟩;have Y:∀l:List UInt8,(ByteArray.mk ⟨l⟩).size=l.length:=λl=>rfl;have D:¬ ((((ByteArray.mk ⟨a⟩).size+(ByteArray.mk ⟨b⟩).size:Nat):Int)>IntKind.i64.max):=by simpa only[Y] using h0
    have aa:(ByteArray.mk ⟨a⟩++ByteArray.mk ⟨b⟩)=ByteArray.mk ⟨a++b⟩:=by
     apply ByteArray.ext
     simp
    simp only[binOp,Op.stringOp,cN D,aa];rfl
  ·exact nw e (go _ (by simp[binOp,Op.stringOp,JB,dz,Xz]))
  ·exact nw e (go _ (by simp[binOp,Op.stringOp,JB,dz,cF,bne,Xz]))
  ·exact nw e (go _ (by simp[binOp,Op.stringOp,JB,Qf]))
  ·simp at e
 ·rename_i a b;have D:=hx.pE;have J:=I.pE;subst D;subst J;have hb:C.dj t=.bool:=by
   cases N:C.dj t<;>rw[N] at F<;>first|rfl|(simp[G8,jA] at F)
  have Q:=U4 (hC.ty t) hb;have A:(Op.equal t (.bool a) (.bool b)).run P w=.ok (a==b) w:=aiZ w 9999 t a b Q;split at e
  ·exact nw e (by simp[eqGuard,binOp,A,ju];rfl)
  ·exact nw e (by simp[eqGuard,binOp,A,ju,cF];rfl)
  ·simp at e
 ·rename_i a;have hi:C.dj t=.sL:=by
   cases N:C.dj t<;>rw[N] at F<;>first|rfl|(simp[G8,jA] at F)
  obtain⟨ms,Q⟩:=afF (hC.ty t) hi;have af:vy=.nilIface:=by cases I;rfl
  subst af;have ah:∃v,y=.const v:=by
   simp only[GY,hi] at A
   split at A
   ·exact⟨_,rfl⟩
   ·simp at A
  obtain⟨v,rfl⟩:=ah;cases a with
  |true=>
   obtain⟨H,u,rfl⟩:∃H u,vx=.iface H u:=by cases hx;exact⟨_,_,rfl⟩
   have A:(Op.equal t (.iface H u) .nilIface).run P w=.ok false w:=Z1 9999 Q;split at e
   ·exact nw e (by simp[eqGuard,binOp,A,cF])
   ·exact nw e (by simp[eqGuard,binOp,A])
   ·simp at e
  |false=>
   obtain rfl:vx=.nilIface:=by cases hx;rfl
   have A:(Op.equal t .nilIface .nilIface).run P w=.ok true w:=Z2 9999 Q;split at e
   ·exact nw e (by simp[eqGuard,binOp,A,cF])
   ·exact nw e (by simp[eqGuard,binOp,A])
   ·simp at e
 ·rename_i cs ds;simp only[G8] at F;split at F
  ·rename_i t' m' fs ab;obtain⟨gs,Q,hp,_,_⟩:=Lc (hC.ty t) ab;simp only[GY,ab,dF,lO] at A;have ad:P.fieldsOf t=gs:=by simp[Program.fieldsOf,Q]
   cases hx with
   |agg _ _ S aj ak _ hx=>
   cases I with
   |agg _ _ U am an _ I=>
   have ae:∀q,jK cs ds=some q->(Op.equalIn 10000 t (.agg S) (.agg U)).run P w=.ok q w:=λq hq=>by
    rw[run_equalIn_struct w 9999 t S U (by rw[ad];exact Q) A.1,ad]
    refine U7 hC S U 9998 fs gs.toList 0 cs ds q hp F (λj tv hj=>?_) (λj tv hj=>?_) hq
    ·have ai:=(eT.1 hj).1;have M:S[j]?=some (S[j]'(by omega)):=jN _;exact⟨_,_,_,by rw[iB];exact M,hx j tv _ hj M⟩
    ·have ai:=(eT.1 hj).1;have M:U[j]?=some (U[j]'(by omega)):=jN _;exact⟨_,_,_,by rw[iB];exact M,I j tv _ hj M⟩
   split at e
   ·rename_i q hq;exact nw e (by simp only[rJ,run_eqGuard_agg w _ t x y S U A.2,Result.andThen,run_eql_struct,ae q hq])
   ·rename_i q hq;exact nw e (by simp only[rJ,run_eqGuard_agg w _ t x y S U A.2,Result.andThen,run_neq_struct,ae q hq,cF])
   ·simp at e
  ·simp at F
 ·simp at e
end
section
variable{P:Program}{C:Cx}{E:Env}{nt n:Nat}{o:Oper}{s i:TS}{g:Gs}{a:Act}{w:World}{R:Type}{r:R}{K:TS->Option R}{Z:Rt->Prop}{γ1:Nat->G}{tv:TV}{v:Value}
def Tz(hC:ga P C)(h:cQ C E s g w)(l:eE nt g a)(H:ij nt o.dst){op:BinOp}{t I:Nat}{x y:Operand}(D:o.op=.binOp op t x y I)(hx:fD nt x=true)(J:fD nt y=true)(M:GY P C t y=true)(F:Ev.step C o s K=some r):
  gW P C E nt o g a w K r Z:=by
 simp only[Ev.step,D] at F;obtain⟨N,Q⟩:=dY.1 F;have e:=iU h l hx;have j:=iU h l J;obtain⟨v,tv,u,S,A,U⟩:=afG (P:=P) (w:=w) (x:=x) (y:=y) hC e j M N Q;refine kx h l H (A _ none) U ?_ u;simp only[execOp,D];have:=S;simp only[rJ] at this⊢;rw[this];rfl
end
end
section
def qi{C:Cx}{E:Env}{s:TS}{g:Gs}{w:World}{p:Pl}{tv:TV}{v:Value}(h:cQ C E s g w)(j:(g.rc C w).va p=some v)(u:gn C s p=some tv):tv=.un\/Rd (g.rc C w) (some (gp p)) tv v:=by
 rcases tE h u with e|⟨D,e,x,_⟩
 ·exact .inl e
 ·rw[j] at e;cases e;exact .inr x
def rQ{P:Program}{e:Ty}{y:TypeId}(h:zU P e y=true):P.cellsOf y=cI e/\0<P.cellsOf y/\vB P y=true/\kr (Ev.enc false e (pV e)) (mA P y)=true/\Hd P e y=true:=by
 simp only[zU,dF,p9] at h;exact⟨h.1.1.1,by rw[h.1.1.1];exact JY e,h.1.1.2,h.1.2,h.2⟩
section
variable{P:Program}{C:Cx}{w:World}{t y:TypeId}
def Z0(u:P.underlying t=some (.slice y))(x:0<P.cellsOf y){b off e cap:Nat}{n:Int}{k:IntKind}(D:0<=n)(F:n<e):
  (Instr.indexAt t (.slice (some ⟨b,off,none⟩) e cap) (.int k n)).run P w=.ok (.pointer (some ⟨b,off+n.toNat*P.cellsOf y,none⟩)) w:=by
 have j:=wu (P:=P) (w:=w) x;simp[Instr.indexAt,asIntOf,lx u,D,F,j,IP]
def Ra{e:Nat}(u:P.underlying t=some (.array e y))(x:0<P.cellsOf y){b off:Nat}{n:Int}{k:IntKind}(D:0<=n)(F:n<e):
  (Instr.indexAt t (.pointer (some ⟨b,off,none⟩)) (.int k n)).run P w=.ok (.pointer (some ⟨b,off+n.toNat*P.cellsOf y,none⟩)) w:=by
 have j:=wu (P:=P) (w:=w) x;simp[Instr.indexAt,asIntOf,lx u,Instr.sureAddr,D,F,j,IP]
def zL{t:Ty}(h:Ev.gJ t=false)(d:Bool)(x:El t):∃tv,Ev.enc d t x=[tv]/\(∀c m,Rd c m tv (jW t x))/\dN tv=true/\gB tv=true/\(jW t x).oneCell'=true:=by
 cases t<;>simp[Ev.gJ] at h
 ·exact⟨_,rfl,λ_ _=>.b _ _,rfl,rfl,rfl⟩
 ·exact⟨_,rfl,λ_ _=>.i _ _ _,rfl,rfl,rfl⟩
 ·exact⟨_,rfl,λ_ _=>.s _ _,rfl,rfl,rfl⟩
def Rd.KK{c:Rc}{m:Option Gp}{t:Ty}{u:List (El t)}{x:El t}{b e n:Nat}{f:Nat->Nat->Value}(D:c.γ b=.im)(hx:u[n]?=some x)(F:∀(r:Nat)x(j:Nat)tv,u[r]?=some x->(enc false t x)[j]?=some tv->eK c.w b (e+r*cI t+j)=some (f r j)/\(f r j).oneCell'=true)(H:∀(r:Nat)x(j:Nat)tv,u[r]?=some x->(enc false t x)[j]?=some tv->Rd c none tv (f r j)):Rd c m (.ip (enc false t x) 0) (.pointer (some ⟨b,e+n*cI t,none⟩)):=.ip m _ 0 b _ (λj=>f n j) (zf false t x) D (λi tv hi=>F n x i tv hx hi) (λi tv hi=>H n x i tv hx hi)
end
section
variable{P:Program}{C:Cx}{E:Env}{nt n:Nat}{o:Oper}{s A:TS}{g:Gs}{a:Act}{w:World}{R:Type}{r:R}{K:TS->Option R}{Z:Rt->Prop}{γ1:Nat->G}{tv:TV}{v:Value}
def Rf(hC:ga P C)(h:cQ C E s g w)(l:eE nt g a)(hd:ij nt o.dst){t:Nat}{x i:Operand}(ho:o.op=.indexAddr t x i)(hx:fD nt x=true)(hi:fD nt i=true)(j:Ev.step C o s K=some r):gW P C E nt o g a w K r Z:=by
 simp only[Ev.step,ho] at j;obtain⟨J,j⟩:=dY.1 j;have H:=iU h l hx;have av:=iU h l hi;unfold uq at j;split at j
 ·rename_i k n ay;rw[ay] at av;have ao:=av.kz;have af:∀e sz gq,C.dj t=.sl e sz gq->∀{b off I cap:Nat}{p':TV},a.eval x=.slice (some ⟨b,off,none⟩) I cap->0<=n->n<I->(∃m,Rd (g.rc C w) m p' (.pointer (some ⟨b,off+n.toNat*cI e,none⟩)))->gB p'=true->K (eA C s o.dst p')=some r->gW P C E nt o g a w K r Z:=by
   intro e sz gq D b off I cap p' am Q h1 ⟨m,hr⟩ ha j
   obtain⟨y,hu,ai,_,_⟩:=vn (hC.ty t) D
   obtain⟨aj,ak,_⟩:=rQ ai
   refine kx h l hd hr ha ?_ j
   simp only[execOp,ho,am,ao]
   have:=Z0 (w:=w) (k:=k) (cap:=cap) (b:=b) (off:=off) hu ak Q h1
   rw[aj] at this
   simp[this]
  split at j
  ·rename_i p t1 M;rw[M] at H J;obtain⟨e,sz,gq,D⟩:∃e sz gq,C.dj t=.sl e sz gq:=by
    cases N:C.dj t<;>rw[N] at J<;>first|exact⟨_,_,_,rfl⟩|simp[jA] at J
   simp only[D,TI.X4] at j;obtain⟨tv,hg,j⟩:=py j;have ah:VO (g.rc C w) p/\(g.rc C w).va p=some (a.eval x):=by generalize iY x=m at H;cases H;exact⟨by assumption,by assumption⟩
   have S:=qi h ah.2 hg;split at j
   ·rename_i d t2 xs;obtain⟨U,j⟩:=dY.1 j;have U:=fG U;subst U;obtain⟨z,F,j⟩:=fa.1 j;obtain⟨Q,F⟩:=lQ.1 F;have ad:=(eT.1 F).1;rcases S with S|S
    ·simp at S
    rcases S.lT with⟨rfl,_⟩|⟨q,π,b,off,cap,cs,ee,fr,f,hm,hv,_⟩
    ·simp at F
    ·exact af _ _ _ D hv Q (by omega) ⟨none,by have:=Rd.ep (c:=g.rc C w) none p e n 0 b off xs.length cap ah.1 (by rw[ah.2,hv]) Q (by omega);simpa using this⟩ rfl j
   ·rename_i t2 xs r0 c0;obtain⟨U,j⟩:=dY.1 j;have U:=fG U;subst U;obtain⟨z,F,j⟩:=fa.1 j;obtain⟨Q,F⟩:=lQ.1 F;have ad:=(eT.1 F).1;rcases S with S|S
    ·simp at S
    obtain⟨q,π,b,off,cap,cs,ee,fr,f,hm,hv,_⟩:=S.Oz;exact af _ _ _ D hv Q (by omega) ⟨none,by have:=Rd.ep (c:=g.rc C w) none p e n 0 b off xs.length cap ah.1 (by rw[ah.2,hv]) Q (by omega);simpa using this⟩ rfl j
   ·rename_i t2 xs;obtain⟨U,j⟩:=dY.1 j;have U:=fG U;subst U;obtain⟨z,F,j⟩:=fa.1 j;obtain⟨Q,F⟩:=lQ.1 F;have ad:=(eT.1 F).1;rcases S with S|S
    ·simp at S
    rcases S.qZ with⟨rfl,_⟩|⟨b,off,cap,f,hv,_,Y,hc,hr⟩
    ·simp at F
    ·exact af _ _ _ D hv Q (by omega) ⟨none,Rd.KK Y F hc hr⟩ rfl j
   ·simp at j
  ·rename_i p t1 lo an M;rw[M] at H J;obtain⟨e,sz,gq,D⟩:∃e sz gq,C.dj t=.sl e sz gq:=by
    cases N:C.dj t<;>rw[N] at J<;>first|exact⟨_,_,_,rfl⟩|simp[jA] at J
   rw[D] at J;simp only[jA,dQ] at J;subst J;obtain⟨tv,hg,j⟩:=py j;obtain⟨aa,I,cap,a',ae,ah,am,aw,h1,h2,h3,h4,h5,h6⟩:∃aa I cap a' ae,VO (g.rc C w) p/\(g.rc C w).va p=some (.slice aa I cap)/\a.eval x=.slice a' (an.toNat-lo.toNat) ae/\0<=lo/\lo<=an/\an<=(I:Int)/\
     (ae=0\/∃b o,aa=some ⟨b,o,none⟩/\a'=some ⟨b,o+lo.toNat*cI e,none⟩)/\an.toNat-lo.toNat<=ae/\ae+lo.toNat<=cap:=by
    generalize iY x=m at H
    generalize a.eval x=u at H
    cases H;exact⟨_,_,_,_,_,by assumption,by assumption,rfl,by assumption,by assumption,by assumption,by assumption,by assumption,by assumption⟩
   have S:=qi h am hg;split at j
   ·rename_i d t2 xs;obtain⟨U,ap⟩:=dY.1 j;have U:=fG U;clear j;subst U;obtain⟨ys,aq,j⟩:=fa.1 ap;obtain⟨⟨_,_,h9⟩,rfl⟩:=tj.1 aq;obtain⟨z,F,j⟩:=fa.1 j;obtain⟨Q,F⟩:=lQ.1 F;have ad:=(eT.1 F).1;simp only[kI,nn] at ad;rcases h4 with h4|⟨b,off,rfl,rfl⟩
    ·omega
    refine af _ _ _ D aw Q (by omega) ⟨none,?_⟩ rfl j;have:=Rd.ep (c:=g.rc C w) none p t2 (lo+n) 0 b off I cap ah am (by omega) (by omega);rw[show(lo+n).toNat=lo.toNat+n.toNat by omega,jO] at this;simpa[pI,o6] using this
   ·rename_i t2 xs;obtain⟨U,ap⟩:=dY.1 j;have U:=fG U;clear j;subst U;obtain⟨ys,aq,j⟩:=fa.1 ap;obtain⟨⟨_,_,h9⟩,rfl⟩:=tj.1 aq;obtain⟨z,F,j⟩:=fa.1 j;obtain⟨Q,F⟩:=lQ.1 F;have ad:=(eT.1 F).1;simp only[kI,nn] at ad;rcases h4 with h4|⟨b,off,rfl,rfl⟩
    ·omega
    rcases S with S|S
    ·simp at S
    rcases S.qZ with⟨rfl,_⟩|⟨b',aF,aG,f,hv,_,Y,hc,hr⟩
    ·simp at F
    ·simp only[kH,di,mS,jB] at hv;obtain⟨⟨rfl,rfl⟩,rfl,rfl⟩:=hv;have az:xs[lo.toNat+n.toNat]?=some z:=by
      rw[o5] at F
      split at F
      ·rwa[vW] at F
      ·simp at F
     refine af _ _ _ D aw Q (by omega) ⟨none,?_⟩ rfl j;have:=Rd.KK (m:=none) Y az hc hr;rwa[jO,<-o6] at this
   ·simp at j
  ·rename_i t2 xs M;rw[M] at H J;obtain⟨e,sz,gq,D⟩:∃e sz gq,C.dj t=.sl e sz gq:=by
    cases N:C.dj t<;>rw[N] at J<;>first|exact⟨_,_,_,rfl⟩|simp[jA] at J
   rw[D] at J;simp only[jA,dQ] at J;subst J;obtain⟨z,F,j⟩:=fa.1 j;obtain⟨Q,F⟩:=lQ.1 F;have ad:=(eT.1 F).1;rcases H.qZ with⟨rfl,_⟩|⟨b,off,cap,f,hv,_,Y,hc,hr⟩
   ·simp at F
   ·exact af _ _ _ D hv Q (by omega) ⟨none,Rd.KK Y F hc hr⟩ rfl j
  ·rename_i t2 xs M;rw[M] at H J;obtain⟨e,sz,gq,D⟩:∃e sz gq,C.dj t=.sl e sz gq:=by
    cases N:C.dj t<;>rw[N] at J<;>first|exact⟨_,_,_,rfl⟩|simp[jA] at J
   rw[D] at J;simp only[jA,dQ] at J;subst J;obtain⟨z,F,j⟩:=fa.1 j;obtain⟨Q,F⟩:=lQ.1 F;have ad:=(eT.1 F).1;rcases H.J0 with⟨rfl,_⟩|⟨b,off,f,hv,Y,hc,hr⟩
   ·simp at F
   ·exact af _ _ _ D hv Q (by omega) ⟨none,Rd.KK Y F hc hr⟩ rfl j
  ·rename_i k1 c1 M;rw[M] at H J;obtain⟨I,e,D⟩:∃I e,C.dj t=.ar I e:=by
    cases N:C.dj t<;>rw[N] at J<;>first|exact⟨_,_,rfl⟩|simp[jA] at J
   obtain⟨y,hu,ai,h1,_,_,_⟩:=GK (hC.ty t) D;obtain⟨aj,ak,_⟩:=rQ ai;split at j
   ·rename_i t2 xs hb;obtain⟨_,j⟩:=dY.1 j;obtain⟨au,j⟩:=dY.1 j;have au:=gU au;subst au;obtain⟨_,ab,j⟩:=fa.1 j;have ab:=mr.1 ab;simp only[cC,D,TI.len,dQ] at ab;obtain⟨z,F,j⟩:=fa.1 j;obtain⟨Q,_⟩:=lQ.1 F;have hv:a.eval x=.pointer (some ⟨g.bx k1,0,none⟩):=by generalize iY x=m at H;generalize a.eval x=u at H;cases H;rfl
    refine kx h l hd (Rd.pe none k1 n Q) rfl ?_ j;have:=Ra (P:=P) (w:=w) (k:=k) (b:=g.bx k1) (off:=0) hu ak Q ab;rw[aj,h1] at this;simp only[execOp,ho,hv,ao];simp at this;simp[this,Gs.rc]
   ·simp at j
  ·rename_i t2 xs M;rw[M] at H J;obtain⟨I,e,D⟩:∃I e,C.dj t=.ar I e:=by
    cases N:C.dj t<;>rw[N] at J<;>first|exact⟨_,_,rfl⟩|simp[jA] at J
   obtain⟨y,hu,ai,h1,_,_,_⟩:=GK (hC.ty t) D;obtain⟨aj,ak,_⟩:=rQ ai;obtain⟨_,ab,j⟩:=fa.1 j;have ab:=mr.1 ab;simp only[cC,D,TI.len,dQ] at ab;obtain⟨z,F,j⟩:=fa.1 j;obtain⟨Q,F⟩:=lQ.1 F;obtain⟨b,off,hv,Y,aA,aB⟩:∃b off,a.eval x=.pointer (some ⟨b,off,none⟩)/\(g.rc C w).γ b=.im/\Ev.gJ t2=false/\(∀(r:Nat)x,xs[r]?=some x->eK (g.rc C w).w b (off+r)=some (jW t2 x)):=by
    generalize iY x=m at H
    generalize a.eval x=u at H
    cases H;exact⟨_,_,rfl,by assumption,by assumption,by assumption⟩
   obtain⟨tv,ax,aC,aH,_,aD⟩:=zL aA false z;refine kx h l hd (Rd.ip none (enc false t2 z) 0 b (off+n.toNat) (λ_=>jW t2 z) (zf false t2 z) Y (λi aE hi=>?_) (λi aE hi=>?_)) rfl ?_ j
   ·rw[ax] at hi;cases i with
    |zero=>exact⟨aB _ _ F,aD⟩
    |succ i=>simp at hi
   ·rw[ax] at hi;cases i with
    |zero=>simp at hi;subst hi;exact aC _ _
    |succ i=>simp at hi
   ·have:=Ra (P:=P) (w:=w) (k:=k) (b:=b) (off:=off) hu ak Q ab;rw[aj,h1] at this;simp only[execOp,ho,hv,ao];simp at this;simp[this]
  ·simp at j
 ·simp at j
end
end
section
section
variable{P:Program}{C:Cx}{w:World}{t:TypeId}
def QE(hC:ga P C)(x:(C.dj t).var=true){b e:Nat}{vs:List Value}(A:vs.length=(C.dj t).sz)(F:∀(j:Nat)v,vs[j]?=some v->eK w b (e+j)=some v):
  (loadVar t ⟨b,e,none⟩).run P w=.ok (if(C.dj t).ag=true then .agg vs.toArray else vs[0]?.getD undef) w:=by
 obtain⟨J,N,H,⟨d,I⟩,_⟩:=qm (hC.ty t) x;have u:∀j,(⟨b,e,none⟩:Addr).add j=⟨b,e+j,none⟩:=λj=>by unfold Addr.add;split<;>simp_all
 cases D:(C.dj t).ag with
 |true=>
  have:=ai2 (P:=P) w ⟨b,e,none⟩ vs (λj v x=>by rw[u];exact F j v x);rw[A,<-J] at this;simp[loadVar,BP I,H,D,wu (P:=P) (w:=w) (t:=t) (by omega),this]
 |false=>
  have M:=Lb _ D;rw[M] at A
  match vs,A with
  |[v],_=>
   have:=F 0 v rfl;simp at this;simp[loadVar,BP I,H,D,this]
def Rd.sx{c:Rc}{ag:Bool}{e:List TV}{vs:List Value}(x:vs.length=e.length)(F:ag=false->e.length=1)(H:∀tv∈e,kF tv=true)(I:∀v∈vs,v.oneCell'=true)
  (A:∀(j:Nat)tv v,e[j]?=some tv->vs[j]?=some v->∀m,Rd c m tv v)(m:Option Gp):Rd c m (Ev.sx ag e) (if ag=true then .agg vs.toArray else vs[0]?.getD undef):=by
 cases ag with
 |true=>
  simp only[Ev.sx,cP,gE];refine .agg _ _ _ H (by simpa using x) (λj tv v D u=>?_) (λj tv v D u=>?_)
  ·exact I v (aiU (by simpa using u))
  ·exact A j tv v D (by simpa using u) _
 |false=>
  have:=F rfl
  match e,vs,this,x with
  |[tv],[v],_,_=>exact A 0 tv v rfl rfl m
def EX(f:Nat->Pl):∀(e:List TV)(j i:Nat),(sw f j e)[i]?=(e[i]?).map (Ev.viewAt (f (j+i)))
 |[],_,_=>by simp[sw]
 |c::e,j,0=>by simp[sw]
 |c::e,j,i+1=>by
  simp only[sw,Zm];rw[EX f e j.succ i,show j.succ+i=j+(i+1) by omega]
def EY(f:Nat->Pl):∀(e:List TV)(j:Nat),(sw f j e).length=e.length
 |[],_=>rfl
 |c::e,j=>by simp[sw,EY f e]
def RT{p:Pl}{tv:TV}(h:jQ tv=true):kF (Ev.viewAt p tv)=true:=by
 cases tv<;>simp_all [jQ,Ev.viewAt,kF,fO,dN]
def St{c:Rc}{m:Option Gp}{p:Pl}{tv:TV}{v:Value}(h:Rd c m tv v)(x:jQ tv=true)(e:VO c p)(j:c.va p=some v)(u:Option Gp):Rd c u (Ev.viewAt p tv) v:=by
 cases tv<;>first
  |exact .vw _ _ _ _ e j
  |(exact h.anyM rfl u)
  |(simp[jQ,fO,dN] at x)
def rO{tv:TV}(h:dN tv=true):jQ tv=true:=by simp[jQ,fO,h]
def B7{tv:TV}(h:dN tv=true):kF tv=true:=by simp[kF,fO,h]
def pq{e:Type}{l:List e}{c n j:Nat}{x:e}(h:((l.drop c).take n)[j]?=some x):l[c+j]?=some x/\j<n:=by
 rw[o5] at h;split at h
 ·rw[vW] at h;exact⟨h,by assumption⟩
 ·simp at h
end
section
variable{P:Program}{C:Cx}{E:Env}{nt n:Nat}{o:Oper}{s y:TS}{g:Gs}{a:Act}{w:World}{R:Type}{r:R}{K:TS->Option R}{Z:Rt->Prop}{γ1:Nat->G}{tv:TV}{v:Value}
def afH(hC:ga P C)(h:cQ C E s g w){t:Nat}(ad:(C.dj t).var=true){p:TV}{u:Value}{m:Option Gp}{K:TV->Option R}(hp:Rd (g.rc C w) m p u)(D:uo C s (C.dj t).sz (C.dj t).ag p K=some r):
  ∃b F v tv,u=.pointer (some ⟨b,F,none⟩)/\K tv=some r/\(loadVar t ⟨b,F,none⟩).run P w=.ok v w/\∀m,Rd (g.rc C w) m tv v:=by
 have aL:=(qm (hC.ty t) ad).2.1;have ae:∀{b F:Nat}{cs:List TV}{vs:List Value},cs.length=(C.dj t).sz->vs.length=cs.length->(∀tv∈cs,kF tv=true)->(∀v∈vs,v.oneCell'=true)->(∀(j:Nat)tv v,cs[j]?=some tv->vs[j]?=some v->∀m,Rd (g.rc C w) m tv v)->
   (∀(j:Nat)v,vs[j]?=some v->eK w b (F+j)=some v)->K (Ev.sx (C.dj t).ag cs)=some r->u=.pointer (some ⟨b,F,none⟩)->
   ∃b F v tv,u=.pointer (some ⟨b,F,none⟩)/\K tv=some r/\(loadVar t ⟨b,F,none⟩).run P w=.ok v w/\∀m,Rd (g.rc C w) m tv v:=λM ax hT ho hr hc D hu=>
  ⟨_,_,_,_,hu,D,QE hC ad (by rw[ax,M]) hc,λm=>Rd.sx ax (λha=>by rw[M];exact Lb _ ha) hT ho hr m⟩
 have ay:∀{b F:Nat}{t':Ty}{U:List (El t')},Ev.gJ t'=false->(C.dj t).ag=true->(U.length:Int)=(C.dj t).sz->(∀(j:Nat)x,U[j]?=some x->eK w b (F+j)=some (jW t' x))->K (.vec t' U)=some r->u=.pointer (some ⟨b,F,none⟩)->
   ∃b F v tv,u=.pointer (some ⟨b,F,none⟩)/\K tv=some r/\(loadVar t ⟨b,F,none⟩).run P w=.ok v w/\∀m,Rd (g.rc C w) m tv v:=λ{b F t' U}Y ha M hc D hu=>by
  refine⟨_,_,_,_,hu,D,QE hC ad (vs:=U.map (jW t')) (by simp;omega) (λj v A=>?_),λm=>?_⟩
  ·rw[iA] at A;cases hx:U[j]? with
   |none=>simp[hx] at A
   |some x=>simp only[hx,jx,di] at A;subst A;exact hc j x hx
  ·rw[cM ha];exact .vec _ _ _ Y
 unfold uo at D;split at D
 ·rename_i k c;have hu:u=.pointer (some ⟨g.bx k,c,none⟩):=by cases hp;rfl
  have aa:=h.boxes k;split at D
  ·rename_i cs hb;obtain⟨I,D⟩:=dY.1 D;have I:=uS.1 I;rw[hb] at aa;obtain⟨vs,e,fr,hh,aj,hg,M,hT,hr⟩:=aa;have af:w.heap[g.bx k]?=some (.cells vs e fr):=hh;have ah:∀j v,vs[j]?=some v->eK w (g.bx k) j=some v:=λj v A=>by simp[eK,World.cell?,af,A]
   rw[zp,zq] at D;refine ae (cs:=sw (λj=>.cell k (Nat.add c j)) 0 ((cs.drop c).take (C.dj t).sz)) (vs:=(vs.toList.drop c).take (C.dj t).sz) ?_ ?_ ?_ ?_ ?_ ?_ D hu
   ·rw[EY];simp;omega
   ·rw[EY];simp;omega
   ·intro tv N;obtain⟨i,hi⟩:=qR N;rw[EX] at hi;simp only[yj] at hi;obtain⟨ai,hi,rfl⟩:=hi;exact RT (hT ai (fh (pq hi).1))
   ·intro v H;obtain⟨i,hi⟩:=qR H;have:=(pq hi).1;have ak:c+i<cs.length:=by have:=(eT.1 this).1;simp at this;omega
    exact(hr (c+i) _ v (eN ak) (by simpa using this)).1
   ·intro j tv v A H m;rw[EX] at A;simp only[yj] at A;obtain⟨ai,A,rfl⟩:=A;have h1:=(pq A).1;have h2:vs[c+j]?=some v:=by simpa using(pq H).1
    refine St (p:=.cell k (Nat.add c (0+j))) (hr _ _ _ h1 h2).2 (hT _ (fh h1)) hg ?_ m;simp only[Gs.rc,va,iB];exact ah _ _ h2
   ·intro j v A;exact ah _ _ (by simpa using(pq A).1)
  ·rename_i t' U hb;obtain⟨ha,D⟩:=dY.1 D;obtain⟨am,D⟩:=dY.1 D;have am:=gU am;subst am;obtain⟨_,ab,D⟩:=fa.1 D;have ab:(U.length:Int)=(C.dj t).sz:=fG (mr.1 ab);rw[hb] at aa;obtain⟨vs,e,fr,hh,aj,hg,Y,M⟩:=aa;have af:w.heap[g.bx k]?=some (.cells vs e fr):=hh;refine ay Y ha ab (λj x A=>?_) D hu;have:vs[j]?=some (jW t' x):=by rw[<-l7,M,iA,A];rfl
   simp[eK,World.cell?,af,this]
  ·simp at D
 ·rename_i k i;have aa:=h.boxes k;split at D
  ·rename_i t' U hb;obtain⟨x,hx,D⟩:=fa.1 D;obtain⟨h0,hx⟩:=lQ.1 hx;have hu:u=.pointer (some ⟨g.bx k,i.toNat,none⟩):=by cases hp;rfl
   cases ha:(C.dj t).ag with
   |true=>rw[ha] at D;simp at D
   |false=>
    rw[ha,cR] at D;rw[hb] at aa;obtain⟨vs,e,fr,hh,aj,hg,Y,M⟩:=aa;have af:w.heap[g.bx k]?=some (.cells vs e fr):=hh;obtain⟨tv,N,aD,an,_,aE⟩:=zL Y false x;have H:vs[i.toNat]?=some (jW t' x):=by rw[<-l7,M,iA,hx];rfl
    refine ae (cs:=[tv]) (vs:=[jW t' x]) (by simp[Lb _ ha]) rfl (by simp[B7 an]) (by simp[aE]) (λj ai v A H=>?_) (λj v A=>?_) (by rw[N] at D;simpa[ha,Ev.sx] using D) hu
    ·cases j with
     |zero=>simp at A H;subst A;subst H;exactλm=>aD _ m
     |succ j=>simp at A
    ·cases j with
     |zero=>simp at A;subst A;simp[eK,World.cell?,af,H]
     |succ j=>simp at A
  ·simp at D
 ·rename_i p t0 i c;obtain⟨tv,hg,D⟩:=py D;obtain⟨b,o,ao,ap,aF,aq,h0,ak,hu⟩:∃b o ao ap,VO (g.rc C w) p/\(g.rc C w).va p=some (.slice (some ⟨b,o,none⟩) ao ap)/\0<=i/\i<(ao:Int)/\u=.pointer (some ⟨b,o+i.toNat*cI t0+c,none⟩):=by
   cases hp;exact⟨_,_,_,_,by assumption,by assumption,by assumption,by assumption,rfl⟩
  have M:=qi h aq hg;split at D
  ·rename_i d t' U;obtain⟨ht,au⟩:=dY.1 D;have ht:=fG ht;clear D;subst ht;obtain⟨x,hx,D⟩:=fa.1 au;obtain⟨_,hx⟩:=lQ.1 hx;obtain⟨I,D⟩:=dY.1 D;have I:=uS.1 I;rw[zp,zq] at D;rcases M with M|M
   ·simp at M
   rcases M.lT with⟨rfl,_⟩|⟨q,π,b',o',az,cs,e,fr,f,hm,H,aG,av,hh,aj,hs,hc,hr⟩
   ·simp at hx
   simp only[kH,di,mS,jB] at H;obtain⟨⟨rfl,rfl⟩,rfl,rfl⟩:=H;have aA:=iu d t' x;refine ae (cs:=sw (λj=>.sub p t' i (Nat.add c j)) 0 (((enc d t' x).drop c).take (C.dj t).sz)) (vs:=(List.range (C.dj t).sz).map λj=>f i.toNat (c+j)) ?_ ?_ ?_ ?_ ?_ ?_ D hu
   ·rw[EY];simp;omega
   ·rw[EY];simp;omega
   ·intro tv N;obtain⟨j,A⟩:=qR N;rw[EX] at A;simp only[yj] at A;obtain⟨ai,A,rfl⟩:=A;exact RT (rO (gj (pq A).1))
   ·intro v H;simp only[ik,yk] at H;obtain⟨j,A,rfl⟩:=H;exact(hc _ x (c+j) _ hx (eN (by omega))).2
   ·intro j tv v A H m;rw[EX] at A;simp only[yj] at A;obtain⟨ai,A,rfl⟩:=A;obtain⟨h1,h2⟩:=pq A;rw[iA,Az h2] at H;simp only[jx,di] at H;subst H;have aH:=hc _ x (c+j) _ hx h1;have aB:c+j<cI t':=by have:=(eT.1 h1).1;rwa[aA] at this
    refine St (p:=.sub p t' i (Nat.add c (0+j))) (hr _ x (c+j) _ hx h1) (rO (gj h1)) ⟨aF,λb2 o2 aJ aK aw=>?_⟩ ?_ m
    ·rw[aq] at aw;simp only[di,kH,mS,jB] at aw;obtain⟨⟨rfl,_⟩,_⟩:=aw;simp only[di] at hm;rw[hm];exact .inr av
    ·have aC:va C.vs g.tm g.bx w p=some (.slice (some ⟨b,o,none⟩) U.length ap):=aq;simp only[Gs.rc,va,aC];rw[cM ⟨h0,ak,by simpa using aB⟩];have:=aH.1;simp only[iB];exact this
   ·intro j v A;rw[iA] at A;cases J:(List.range (C.dj t).sz)[j]? with
    |none=>simp[J] at A
    |some j'=>
     obtain⟨Q,S⟩:=eT.1 J;simp at Q S;subst S;rw[J] at A;simp only[jx,di] at A;subst A;have:=(hc _ x (c+j) _ hx (eN (by omega))).1;rw[o6];exact this
  ·rename_i t' U;obtain⟨ht,au⟩:=dY.1 D;have ht:=fG ht;clear D;subst ht;obtain⟨x,hx,D⟩:=fa.1 au;obtain⟨_,hx⟩:=lQ.1 hx;obtain⟨I,D⟩:=dY.1 D;have I:=uS.1 I;rw[zp,zq] at D;rcases M with M|M
   ·simp at M
   rcases M.qZ with⟨rfl,_⟩|⟨b',o',az,f,H,aG,av,hc,hr⟩
   ·simp at hx
   simp only[kH,di,mS,jB] at H;obtain⟨⟨rfl,rfl⟩,rfl,rfl⟩:=H;have aA:=iu false t' x;refine ae (cs:=((enc false t' x).drop c).take (C.dj t).sz) (vs:=(List.range (C.dj t).sz).map λj=>f i.toNat (c+j)) ?_ ?_ ?_ ?_ ?_ ?_ D hu
   ·simp;omega
   ·simp;omega
   ·intro tv N;obtain⟨j,A⟩:=qR N;exact B7 (gj (pq A).1)
   ·intro v H;simp only[ik,yk] at H;obtain⟨j,A,rfl⟩:=H;exact(hc _ x (c+j) _ hx (eN (by omega))).2
   ·intro j tv v A H m;obtain⟨h1,h2⟩:=pq A;rw[iA,Az h2] at H;simp only[jx,di] at H;subst H;exact(hr _ x (c+j) _ hx h1).lift m
   ·intro j v A;rw[iA] at A;cases J:(List.range (C.dj t).sz)[j]? with
    |none=>simp[J] at A
    |some j'=>
     obtain⟨Q,S⟩:=eT.1 J;simp at Q S;subst S;rw[J] at A;simp only[jx,di] at A;subst A;have:=(hc _ x (c+j) _ hx (eN (by omega))).1;rw[o6];exact this
  ·simp at D
 ·rename_i cs c;obtain⟨I,D⟩:=dY.1 D;have I:=uS.1 I;rw[zp,zq] at D;obtain⟨b,o,f,hu,an,av,hc,hr⟩:∃b o,∃f:Nat->Value,u=.pointer (some ⟨b,o+c,none⟩)/\(∀tv∈cs,dN tv=true)/\(g.rc C w).γ b=.im/\(∀(i:Nat)tv,cs[i]?=some tv->eK (g.rc C w).w b (o+i)=some (f i)/\(f i).oneCell'=true)/\(∀(i:Nat)tv,cs[i]?=some tv->Rd (g.rc C w) none tv (f i)):=by
   cases hp with
   |ip _ _ _ b o f h1 h2 h3 h4=>exact⟨b,o,f,rfl,h1,h2,h3,h4⟩
  refine ae (cs:=(cs.drop c).take (C.dj t).sz) (vs:=(List.range (C.dj t).sz).map λj=>f (c+j)) ?_ ?_ ?_ ?_ ?_ ?_ D hu
  ·simp;omega
  ·simp;omega
  ·intro tv N;obtain⟨j,A⟩:=qR N;exact B7 (an tv (fh (pq A).1))
  ·intro v H;simp only[ik,yk] at H;obtain⟨j,A,rfl⟩:=H;exact(hc (c+j) _ (eN (by omega))).2
  ·intro j tv v A H m;obtain⟨h1,h2⟩:=pq A;rw[iA,Az h2] at H;simp only[jx,di] at H;subst H;exact(hr (c+j) _ h1).lift m
  ·intro j v A;rw[iA] at A;cases J:(List.range (C.dj t).sz)[j]? with
   |none=>simp[J] at A
   |some j'=>
    obtain⟨Q,S⟩:=eT.1 J;simp at Q S;subst S;rw[J] at A;simp only[jx,di] at A;subst A;have:=(hc (c+j) _ (eN (by omega))).1;rw[o6];exact this
 ·rename_i t' U;obtain⟨ha,D⟩:=dY.1 D;obtain⟨_,ab,D⟩:=fa.1 D;have ab:(U.length:Int)=(C.dj t).sz:=fG (mr.1 ab);obtain⟨b,F,H,aM,Y,aI⟩:∃b F,u=.pointer (some ⟨b,F,none⟩)/\(g.rc C w).γ b=.im/\Ev.gJ t'=false/\(∀(r:Nat)x,U[r]?=some x->eK (g.rc C w).w b (F+r)=some (jW t' x)):=by
   cases hp;exact⟨_,_,rfl,by assumption,by assumption,by assumption⟩
  exact ay Y ha ab aI D H
 ·simp at D
def U8(hC:ga P C)(h:cQ C E s g w)(l:eE nt g a)(F:ij nt o.dst){t:Nat}{x:Operand}(D:o.op=.load t x)(hx:fD nt x=true)(j:Ev.step C o s K=some r):gW P C E nt o g a w K r Z:=by
 simp only[Ev.step,D] at j;obtain⟨e,j⟩:=dY.1 j;obtain⟨b,H,v,tv,I,u,J,A⟩:=afH (P:=P) hC h e (iU h l hx) j;exact q6 (n:=0) (γ1:=g.γ) h (.refl _) h.cL.new l F (A _) (by simp[execOp,D,Instr.loadAt,I,Instr.sureAddr,J]) u
end
end
section
section
variable{P:Program}{C:Cx}{E:Env}{nt n:Nat}{o:Oper}{s A:TS}{g:Gs}{a:Act}{w:World}{R:Type}{r:R}{K:TS->Option R}{Z:Rt->Prop}{γ1:Nat->G}{tv:TV}{v:Value}
def aeh{ft:Nat}(hC:ga P C)(x:(C.dj ft).var=true){j:Array Value}{e:Nat}{u:Value}(y:(C.dj ft).ag=false)(D:j[e]?=some u):(part ft j e).run P w=.ok u w:=by
 obtain⟨I,J,F,⟨d,H⟩,_⟩:=qm (hC.ty ft) x;simp[part,BP H,F,y,D]
def TA(hC:ga P C)(h:cQ C E s g w)(l:eE nt g a)(hd:ij nt o.dst){t:Nat}{x i:Operand}(ho:o.op=.index t x i)(hx:fD nt x=true)(hi:fD nt i=true)(j:Ev.step C o s K=some r):gW P C E nt o g a w K r Z:=by
 simp only[Ev.step,ho] at j;obtain⟨ht,j⟩:=dY.1 j;have y:=iU h l hx;have D:=iU h l hi;split at j
 ·rename_i b k n h1 h2;rw[h1] at y ht;rw[h2] at D;have I:=y.nT;have J:=D.kz;have af:C.dj t=.str:=by cases M:C.dj t<;>rw[M] at ht<;>first|rfl|(simp[jA] at ht)
  have hu:=u9 (hC.ty t) af;obtain⟨c,N,j⟩:=fa.1 j;unfold iG at N;split at N
  ·rename_i h0;simp only[yj] at N;obtain⟨c,N,rfl⟩:=N;obtain⟨ah,ai⟩:=eT.1 N;have ab:(ByteArray.mk ⟨b⟩)[n.toNat]?=some c:=by
    have F:n.toNat<(ByteArray.mk ⟨b⟩).size:=ah
    rw[getElem?_pos (ByteArray.mk ⟨b⟩) n.toNat F,<-ai]
    rfl
   exact kx h l hd (.i none _ _) rfl (by simp[execOp,ho,I,J,Instr.index,asIntOf,lx hu,h0,ab]) j
  ·simp at N
 ·rename_i H xs k n h1 h2;rw[h1] at y ht;rw[h2] at D;have J:=D.kz;obtain⟨Q,e,ad⟩:∃Q e,C.dj t=.ar Q e:=by
   cases M:C.dj t<;>rw[M] at ht<;>first|exact⟨_,_,rfl⟩|simp[jA] at ht
  obtain⟨et,hu,S,h3,aj,_,_⟩:=GK (hC.ty t) ad;obtain⟨ak,am,_⟩:=rQ S;obtain⟨_,U,j⟩:=fa.1 j;have U:n<(Q:Int):=by have:=fG (mr.1 U);rwa[ad] at this
  obtain⟨z,hz,j⟩:=fa.1 j;obtain⟨h0,hz⟩:=lQ.1 hz;cases ha:Ev.gJ H with
  |true=>rw[ha] at j;simp at j
  |false=>
   rw[ha,cR] at j;obtain⟨tv,an,ao,ap,ae,aq⟩:=zL ha false z;have I:a.eval x=.agg (xs.map (jW H)).toArray:=by generalize iY x=m at y;generalize a.eval x=u at y;cases y;rfl
   have hv:(xs.map (jW H)).toArray[n.toNat]?=some (jW H z):=by simp[hz]
   have F:=wu (P:=P) (w:=w) am;rw[ak,h3] at F;rw[an] at j;have Y:(part et (xs.map (jW H)).toArray n.toNat).run P w=.ok (jW H z) w:=by
    have aa:∃d,P.underlying et=some d:=by
     simp only[zU,dF] at S
     have:=S.2
     unfold Hd at this
     split at this<;>first|exact⟨_,by assumption⟩|simp at this
    obtain⟨d,aa⟩:=aa
    have au:(Array.map (jW H) xs.toArray)[n.toNat]?=some (jW H z):=by simpa using hv
    simp[part,BP aa,aj,hz]
   refine kx h l hd (ao _ none) ae ?_ j;simp only[execOp,ho,I,J];simp[Instr.index,asIntOf,lx hu,h0,U,F];rw[Y];rfl
 ·simp at j
def Wk(h:cQ C E s g w)(l:eE nt g a)(I:ij nt o.dst){J:Array TypeId}{x y:Operand}(H:o.op=.call ⟨.builtin .min,#[x,y],J⟩)(hx:fD nt x=true)(M:fD nt y=true)(u:Ev.step C o s K=some r):
  gW P C E nt o g a w K r Z:=by
 have e:=iU h l hx;have j:=iU h l M;simp only[Ev.step,H] at u;split at u
 ·rename_i k n S m N Q;rw[N] at e;rw[Q] at j;have D:=e.kz;have F:=j.kz;exact kx (v:=.int k (if m<n then m else n)) h l I (.i none k (Aa n m)) rfl (by simp[execOp,H,resolve,invoke,builtin,Builtin.min_,Builtin.min2,D,F]) u
 ·simp at u
def Wl(h:cQ C E s g w)(l:eE nt g a)(I:ij nt o.dst){J:Array TypeId}{x y:Operand}(H:o.op=.call ⟨.builtin .max,#[x,y],J⟩)(hx:fD nt x=true)(M:fD nt y=true)(u:Ev.step C o s K=some r):
  gW P C E nt o g a w K r Z:=by
 have e:=iU h l hx;have j:=iU h l M;simp only[Ev.step,H] at u;split at u
 ·rename_i k n S m N Q;rw[N] at e;rw[Q] at j;have D:=e.kz;have F:=j.kz;exact kx (v:=.int k (if m>n then m else n)) h l I (.i none k (imax n m)) rfl (by simp[execOp,H,resolve,invoke,builtin,Builtin.max_,Builtin.max2,D,F]) u
 ·simp at u
def Wm(hC:ga P C)(h:cQ C E s g w)(l:eE nt g a)(hd:ij nt o.dst){t:Nat}{ts:List Nat}{x:Operand}(N:o.op=.call ⟨.builtin .len,#[x],⟨t::ts⟩⟩)(hx:fD nt x=true)(F:Ev.step C o s K=some r):gW P C E nt o g a w K r Z:=by
 simp only[Ev.step,N] at F;obtain⟨U,F⟩:=dY.1 F;have y:=iU h l hx;have aa:∀n,K (eA C s o.dst (.i .i64 n))=some r->(Builtin.len_ ⟨t::ts⟩ o.type #[a.eval x]).run P w=.ok (.int .i64 n) w->gW P C E nt o g a w K r Z:=λn F hr=>
  kx h l hd (.i none .i64 n) rfl (by simp[execOp,N,resolve,invoke,builtin,hr]) F
 have I:∀{va:Option Addr}{Q H:Nat},(∃e sz gq,C.dj t=.sl e sz gq)->a.eval x=.slice va Q H->K (eA C s o.dst (.i .i64 (Q:Int)))=some r->gW P C E nt o g a w K r Z:=λ{va Q H}⟨e,sz,gq,D⟩J F=>by
  obtain⟨et,hu,_⟩:=vn (hC.ty t) D
  exact aa _ F (by simp[Builtin.len_,lx hu,J,goInt])
 have Y:(∀b,dn C s x≠.s b)->(∀b,dn C s x≠.b b)->(∀k n,dn C s x≠.i k n)->(∀cs,dn C s x≠.agg cs)->(∀q,dn C s x≠.er q)->(dn C s x≠.lY)->(∀t xs,dn C s x≠.vec t xs)->(∀t xs,dn C s x≠.iv t xs)->(∀k c,dn C s x≠.ptr k c)->∃e sz gq,C.dj t=.sl e sz gq:=by
  intro j h2 h3 h4 h5 h6 h7 h8 h9
  cases S:C.dj t<;>rw[S] at U<;>first
   |exact⟨_,_,_,rfl⟩
   |(exfalso;cases N:dn C s x<;>rw[N] at U<;>first|(simp[jA] at U;done)|exact j _ N|exact h2 _ N|exact h3 _ _ N|exact h4 _ N|exact h5 _ N|exact h6 N|exact h7 _ _ N|exact h8 _ _ N|exact h9 _ _ N)
 unfold GS at F;split at F
 ·rename_i b j;rw[j] at y U;have ab:C.dj t=.str:=by cases S:C.dj t<;>rw[S] at U<;>first|rfl|(simp[jA] at U)
  exact aa _ F (by simp[Builtin.len_,lx (u9 (hC.ty t) ab),y.nT,goInt];rfl)
 ·rename_i t' xs j;have D:=Y (by simp[j]) (by simp[j]) (by simp[j]) (by simp[j]) (by simp[j]) (by simp[j]) (by simp[j]) (by simp[j]) (by simp[j]);rw[j] at y;obtain⟨va,H,J,_⟩:=y.CD;exact I D J F
 ·rename_i t' xs j;have D:=Y (by simp[j]) (by simp[j]) (by simp[j]) (by simp[j]) (by simp[j]) (by simp[j]) (by simp[j]) (by simp[j]) (by simp[j]);rw[j] at y;obtain⟨va,H,J,_⟩:=y.zG.CD;exact I D J F
 ·rename_i j;have D:=Y (by simp[j]) (by simp[j]) (by simp[j]) (by simp[j]) (by simp[j]) (by simp[j]) (by simp[j]) (by simp[j]) (by simp[j]);rw[j] at y;have J:a.eval x=.slice none 0 0:=by generalize iY x=m at y;generalize a.eval x=u at y;cases y;rfl
  exact I D J F
 ·rename_i j;have D:=Y (by simp[j]) (by simp[j]) (by simp[j]) (by simp[j]) (by simp[j]) (by simp[j]) (by simp[j]) (by simp[j]) (by simp[j]);rw[j] at y;obtain⟨va,J⟩:∃va,a.eval x=.slice va 0 0:=by generalize iY x=m at y;generalize a.eval x=u at y;cases y;exact⟨_,rfl⟩
  exact I D J F
 ·rename_i p t' j;have D:=Y (by simp[j]) (by simp[j]) (by simp[j]) (by simp[j]) (by simp[j]) (by simp[j]) (by simp[j]) (by simp[j]) (by simp[j]);rw[j] at y;obtain⟨tv,hg,F⟩:=py F;have ad:(g.rc C w).va p=some (a.eval x):=by generalize iY x=m at y;cases y;assumption
  have M:=qi h ad hg;split at F
  ·rcases M with M|M
   ·simp at M
   obtain⟨va,H,J,_⟩:=M.J1;exact I D J F
  ·rcases M with M|M
   ·simp at M
   obtain⟨q,π,b,ae,H,cs,ee,fr,f,hm,J,_⟩:=M.Oz;exact I D J F
  ·rcases M with M|M
   ·simp at M
   obtain⟨va,H,J,_⟩:=M.CD;exact I D J F
  ·simp at F
 ·rename_i p t' lo hi j;have D:=Y (by simp[j]) (by simp[j]) (by simp[j]) (by simp[j]) (by simp[j]) (by simp[j]) (by simp[j]) (by simp[j]) (by simp[j]);rw[j] at y;obtain⟨va,H,J,h2,h3⟩:∃va H,a.eval x=.slice va (hi.toNat-lo.toNat) H/\0<=lo/\lo<=hi:=by
   generalize iY x=m at y;generalize a.eval x=u at y;cases y;exact⟨_,_,rfl,by assumption,by assumption⟩
  refine I D J ?_;have:xL hi lo=((hi.toNat-lo.toNat:Nat):Int):=by simp only[xL];omega
  rw[<-this];exact F
 ·simp at F
def lB(j:Nat->G)(n e u:Nat):Nat->G:=λb=>
 match j b with
 |.at (.cE i) ((x,c)::p)=>if i=n/\x=0/\e<=c then .at (.cE u) ((0,c-e)::p) else .at (.cE i) ((x,c)::p)
 |x=>x
def abi{u:Nat->G}{n e x b j:Nat}{p:dv}(h:u b=.at (.cE n) ((0,e+j)::p)):lB u n e x b=.at (.cE x) ((0,j)::p):=by
 simp[lB,h]
def zh{u:Nat->G}{n e n':Nat}:FK (λq=>q=.cE n) u (lB u n e n') where
 im:=λb h=>by simp[lB,h]
 at':=λb q p h D=>by
  by_cases j:q=.cE n
  ·have:=D j;simp[kW,j] at this
  ·unfold lB;rw[h];split
   ·rename_i i x c H y;simp only[G.at.injEq] at y;obtain⟨rfl,rfl⟩:=y;rw[cN (λF=>j (by rw[F.1]))]
   ·rfl
 fr:=λb h=>by simp[lB,h]
def acw(hC:ga P C)(h:cQ C E s g w)(l:eE nt g a)(hd:ij nt o.dst){t:Nat}{x:Operand}{j:Nat}(M:o.op=.field t x j)(hx:fD nt x=true)(F:Ev.step C o s K=some r):gW P C E nt o g a w K r (ry x):=by
 simp only[Ev.step,M] at F;split at F
 ·rename_i cs t' m fs aq ht;split at F
  ·rename_i aE ft hf;obtain⟨aa,F⟩:=dY.1 F;have aa:=uS.1 aa;rw[zp,zq] at F;obtain⟨gs,hu,I,_,ai⟩:=Lc (hC.ty t) ht;obtain⟨f,ab,rfl,rfl,hm⟩:=MI I hf;have H:=ai _ hm;obtain⟨au,aF,av,⟨d,aw⟩,_⟩:=qm (hC.ty f.type) H;obtain⟨γ1,h1,ad,ax⟩:=Dm (n:=0) h l hC.gl hx;rw[aq] at ad;generalize aj:a.eval x=u at ad;cases ad with
   |agg _ _ vs ae hl ay hr=>
    rw[l7] at ab;have aG:FK (ry x) g.γ (lB γ1 0 f.offset 1)\/True:=.inr trivial;have U:FK (λq=>ry x q\/∃n,q=.cE n) g.γ (lB γ1 0 f.offset 1):=(ax.mono (λq y=>.inl y)).trans (zh.mono (λq y=>.inr ⟨0,y⟩));have e:cQ C E (iH s x) {g with γ:=lB γ1 0 f.offset 1} w:=by
     refine h1.nF (g':={g with γ:=lB γ1 0 f.offset 1}) (X:=λq p=>(∃n,q=.cE n)/\¬ kW q p) ((zh.mono (Z':=λq=>∃n,q=.cE n) (λq y=>⟨0,y⟩)).gD h1.cL.new) (λk=>.inr ⟨rfl,rfl,λp hx=>by obtain⟨⟨n,N⟩,_⟩:=hx;simp at N,?_⟩) (λk=>.inr ⟨rfl,rfl,λp hx=>by obtain⟨⟨n,N⟩,_⟩:=hx;simp at N⟩)
     refine⟨λ_ _=>rfl,λp I=>⟨rfl,λD=>?_⟩,λp I π hx=>by obtain⟨⟨n,N⟩,_⟩:=hx;exact jk p n N⟩
     exact(nv (C:=C) (g:={g with γ:=γ1}) (g':={g with γ:=lB γ1 0 f.offset 1}) ((zh (n':=1)).gD h1.cL.new) p D (oq ((zh (n':=1)).gD h1.cL.new) λq y _ hx=>jk q 0 hx.1) (λ_ _ _=>rfl) (λk _=>⟨rfl,λhx=>by have:=hx.1;simp at this⟩)).2
    have ak:∀(j:Nat)tv v,cs[f.offset+j]?=some tv->vs[f.offset+j]?=some v->Rd (Gs.rc C {g with γ:=lB γ1 0 f.offset 1} w) (some (.cE 1,[(0,j)])) tv v:=λj tv v hj H=>by
     have h0:=hr _ _ _ hj H
     refine h0.mono _ (λb hb=>⟨zh.im b hb,rfl⟩) (λq p y=>?_) (λ_ _=>rfl) (λp I=>⟨rfl,λD=>?_⟩) (λp I=>absurd I (Ox (ae tv (fh hj)) p))
     ·simp only[lh,jx,di,eS] at y;obtain⟨rfl,rfl⟩:=y;exact⟨_,_,rfl,λb π hb=>⟨abi (p:=π) (by have az:γ1 b=_:=hb;simpa using az),rfl⟩⟩
     ·exact(nv (C:=C) (g:={g with γ:=γ1}) (g':={g with γ:=lB γ1 0 f.offset 1}) ((zh (n':=1)).gD h1.cL.new) p D (oq ((zh (n':=1)).gD h1.cL.new) λq y _ hx=>jk q 0 hx.1) (λ_ _ _=>rfl) (λk _=>⟨rfl,λhx=>by have:=hx.1;simp at this⟩)).2
    cases ha:(C.dj f.type).ag with
    |true=>
     rw[ha] at F;have J:(part f.type vs f.offset).run P w=.ok (.agg (vs.extract f.offset (f.offset+(C.dj f.type).sz))) w:=by
      simp[part,BP aw,av,ha,wu (P:=P) (w:=w) (t:=f.type) (by omega),au]
     have Y:∀(j:Nat)v,(vs.extract f.offset (f.offset+(C.dj f.type).sz))[j]?=some v->vs[f.offset+j]?=some v:=λj v H=>by
      rw[Array.getElem?_extract] at H
      split at H
      ·exact H
      ·simp at H
     have am:Rd (Gs.rc C {g with γ:=lB γ1 0 f.offset 1} w) (some (.cE 1,[])) (.agg ((cs.drop f.offset).take (C.dj f.type).sz)) (.agg (vs.extract f.offset (f.offset+(C.dj f.type).sz))):=by
      refine .agg _ _ _ (λtv aA=>?_) (by simp;omega) (λj tv v hj H=>?_) (λj tv v hj H=>?_)
      ·obtain⟨i,hi⟩:=qR aA;exact ae tv (fh (pq hi).1)
      ·exact ay _ _ _ (pq hj).1 (Y _ _ H)
      ·exact ak j tv v (pq hj).1 (Y _ _ H)
     have hh:=q6 (P:=P) (o:=o) (n:=1) e U h.cL.new l hd am (by simp[execOp,M,Instr.field,lx hu,ab,aj,asAgg,J]) F;obtain⟨s',h3,h4⟩:=hh;exact⟨s',h3,λnext Q N=>h4 next Q (λa' w'⟨g',M⟩=>N a' w' ⟨g',{M with gD:=M.gD.mono (λq p hx=>⟨by rcases hx.1 with(S|S)|S<;>first|exact .inl S|exact .inr S,hx.2⟩)}⟩)⟩
    |false=>
     rw[ha] at F;have aB:=Lb _ ha;rw[aB] at aa F;have af:f.offset<cs.length:=by omega
     have an:f.offset<vs.size:=by omega
     have aC:(cs.drop f.offset).take 1=[cs[f.offset]]:=by
      rw[ly af];rfl
     rw[aC] at F;have aD:=ak 0 cs[f.offset] vs[f.offset] (by simp[af]) (by simp[an]);have J:=aeh (ft:=f.type) (w:=w) hC H ha (jN an);have ah:cQ C E (iH s x) {g with γ:=dZ (lB γ1 0 f.offset 1) (.cE 1) [(0,0)] (.cE 2) []} w:=by
      refine e.nF (g':={g with γ:=dZ (lB γ1 0 f.offset 1) (.cE 1) [(0,0)] (.cE 2) []}) (ph (q1:=.cE 1) (p1:=[(0,0)]) (q2:=.cE 2) (p2:=[]) e.cL.new) (λk=>.inr ⟨rfl,rfl,λp hx=>by simp[eQ] at hx,?_⟩) (λk=>.inr ⟨rfl,rfl,λp hx=>by simp[eQ] at hx⟩)
      refine⟨λ_ _=>rfl,λp I=>⟨rfl,λD=>?_⟩,λp I π hx=>jk p 1 hx.1⟩
      exact(nv (C:=C) (g:={g with γ:=lB γ1 0 f.offset 1}) (g':={g with γ:=dZ (lB γ1 0 f.offset 1) (.cE 1) [(0,0)] (.cE 2) []}) (ph e.cL.new) p D (oq (ph e.cL.new) λq y _ hx=>jk q 1 hx.1) (λ_ _ _=>rfl) (λk _=>⟨rfl,λhx=>by simp[eQ] at hx⟩)).2
     have ao:Rd (Gs.rc C {g with γ:=dZ (lB γ1 0 f.offset 1) (.cE 1) [(0,0)] (.cE 2) []} w) (some (.cE 2,[])) cs[f.offset] vs[f.offset]:=by
      refine aD.mono _ (λb hb=>⟨qY hb,rfl⟩) (λq p y=>?_) (λ_ _=>rfl) (λp I=>⟨rfl,λD=>?_⟩) (λp I=>absurd I (Ox (ae _ (dM af)) p))
      ·simp only[di,eS] at y;obtain⟨rfl,rfl⟩:=y;exact⟨_,_,rfl,λb π hb=>⟨zt hb,rfl⟩⟩
      ·exact(nv (C:=C) (g:={g with γ:=lB γ1 0 f.offset 1}) (g':={g with γ:=dZ (lB γ1 0 f.offset 1) (.cE 1) [(0,0)] (.cE 2) []}) (ph e.cL.new) p D (oq (ph e.cL.new) λq y _ hx=>jk q 1 hx.1) (λ_ _ _=>rfl) (λk _=>⟨rfl,λhx=>by simp[eQ] at hx⟩)).2
     have ap:FK (λq=>ry x q\/∃n,q=.cE n) g.γ (dZ (lB γ1 0 f.offset 1) (.cE 1) [(0,0)] (.cE 2) []):=U.trans ((FK.dZ zg).mono (λq y=>.inr ⟨1,y⟩));have hh:=q6 (P:=P) (o:=o) (n:=2) (v:=vs[f.offset]) ah ap h.cL.new l hd ao (by simp[execOp,M,Instr.field,lx hu,ab,aj,asAgg,J]) F;obtain⟨s',h3,h4⟩:=hh;exact⟨s',h3,λnext Q N=>h4 next Q (λa' w'⟨g',M⟩=>N a' w' ⟨g',{M with gD:=M.gD.mono (λq p hx=>⟨by rcases hx.1 with(S|S)|S<;>first|exact .inl S|exact .inr S,hx.2⟩)}⟩)⟩
  ·simp at F
 ·simp at F
end
end
section
def Su:∀{cs:List TV},GC cs=false->∀tv∈cs,iF tv=false/\tv≠.un
 |[],_,tv,h=>by simp at h
 |c::cs,j,tv,h=>by
  have e:GC cs=false/\iF c=false/\c≠.un:=by cases c<;>simp_all [GC,iF]
  rcases eG.1 h with rfl|h
  ·exact e.2
  ·exact Su e.1 tv h
def aei{tv:TV}(h:fO tv=true)(e:iF tv=false):gB tv=true:=by
 cases tv<;>simp_all [fO,dN,gB,iF]
def Rd.C4{c:Rc}{m:Option Gp}{tv:TV}{v:Value}(h:Rd c m tv v)(y:iz tv=true)(e:xO tv=false)(D:Option Gp):Rd c D tv v:=by
 cases tv with
 |agg cs=>
  cases h with
  |agg _ _ vs F H I J=>
   have M:=Su (cs:=cs) (by simpa[xO] using e);have u:cs.all fO=true:=y;refine .agg _ _ _ F H I (λj tv v x N=>(J j tv v x N).anyM ?_ _);exact aei (jC.1 u tv (fh x)) (M tv (fh x)).1
 |own=>simp[xO] at e
 |ko=>simp[xO] at e
 |fp=>simp[iz,fO,dN] at y
 |_=>exact h.anyM rfl D
section
variable{P:Program}{C:Cx}{E:Env}{nt n:Nat}{o:Oper}{s A:TS}{g:Gs}{a:Act}{w:World}{R:Type}{r:R}{K:TS->Option R}{Z:Rt->Prop}{γ1:Nat->G}{tv:TV}{v:Value}
def RU(h:cQ C E s g w)(l:eE nt g a)(hd:ij nt o.dst){k i:Nat}(ho:o.op=.extract (.tmp k) i)(hx:fD nt (.tmp k)=true)(y:Ev.step C o s K=some r):
  gW P C E nt o g a w K r (λq=>ry (.tmp k) q/\∃vs,s.cD k=.fp vs/\xO (nth vs i)=true):=by
 simp only[Ev.step,ho] at y;have af:a.eval (.tmp k)=g.tm k:=l.tm k (by simpa[fD,s6] using hx);split at y
 ·rename_i cs hs;obtain⟨Q,y⟩:=dY.1 y;have Q:=uS.1 Q;have S:=h.fQ k;rw[hs] at S;have ah:∀a U cap,g.tm k≠.slice a U cap:=λa U cap e=>by rw[e] at S;cases S
  generalize Y:g.tm k=u at S;cases S with
  |fp _ _ vs hc hl aa=>
   have D:i<cs.length:=by omega
   have ab:i<vs.size:=by omega
   have hn:nth cs i=cs[i]:=by rw[u7,eN D];rfl
   have ad:=aa i _ _ (eN D) (jN ab);have F:=hc _ (dM D);have H:(execOp a.eval o).run P w=.ok (.value vs[i]) w:=by simp[execOp,ho,af,Y,Instr.extract,ab]
   split at y
   ·rename_i x;rw[hn] at y;have ai:dK (eQ (.cD k) [(0,i)]) g.γ w (dZ g.γ (.cD k) [(0,i)] (.cE 0) []) w:=ph h.cL.new;have ae:cQ C E (s.raw k (.fp (ld cs i .un))) {g with γ:=dZ g.γ (.cD k) [(0,i)] (.cE 0) []} w:=by
     refine h.K7 ai (PV h ah) ?_
     rw[Y,sf]
     refine .fp _ _ _ (λtv aj=>?_) (by simpa using hl) (λj tv v hj hv=>?_)
     ·rcases Ax aj with h1|rfl
      ·exact hc tv h1
      ·rfl
     ·by_cases I:i=j
      ·subst I;rw[HA D] at hj;cases hj;exact .un _ _
      ·rw[DI I] at hj;have hT:=hc tv (fh hj);refine(aa j tv v hj hv).same (λb J=>⟨qY J,rfl⟩) (λq p M b π J=>?_) (λi hi=>absurd hi (CC hT i)) (λp N=>absurd N (sd hT p)) (λp N=>absurd N.mv (sd hT p));simp only[lh,jx,di,eS] at M;obtain⟨rfl,rfl⟩:=M;exact⟨wI J λ⟨_,t,ht⟩=>by simp at ht;exact I ht.1,rfl⟩
    have ak:Rd (Gs.rc C {g with γ:=dZ g.γ (.cD k) [(0,i)] (.cE 0) []} w) (some (.cE 0,[])) cs[i] vs[i]:=by
     refine ad.mono _ (λb J=>⟨qY J,rfl⟩) (λq p M=>?_) (λi hi=>absurd hi (CC F i)) (λp N=>absurd N (sd F p)) (λp N=>absurd N.mv (sd F p))
     simp only[lh,jx,di,eS] at M
     obtain⟨rfl,rfl⟩:=M
     exact⟨_,_,rfl,λb π J=>⟨zt J,rfl⟩⟩
    exact q6 ae ((FK.dZ za).mono (λq M=>⟨⟨k,rfl,M⟩,cs,hs,x⟩)) h.cL.new l hd ak H y
   ·rename_i x;rw[hn] at y x;exact q6 (n:=0) (γ1:=g.γ) h (.refl _) h.cL.new l hd (ad.C4 F x _) H y
 ·simp at y
def Ld(v:Option Value)(d n:Int):Prop:=(v=none/\n=d)\/∃k,v=some (.int k n)
def Dn(nt:Nat):Option Operand->Bool|some x=>fD nt x|none=>true
def zu(h:cQ C E s g w)(l:eE nt g a){x:Option Operand}{d n:Int}(hx:Dn nt x=true)(e:iy C s d x=some n):Ld (x.map a.eval) d n:=by
 cases x with
 |none=>simp only[iy,di] at e;exact .inl ⟨rfl,e.symm⟩
 |some x=>
  simp only[iy] at e;split at e
  ·rename_i k m j;simp only[di] at e;subst e;have:=iU h l hx;rw[j] at this;exact .inr ⟨k,by simp[this.kz]⟩
  ·simp at e
def RV{P:Program}(u:Bool){len cap:Nat}{e j:Option Value}{l h:Int}(x:Ld e 0 l)(y:Ld j len h)(F:0<=l)(H:l<=h)(I:h<=cap):
  (Instr.sliceBounds u len cap e j none).run P w=.ok (l.toNat,h.toNat,cap) w:=by
 have D:((h.toNat:Nat):Int)=h:=by omega
 rcases x with⟨rfl,rfl⟩|⟨k,rfl⟩<;>rcases y with⟨rfl,rfl⟩|⟨J,rfl⟩<;>simp[Instr.sliceBounds,Instr.sliceBound,asIntOf]<;>(try rw[D])<;>(try simp)<;>(try(repeat' split))<;>(try simp_all)<;>(try omega)
def aag{P:Program}{u e:Nat}{y D:Option Value}{l h m:Int}{k:IntKind}(H:Ld y 0 l)(I:∃k,D=some (.int k h))(M:0<=l)(N:l<=h)(Q:h<=m)(J:m<=e):
  (Instr.sliceBounds true u e y D (some (.int k m))).run P w=.ok (l.toNat,h.toNat,m.toNat) w:=by
 have S:((h.toNat:Nat):Int)=h:=by omega
 have U:((m.toNat:Nat):Int)=m:=by omega
 obtain⟨Y,rfl⟩:=I;have F:0<=m/\m<=(e:Int):=⟨by omega,J⟩;have j:0<=h/\h<=((m.toNat:Nat):Int):=by omega
 rcases H with⟨rfl,rfl⟩|⟨k,rfl⟩
 ·simp[Instr.sliceBounds,Instr.sliceBound,asIntOf,F,j];intro h5;omega
 ·have x:0<=l/\l<=((h.toNat:Nat):Int):=by omega
  simp[Instr.sliceBounds,Instr.sliceBound,asIntOf,F,j,x];rw[cM (by omega),cM (by omega)]
def Rg{P:Program}{t:TypeId}{x:Value}{j u y:Option Value}(h:∀n e,P.underlying t≠some (.array n e)){d:TypeDesc}(D:P.underlying t=some d):(Instr.sliceAt t x j u y).run P w=(Instr.slice t x j u y).run P w:=by
 simp only[Instr.sliceAt,rJ,lx D,Result.andThen];cases d<;>first|rfl|exact absurd D (h _ _)
def aaa{P:Program}{t e:TypeId}{y D F:Option Value}{va:Option Addr}{j u:Nat}{l h m:Nat}(x:P.underlying t=some (.slice e))(H:0<P.cellsOf e)
  (I:(Instr.sliceBounds true j u y D F).run P w=.ok (l,h,m) w):
  (Instr.sliceAt t (.slice va j u) y D F).run P w=.ok (.slice (if m=l then va else va.map (·.add (l*P.cellsOf e))) (h-l) (m-l)) w:=by
 rw[Rg (by rw[x];simp) x];simp[Instr.slice,lx x,I,wu H]
def acx{va:Option Addr}{b e:Nat}(n:Nat)(h:va=some ⟨b,e,none⟩):va.map (·.add n)=some ⟨b,e+n,none⟩:=by
 subst h;simp[IP]
inductive Cut(P:Program)(w:World)(lo hi mx:Option Value)(len cap:Nat)(l h:Int)(m:Nat):Prop where
 |mk:(Instr.sliceBounds true len cap lo hi mx).run P w=.ok (l.toNat,h.toNat,m) w->0<=l->l<=h->h<=m->m<=cap->Cut P w lo hi mx len cap l h m
def Rd.TB{c:Rc}{m m':Option Gp}{t:Ty}{j:List (El t)}{a u:Option Addr}{len cap e:Nat}{lo hi:Int}(h:Rd c m (.eb t j) (.slice a len cap))(F:0<=lo)(H:lo<=hi)(x:hi<=j.length)
  (I:∀b o,a=some ⟨b,o,none⟩->lo<hi->u=some ⟨b,o+lo.toNat*cI t,none⟩)(J:hi.toNat-lo.toNat<=e):Rd c m' (.eb t ((j.drop lo.toNat).take (hi.toNat-lo.toNat))) (.slice u (hi.toNat-lo.toNat) e):=by
 by_cases hz:lo=hi
 ·subst hz;simp only[vX,Ay];exact .kO _ _ _ _
 ·rcases h.qZ with⟨rfl,_⟩|⟨b,o,y,f,D,_⟩
  ·simp at x;omega
  ·simp only[kH] at D;obtain⟨rfl,_⟩:=D;exact h.FW F H x (.inr ⟨b,o,rfl,I b o rfl (by omega)⟩) J
def Rd.aej{c:Rc}{m x:Option Gp}{t:Ty}{j:List (El t)}{a:Option Addr}{n:Nat}(h:Rd c m (.eb t j) (.slice a n n)):Rd c x (.fS t j) (.slice a n n):=by
 rcases h.qZ with⟨rfl,H,u,e⟩|⟨b,o,cap,f,e,I,y,D,F⟩
 ·simp only[kH] at e;obtain⟨rfl,rfl,rfl⟩:=e;exact .qz _ _ _
 ·simp only[kH] at e;obtain⟨rfl,rfl,rfl⟩:=e;exact .qA _ _ _ _ _ f y D F
def TC(hC:ga P C)(h:cQ C E s g w)(l:eE nt g a)(hd:ij nt o.dst){t:Nat}{x:Operand}{lo hi mx:Option Operand}(ho:o.op=.slice t x lo hi mx)(hx:fD nt x=true)(ay:Dn nt lo=true)(az:Dn nt hi=true)(aH:Dn nt mx=true)
  (j:Ev.step C o s K=some r):gW P C E nt o g a w K r Z:=by
 simp only[Ev.step,ho] at j;obtain⟨ht,j⟩:=dY.1 j;have F:=iU h l hx;have sl:(∀b,dn C s x≠.s b)->(∀b,dn C s x≠.b b)->(∀k n,dn C s x≠.i k n)->(∀cs,dn C s x≠.agg cs)->(∀q,dn C s x≠.er q)->(dn C s x≠.lY)->(∀t xs,dn C s x≠.vec t xs)->(∀t xs,dn C s x≠.iv t xs)->(∀k c,dn C s x≠.ptr k c)->∃e sz gq,C.dj t=.sl e sz gq:=by
  intro D h2 h3 h4 h5 h6 h7 h8 h9
  cases aA:C.dj t<;>rw[aA] at ht<;>first
   |exact⟨_,_,_,rfl⟩
   |(exfalso;cases ho:dn C s x<;>rw[ho] at ht<;>first|(simp[jA] at ht;done)|exact D _ ho|exact h2 _ ho|exact h3 _ _ ho|exact h4 _ ho|exact h5 _ ho|exact h6 ho|exact h7 _ _ ho|exact h8 _ _ ho|exact h9 _ _ ho)
 have part:∀{e sz gq}{va:Option Addr}{len cap m:Nat}{l' h':Int}{tv:TV},C.dj t=.sl e sz gq->a.eval x=.slice va len cap->Cut P w (lo.map a.eval) (hi.map a.eval) (mx.map a.eval) len cap l' h' m->
   (∀a',(∀b o,va=some ⟨b,o,none⟩->l'.toNat<m->a'=some ⟨b,o+l'.toNat*cI e,none⟩)->(m=l'.toNat->a'=va)->∃mm,Rd (g.rc C w) mm tv (.slice a' (h'.toNat-l'.toNat) (m-l'.toNat)))->gB tv=true->K (eA C s o.dst tv)=some r->gW P C E nt o g a w K r Z:=by
  intro e sz gq va len cap m l' h' tv H U hc aB ha j
  obtain⟨et,hu,aI,_,_⟩:=vn (hC.ty t) H
  obtain⟨aJ,aK,_⟩:=rQ aI
  obtain⟨hb,h0,D,h2,h3⟩:=hc
  have aw:=aaa (va:=va) hu aK hb
  rw[aJ] at aw
  obtain⟨mm,aB⟩:=aB (if m=l'.toNat then va else va.map (·.add (l'.toNat*cI e))) (λb o aC aY=>by rw[cN (by omega)];exact acx _ aC) (λaD=>by rw[cM aD])
  exact kx h l hd aB ha (by simp only[execOp,ho,U];simp[aw]) j
 have an:∀{len cap:Nat}{l' h':Int},iy C s 0 lo=some l'->iy C s len hi=some h'->0<=l'->l'<=h'->h'<=cap->mx=none->Cut P w (lo.map a.eval) (hi.map a.eval) (mx.map a.eval) len cap l' h' cap:=by
  intro len cap l' h' D h2 h3 h4 h5 h6
  subst h6
  exact⟨RV true (zu h l ay D) (zu h l az h2) h3 h4 h5,h3,h4,h5,iN _⟩
 have three:∀{len cap:Nat}{l' h':Int}{y:Operand}{z:Operand}{m:Int},iy C s 0 lo=some l'->iy C s len hi=some h'->hi=some y->mx=some z->iy C s 0 (some z)=some m->0<=l'->l'<=h'->m=h'->h'<=cap->Cut P w (lo.map a.eval) (hi.map a.eval) (mx.map a.eval) len cap l' h' h'.toNat:=by
  intro len cap l' h' y z m D h2 h3 h4 h5 h6 h7 h8 h9
  subst h8
  have aE:=zu h l ay D
  have av:=zu h l az h2
  have aL:=zu h l (x:=some z) (by rw[<-h4];exact aH) h5
  rw[h3] at av
  rw[h4]
  rw[h3]
  obtain⟨k,hz⟩:∃k,(some z).map a.eval=some (.int k m):=by
   rcases aL with⟨ai,_⟩|ai
   ·simp at ai
   ·exact ai
  have hy:∃k,(some y).map a.eval=some (.int k m):=by
   rcases av with⟨ai,_⟩|ai
   ·simp at ai
   ·exact ai
  rw[hz];refine⟨?_,h6,h7,by omega,by omega⟩;exact aag aE hy h6 h7 (Zn _) h9
 have ao:∀{e sz gq}{va:Option Addr}{len cap:Nat}{xs:List (El e)},C.dj t=.sl e sz gq->a.eval x=.slice va len cap->(∃mm,Rd (g.rc C w) mm (.eb e xs) (.slice va len cap))->len=xs.length->len<=cap->∀{l' h'},iy C s 0 lo=some l'->iy C s (cA xs) hi=some h'->mx=none->
   ∀{ys},ff xs l' h'=some ys->K (eA C s o.dst (.eb e ys))=some r->gW P C E nt o g a w K r Z:=by
  intro e sz gq va len cap xs H U ⟨mm,hr⟩ ap Q l' h' D h2 h3 ys ae j
  obtain⟨⟨h4,h5,h6⟩,rfl⟩:=tj.1 ae
  have aF:iy C s (len:Nat) hi=some h':=by rw[ap];exact h2
  refine part H U (an (cap:=cap) D aF h4 h5 (by omega) h3) (λa' Y af=>⟨none,?_⟩) rfl j
  exact hr.TB h4 h5 h6 (λb o hb aM=>Y b o hb (by omega)) (by omega)
 have aq:∀{e sz gq}{va:Option Addr}{len cap:Nat}{xs:List (El e)},C.dj t=.sl e sz gq->a.eval x=.slice va len cap->(∃mm,Rd (g.rc C w) mm (.eb e xs) (.slice va len cap))->len=xs.length->len<=cap->∀{l' h' m y z},iy C s 0 lo=some l'->iy C s (cA xs) hi=some h'->hi=some y->mx=some z->iy C s 0 (some z)=some m->
   Ab xs l' h' m (λv=>K (eA C s o.dst v))=some r->gW P C E nt o g a w K r Z:=by
  intro e sz gq va len cap xs H U ⟨mm,hr⟩ ap Q l' h' m y z D h2 hy hz hm j
  unfold Ab at j
  obtain⟨_,I,j⟩:=fa.1 j
  have I:m=h':=fG (mr.1 I)
  obtain⟨ys,ae,j⟩:=fa.1 j
  obtain⟨⟨h4,h5,h6⟩,rfl⟩:=tj.1 ae
  have aF:iy C s (len:Nat) hi=some h':=by rw[ap];exact h2
  refine part H U (three (cap:=cap) D aF hy hz hm h4 h5 I (by omega)) (λa' Y af=>⟨none,?_⟩) rfl j
  exact(hr.TB (m':=none) h4 h5 h6 (λb o hb aM=>Y b o hb (by omega)) (iN _)).aej
 unfold sM at j;split at j
 ·rename_i b D;rw[D] at F ht;have aN:C.dj t=.str:=by cases aA:C.dj t<;>rw[aA] at ht<;>first|rfl|(simp[jA] at ht)
  have hu:=u9 (hC.ty t) aN;split at j
  ·rename_i l' h' hl hh hm;obtain⟨z,hz,j⟩:=fa.1 j;unfold fF at hz;split at hz
   ·rename_i hc;obtain⟨h0,aO,aP⟩:=hc;simp only[di] at hz;subst hz;have hb:=RV (w:=w) (P:=P) false (len:=b.length) (cap:=b.length) (zu h l ay hl) (zu h l az hh) h0 aO aP;have aQ:(ByteArray.mk ⟨b⟩).size=b.length:=rfl;have aR:(ByteArray.mk ⟨b⟩).extract l'.toNat h'.toNat=ByteArray.mk ⟨(b.drop l'.toNat).take (h'.toNat-l'.toNat)⟩:=by
     apply ByteArray.ext
     rw[ByteArray.data_extract]
     simp
    refine kx h l hd (.s none _) rfl ?_ j;simp only[execOp,ho,Option.map_none,rJ,Rg (P:=P) (w:=w) (t:=t) (by rw[hu];simp) hu];simp[Instr.slice,lx hu,F.nT,aQ,hb,aR]
   ·simp at hz
  ·simp at j
 ·rename_i t' xs D;obtain⟨e,sz,gq,H⟩:=sl (by simp[D]) (by simp[D]) (by simp[D]) (by simp[D]) (by simp[D]) (by simp[D]) (by simp[D]) (by simp[D]) (by simp[D]);rw[D] at F ht;rw[H] at ht;simp only[jA,dQ] at ht;subst ht;obtain⟨va,cap,U,Q⟩:=F.CD;rw[U] at F;split at j
  ·rename_i l' h' hl hh hm;obtain⟨ys,ae,j⟩:=fa.1 j;exact ao H U ⟨_,F⟩ rfl Q hl hh rfl ae j
  ·rename_i l' h' z hl hh hm;split at j
   ·rename_i y m ah;exact aq H U ⟨_,F⟩ rfl Q hl hh rfl rfl ah j
   ·simp at j
  ·simp at j
 ·rename_i t' xs D;obtain⟨e,sz,gq,H⟩:=sl (by simp[D]) (by simp[D]) (by simp[D]) (by simp[D]) (by simp[D]) (by simp[D]) (by simp[D]) (by simp[D]) (by simp[D]);rw[D] at F ht;rw[H] at ht;simp only[jA,dQ] at ht;subst ht;have F:=F.zG;obtain⟨va,cap,U,Q⟩:=F.CD;rw[U] at F;split at j
  ·rename_i l' h' hl hh hm;obtain⟨ys,ae,j⟩:=fa.1 j;exact ao H U ⟨_,F⟩ rfl Q hl hh rfl ae j
  ·rename_i l' h' z hl hh hm;split at j
   ·rename_i y m ah;exact aq H U ⟨_,F⟩ rfl Q hl hh rfl rfl ah j
   ·simp at j
  ·simp at j
 ·rename_i p t' D;obtain⟨e,sz,gq,H⟩:=sl (by simp[D]) (by simp[D]) (by simp[D]) (by simp[D]) (by simp[D]) (by simp[D]) (by simp[D]) (by simp[D]) (by simp[D]);rw[D] at F ht;rw[H] at ht;simp only[jA,dQ] at ht;subst ht;obtain⟨tv,hg,j⟩:=py j;have au:VO (g.rc C w) p/\(g.rc C w).va p=some (a.eval x):=by generalize iY x=m at F;cases F;exact⟨by assumption,by assumption⟩
  have hl:=qi h au.2 hg;split at j
  ·rename_i d t2 xs;obtain⟨aj,ad⟩:=dY.1 j;have aj:=fG aj;clear j;subst aj;rcases hl with hl|hl
   ·simp at hl
   obtain⟨va,cap,U,Q⟩:=hl.J1;have aG:∀n:Nat,n<cap->∃b o,va=some ⟨b,o,none⟩:=λn hn=>by
    rcases hl.lT with⟨rfl,a0,am⟩|⟨q,π,b,aS,aX,cs,ee,fr,f,hm,am,_⟩
    ·rw[U] at am;simp only[kH] at am;omega
    ·rw[U] at am;simp only[kH] at am;exact⟨b,aS,am.1⟩
   have ax:∀{l' h':Int}{m:Nat},Cut P w (lo.map a.eval) (hi.map a.eval) (mx.map a.eval) xs.length cap l' h' m->h'<=xs.length->K (eA C s o.dst (.sl p t2 l' h'))=some r->gW P C E nt o g a w K r Z:=by
    intro l' h' m hc hh j
    refine part H U hc (λa' Y af=>⟨none,?_⟩) rfl j
    obtain⟨_,h0,aT,h2,h3⟩:=hc
    refine .sl _ _ _ _ _ va xs.length cap _ _ au.1 (by rw[au.2,U]) h0 aT hh ?_ (by omega) (by omega)
    by_cases aD:m=l'.toNat
    ·left;omega
    ·right
     obtain⟨b,o,hb⟩:=aG l'.toNat (by omega);exact⟨b,o,hb,Y b o hb (by omega)⟩
   split at ad
   ·rename_i l' h' S N hm;obtain⟨_,I,j⟩:=fa.1 ad;have I:0<=l'/\l'<=h'/\h'<=cA xs:=fG (mr.1 I);simp only[cA] at I;exact ax (an (cap:=cap) S N I.1 I.2.1 (by omega) rfl) I.2.2 j
   ·rename_i l' h' z S N hm;split at ad
    ·rename_i y m ah;obtain⟨_,I,j⟩:=fa.1 ad;obtain⟨M,J⟩:=(dF _ _).mp (mr.1 I);have M:0<=l'/\l'<=h'/\h'<=(xs.length:Int):=fG M;have J:m=h':=fG J;exact ax (three (cap:=cap) S N rfl rfl ah M.1 M.2.1 J (by omega)) M.2.2 j
    ·simp at ad
   ·simp at ad
  ·rename_i t2 xs;obtain⟨aj,ad⟩:=dY.1 j;have aj:=fG aj;clear j;subst aj;rcases hl with hl|hl
   ·simp at hl
   obtain⟨va,cap,U,Q⟩:=hl.CD;rw[U] at hl;split at ad
   ·rename_i l' h' S N hm;obtain⟨ys,ae,j⟩:=fa.1 ad;exact ao H U ⟨_,hl⟩ rfl Q S N rfl ae j
   ·simp at ad
  ·simp at j
 ·rename_i p t' b1 b2 D;obtain⟨e,sz,gq,H⟩:=sl (by simp[D]) (by simp[D]) (by simp[D]) (by simp[D]) (by simp[D]) (by simp[D]) (by simp[D]) (by simp[D]) (by simp[D]);rw[D] at F ht;rw[H] at ht;simp only[jA,dQ] at ht;subst ht;obtain⟨aa,len,cap,a',ab,au,aC,aU,h2,h3,h4,h5,h6,h7⟩:∃aa len cap a' ab,VO (g.rc C w) p/\(g.rc C w).va p=some (.slice aa len cap)/\a.eval x=.slice a' (b2.toNat-b1.toNat) ab/\0<=b1/\b1<=b2/\b2<=(len:Int)/\
    (ab=0\/∃b o,aa=some ⟨b,o,none⟩/\a'=some ⟨b,o+b1.toNat*cI e,none⟩)/\b2.toNat-b1.toNat<=ab/\ab+b1.toNat<=cap:=by
   generalize iY x=m at F
   generalize a.eval x=u at F
   cases F;exact⟨_,_,_,_,_,by assumption,by assumption,rfl,by assumption,by assumption,by assumption,by assumption,by assumption,by assumption⟩
  split at j
  ·rename_i l' h' S N hm;obtain⟨_,I,j⟩:=fa.1 j;have I:0<=l'/\l'<=h'/\h'<=xL b2 b1:=fG (mr.1 I);have aV:xL b2 b1=((b2.toNat-b1.toNat:Nat):Int):=by simp only[xL];omega
   rw[aV] at I N;refine part H aU (an (cap:=ab) S N I.1 I.2.1 (by omega) rfl) (λa2 Y af=>⟨none,?_⟩) rfl j;have aW:((pI b1 h').toNat-(pI b1 l').toNat)=h'.toNat-l'.toNat:=by simp only[pI];omega
   rw[<-aW];refine .sl _ _ _ _ _ aa len cap _ _ au aC (by simp only[pI];omega) (by simp only[pI];omega) (by simp only[pI];omega) ?_ (by simp only[pI];omega) (by simp only[pI];omega)
   by_cases aD:ab=l'.toNat
   ·left;omega
   ·right
    rcases h5 with h5|⟨b,o,aE,av⟩
    ·omega
    ·refine⟨b,o,aE,?_⟩;rw[Y _ _ av (by omega),show(pI b1 l').toNat=b1.toNat+l'.toNat by simp only[pI];omega,jO,<-o6]
  ·simp at j
 ·rename_i D;obtain⟨e,sz,gq,H⟩:=sl (by simp[D]) (by simp[D]) (by simp[D]) (by simp[D]) (by simp[D]) (by simp[D]) (by simp[D]) (by simp[D]) (by simp[D]);rw[D] at F;have U:a.eval x=.slice none 0 0:=by generalize iY x=m at F;generalize a.eval x=u at F;cases F;rfl
  split at j
  ·rename_i l' h' S N hm;obtain⟨_,I,j⟩:=fa.1 j;obtain⟨M,J⟩:=(dF _ _).mp (mr.1 I);have M:l'=0:=fG M;have J:h'=0:=fG J;subst M;subst J;refine part H U (an (cap:=0) S N (by omega) (by omega) (by omega) rfl) (λa2 Y af=>⟨none,?_⟩) rfl j;rw[af rfl];exact .nil _
  ·rename_i l' h' z S N hm;split at j
   ·rename_i y m ah;obtain⟨_,I,j⟩:=fa.1 j;obtain⟨M,J⟩:=(dF _ _).mp (mr.1 I);obtain⟨J,ak⟩:=(dF _ _).mp J;have M:l'=0:=fG M;have J:h'=0:=fG J;have ak:m=0:=fG ak;subst M;subst J;subst ak;refine part H U (three (cap:=0) S N rfl rfl ah (by omega) (by omega) rfl (by omega)) (λa2 Y af=>⟨none,?_⟩) rfl j;rw[af rfl];exact .nil _
   ·simp at j
  ·simp at j
 ·rename_i D;obtain⟨e,sz,gq,H⟩:=sl (by simp[D]) (by simp[D]) (by simp[D]) (by simp[D]) (by simp[D]) (by simp[D]) (by simp[D]) (by simp[D]) (by simp[D]);rw[D] at F;obtain⟨va,U⟩:∃va,a.eval x=.slice va 0 0:=by generalize iY x=m at F;generalize a.eval x=u at F;cases F;exact⟨_,rfl⟩
  split at j
  ·rename_i l' h' S N hm;obtain⟨_,I,j⟩:=fa.1 j;obtain⟨M,J⟩:=(dF _ _).mp (mr.1 I);have M:l'=0:=fG M;have J:h'=0:=fG J;subst M;subst J;refine part H U (an (cap:=0) S N (by omega) (by omega) (by omega) rfl) (λa2 Y af=>⟨none,?_⟩) rfl j;exact .iq _ _
  ·rename_i l' h' z S N hm;split at j
   ·rename_i y m ah;obtain⟨_,I,j⟩:=fa.1 j;obtain⟨M,J⟩:=(dF _ _).mp (mr.1 I);obtain⟨J,ak⟩:=(dF _ _).mp J;have M:l'=0:=fG M;have J:h'=0:=fG J;have ak:m=0:=fG ak;subst M;subst J;subst ak;refine part H U (three (cap:=0) S N rfl rfl ah (by omega) (by omega) rfl (by omega)) (λa2 Y af=>⟨none,?_⟩) rfl j;exact .iq _ _
   ·simp at j
  ·simp at j
 ·simp at j
end
end
section
def Cd(d:Bool)(a b:TV):Prop:=a=b\/∃t,∃e:List (El t),fq t a=some e/\b=sc d t e
def F2(d:Bool):List TV->List TV->Prop|[],[]=>True|a::as,b::e=>Cd d a b/\F2 d as e|_,_=>False
def F2.get{d:Bool}:∀{as e:List TV},F2 d as e->as.length=e.length/\∀(j:Nat)a b,as[j]?=some a->e[j]?=some b->Cd d a b
 |[],[],_=>⟨rfl,by simp⟩
 |[],_::_,h=>by simp[F2] at h
 |_::_,[],h=>by simp[F2] at h
 |a::as,b::e,h=>by
  simp only[F2] at h;obtain⟨A,D⟩:=h;obtain⟨F,H⟩:=F2.get D;refine⟨by simp[F],λj x y hx u=>?_⟩;cases j with
  |zero=>simp at hx u;subst hx;subst u;exact A
  |succ j=>exact H j x y (by simpa using hx) (by simpa using u)
def Cd.sl{d:Bool}{t:Ty}{a:TV}{e:List (El t)}(h:fq t a=some e):Cd d a (sc d t e):=.inr ⟨t,e,h,rfl⟩
def tr(d:Bool):∀{t:Ty}{a:List TV}{x:El t},dec t a=some x->F2 d a (enc d t x):=by
 intro t a
 fun_cases dec t a<;>intro x h
 all_goals first
  |(exfalso;simp_all [dec];done)
  |skip
 all_goals(simp only[dec,gE,di, *] at h)
 all_goals(have h:=gV h;subst h;simp only[enc,F2,cn.op,cn.num,cn.name,cn.cU,cn.db])
 all_goals(repeat' (first|exact trivial|exact Or.inl rfl|exact Cd.sl (by assumption)|apply And.intro))
def rT{t:Ty}{a:TV}{j:List (El t)}(h:fq t a=some j):a=.eb t j\/a=.fS t j\/(∃d,a=.own d t j)\/(a=.nil/\j=[])\/(a=.iq/\j=[]):=by
 cases a with
 |eb u x=>simp only[fq] at h;split at h<;>first|(rename_i e;subst e;simp[j2] at h;subst h;exact .inl rfl)|simp at h
 |fS u x=>simp only[fq] at h;split at h<;>first|(rename_i e;subst e;simp[j2] at h;subst h;exact .inr (.inl rfl))|simp at h
 |own d u x=>simp only[fq] at h;split at h<;>first|(rename_i e;subst e;simp[j2] at h;subst h;exact .inr (.inr (.inl ⟨d,rfl⟩)))|simp at h
 |nil=>simp[fq] at h;exact .inr (.inr (.inr (.inl ⟨rfl,h⟩)))
 |iq=>simp[fq] at h;exact .inr (.inr (.inr (.inr ⟨rfl,h⟩)))
 |_=>simp[fq] at h
def Rd.Cg{c:Rc}{m:Option Gp}{d a:Bool}{t:Ty}{y:List (El t)}{v:Value}(h:Rd c m (.own d t y) v)(A:eZ t=true):Rd c m (.own a t y) v:=by
 cases h with
 |jU=>exact .jU _ _ _ _
 |kE _ _ _ _ _ b o cap D e fr f F H I J M N P=>
  exact .kE _ _ _ _ _ _ _ _ D e fr f F H I J M (λr x j u hx Q=>N r x j u hx (by rwa[ns A d a])) (λr x j u hx Q=>P r x j u hx (by rwa[ns A d a]))
def Cd.deep{a b:TV}(h:Cd true a b)(j:qk a=true){c:Rc}{m:Option Gp}{v:Value}(e:Rd c m a v):Rd c m b v:=by
 rcases h with rfl|⟨t,x,h,rfl⟩
 ·exact e
 ·rcases rT h with rfl|rfl|⟨d,rfl⟩|⟨rfl,rfl⟩|⟨rfl,rfl⟩
  ·simp[qk] at j
  ·simp[qk] at j
  ·simp only[sc];cases u:eZ t with
   |true=>exact e.Cg u
   |false=>simp[qk,u] at j;subst j;exact e
  ·cases e;exact .jU _ _ _ _
  ·cases e;exact .jU _ _ _ _
def Cd.frozen{a b:TV}(h:Cd false a b)(j:iF a=false){c:Rc}{m:Option Gp}{v:Value}(e:Rd c m a v):Rd c m b v:=by
 rcases h with rfl|⟨t,u,h,rfl⟩
 ·exact e
 ·rcases rT h with rfl|rfl|⟨d,rfl⟩|⟨rfl,rfl⟩|⟨rfl,rfl⟩
  ·exact e
  ·exact e.zG
  ·simp[iF] at j
  ·cases e;exact .kO _ _ _ _
  ·cases e;exact .kO _ _ _ _
def U9{t:Ty}(xs:List (El t)):fq t (.eb t xs)=some xs:=by show(if h:t=t then some (j2 h xs) else none)=some xs;rw[Mh rfl];rfl
def aek{t:Ty}(xs:List (El t)):fq t (.fS t xs)=some xs:=by show(if h:t=t then some (j2 h xs) else none)=some xs;rw[Mh rfl];rfl
def Cd.j8{a b:TV}(h:Cd false a b)(e:iF b=false):Cd false (kh a) b:=by
 rcases h with rfl|⟨t,j,h,rfl⟩
 ·rw[(FV e).1];exact .inl rfl
 ·rcases rT h with rfl|rfl|⟨d,rfl⟩|⟨rfl,rfl⟩|⟨rfl,rfl⟩
  ·exact .inr ⟨_,_,U9 _,rfl⟩
  ·exact .inr ⟨_,_,aek _,rfl⟩
  ·exact .inr ⟨_,_,U9 _,rfl⟩
  ·exact .inr ⟨t,[],rfl,rfl⟩
  ·exact .inr ⟨t,[],rfl,rfl⟩
def Wn{e:Ty}{x:El e}{P:List Value}(h:kr (enc false e x) P=true)(d:Bool)(c:Rc)(j:Nat)(J:TV)(v:Value)(U:(enc d e x)[j]?=some J)(Q:P[j]?=some v)(m:Option Gp):Rd c m J v/\v.oneCell'=true:=by
 obtain⟨hl,Y⟩:=CW (c:=c) (m:=λ_=>m) h;have A:(enc false e x)[j]?=some (kh J):=by rw[<-Oy d e x,iA,U];rfl
 obtain⟨R,Z,_⟩:=Y j _ _ A Q;refine⟨?_,Z⟩;cases J with
 |own d' t S=>
  simp only[kh] at R A;have D:zC (.eb t S) v=true:=by
   have N:∀(H:List TV)(F:List Value)(j:Nat)a b,kr H F=true->H[j]?=some a->F[j]?=some b->zC a b=true:=by
    intro H
    induction H with
    |nil=>intro F j a b _ I;simp at I
    |cons t H ih=>
     intro F j a b D I M
     cases F with
     |nil=>simp at M
     |cons u F=>
      simp only[kr,dF] at D
      cases j with
      |zero=>simp at I M;subst I;subst M;exact D.1
      |succ j=>exact ih F j a b D.2 (by simpa using I) (by simpa using M)
   exact N _ _ _ _ _ h A Q
  cases S with
  |nil=>
   unfold zC at D;split at D<;>first|(rename_i h4 h5;simp at h4)|skip
   all_goals first|exact .jU _ _ _ _|simp_all
  |cons y ys=>cases v<;>simp[zC] at D
 |_=>exact R
structure Ad(w w':World)(cs:Array Value)(k:Bool:=false):Prop where
 size:w'.heap.size=w.heap.size+1
 old:∀b,b<w.heap.size->w'.heap[b]?=w.heap[b]?
 new:∃e fr,w'.heap[w.heap.size]?=some (.cells cs e fr)/\vA cs.size fr/\(k=false->¬ (fr.1<=cs.size/\cs.size<fr.2))
 tape:w'.tape=w.tape
 os:w'.os=w.os
 output:w'.output=w.output
def wB(w:World)(a:Array Value)(e:TypeId):Ad w (w.alloc (.cells a e)) a where
 size:=by show(w.heap.push _).size=_;simp
 old:=λb u=>by show(w.heap.push _)[b]?=_;rw[ai3 u,jN u]
 new:=⟨e,(0,0),by show(w.heap.push _)[w.heap.size]?=_;simp,λj _=>by simp,λ_=>by simp⟩
 tape:=rfl
 os:=rfl
 output:=rfl
def abj(w:World)(a:Array Value)(e:TypeId):Ad w (w.drew.alloc (.cells a e)) a where
 size:=by show(w.heap.push _).size=_;simp
 old:=λb u=>by show(w.heap.push _)[b]?=_;rw[ai3 u,jN u]
 new:=⟨e,(0,0),by show(w.heap.push _)[w.heap.size]?=_;simp,λj _=>by simp,λ_=>by simp⟩
 tape:=rfl
 os:=rfl
 output:=rfl
def iI(a:Nat->G)(b:Nat)(x:G):Nat->G:=λi=>if i=b then x else a i
def qj{a:Nat->G}{b:Nat}{x:G}:iI a b x b=x:=cM rfl
def j1{a:Nat->G}{b i:Nat}{x:G}(h:i≠b):iI a b x i=a i:=cN h
def OF{u:Nat->G}{w w':World}{A:Array Value}{k:Bool}(e:Ad w w' A k)(y:∀b,w.heap.size<=b->u b=.fr)(x:G)(X:Rt->dv->Prop):dK X u w (iI u w.heap.size x) w':=by
 have j:∀b,u b≠.fr->b<w.heap.size:=λb h=>aiW λD=>h (y b (by omega));refine⟨λb a=>?_,λb q p a _=>?_,λb a h=>?_,by rw[e.size];omega,λb a=>?_,e.tape,e.os,e.output⟩
 ·have:=j b (by rw[a];simp);exact⟨by rw[j1 (by omega)];exact a,e.old b this⟩
 ·have:=j b (by rw[a];simp);exact⟨by rw[j1 (by omega)];exact a,e.old b this⟩
 ·exact⟨by rw[j1 (by omega)];exact h,e.old b a⟩
 ·rw[e.size] at a;rw[j1 (by omega)];exact y b (by omega)
section
variable{C:Cx}{E:Env}{s:TS}{g:Gs}{w w':World}{γ':Nat->G}{X:Rt->dv->Prop}
def Gj(j:dK X g.γ w γ' w')(hx:∀q p,X q p->∃n,q=.cE n)(p:Pl)(u:VO (g.rc C w) p):(Gs.rc C {g with γ:=γ'} w').va p=(g.rc C w).va p/\VO (Gs.rc C {g with γ:=γ'} w') p:=nv (C:=C) (g:=g) (g':={g with γ:=γ'}) j p u (oq j λq x _ a=>by obtain⟨n,e⟩:=hx _ _ a;exact jk q n e) (λ_ _ _=>rfl) (λk _=>⟨rfl,λa=>by obtain⟨n,e⟩:=hx _ _ a;simp at e⟩)
def Rd.tR{c:Rc}{m:Option Gp}{a:TV}{v:Value}(h:Rd c m a v){p:Pl}(u:MV p a):VO c p:=by
 cases u with
 |vw=>cases h;assumption
 |pa=>cases h;assumption
 |sl=>cases h;assumption
 |ep=>cases h;assumption
 |agg F t x=>
  cases h with
  |agg _ _ vs H I J y=>
   obtain⟨j,A,D⟩:=p8 x;have e:=y j _ (vs[j]'(by omega)) (by rw[eN A,D]) (jN _);generalize lh m 0 j=M at e;cases e;assumption
end
end
section
section
variable{C:Cx}{E:Env}{s:TS}{g:Gs}{w w':World}{γ':Nat->G}{X:Rt->dv->Prop}
def cQ.grow(h:cQ C E s g w)(u:dK X g.γ w γ' w')(hx:∀q p,X q p->∃n,q=.cE n):cQ C E s {g with γ:=γ'} w':=by
 refine h.nF (g':={g with γ:=γ'}) u (λk=>.inr ⟨rfl,rfl,λp e=>by obtain⟨n,j⟩:=hx _ _ e;simp at j,?_⟩) (λk=>.inr ⟨rfl,rfl,λp e=>by obtain⟨n,j⟩:=hx _ _ e;simp at j⟩);exact⟨λ_ _=>rfl,λp e=>⟨(Gj u hx p ((h.fQ k).tR e)).1,λy=>(Gj u hx p y).2⟩,λp e D x=>by obtain⟨n,j⟩:=hx _ _ x;exact jk p n j⟩
def Rd.grow{m:Option Gp}{tv:TV}{v:Value}(h:Rd (g.rc C w) m tv v)(e:dK X g.γ w γ' w')(hx:∀q p,X q p->∃n,q=.cE n)(y:∀q p,m=some (q,p)->∀u,¬ X q (p++u)):Rd (Gs.rc C {g with γ:=γ'} w') m tv v:=h.same (λb j=>e.im b j) (λq p D b u j=>e.at' b _ _ j (y q p D u)) (λ_ _=>rfl) (λp F=>⟨(Gj e hx p (h.tR F)).1,λH=>(Gj e hx p H).2⟩) (λp _ b u j=>e.at' b _ _ j (λx=>by obtain⟨n,I⟩:=hx _ _ x;exact jk p n I))
def J6(h:cQ C E s g w){y:Array Value}{k:Bool}(nb:Ad w w' y k){n:Nat}{d:Bool}{t:Ty}{xs:List (El t)}{cap:Nat}(f:Nat->Nat->Value)(N:xs.length<=cap)(Q:cap*cI t<=y.size)
  (S:∀(r:Nat)x(j:Nat)tv,xs[r]?=some x->(enc d t x)[j]?=some tv->y[r*cI t+j]?=some (f r j)/\(f r j).oneCell'=true)
  (U:∀(r:Nat)x(j:Nat)tv,xs[r]?=some x->(enc d t x)[j]?=some tv->Rd (g.rc C w) (some (.cE n,[((r:Int),cj t j)])) tv (f r j))(F:k=true->X6 t=true:=by first|(intro h;cases h;done)|exactλ_=>rfl):
  cQ C E s {g with γ:=iI g.γ w.heap.size (.at (.cE n) [tg t])} w'/\Rd (Gs.rc C {g with γ:=iI g.γ w.heap.size (.at (.cE n) [tg t])} w') (some (.cE n,[])) (.own d t xs) (.slice (some ⟨w.heap.size,0,none⟩) xs.length cap)/\
  dK (λ_ _=>False) g.γ w (iI g.γ w.heap.size (.at (.cE n) [tg t])) w':=by
 have u:dK (λ_ _=>False) g.γ w (iI g.γ w.heap.size (.at (.cE n) [tg t])) w':=OF nb h.cL.new _ _;obtain⟨e,fr,M,H,I⟩:=nb.new;have H:ng t y.size fr:=⟨H,λh=>I (by cases k with|false=>rfl|true=>rw[F rfl] at h;cases h)⟩;refine⟨h.grow u (λ_ _ D=>D.elim),?_,u⟩;refine .kE _ _ _ _ _ w.heap.size 0 cap y e fr f N qj M H (by omega) (λr x j tv hx J=>?_) (λr x j tv hx J=>?_)
 ·obtain⟨Y,h2⟩:=S r x j tv hx J;exact⟨by simp[eK,World.cell?,Gs.rc,M,Y],h2⟩
 ·exact(U r x j tv hx J).grow u (λ_ _ D=>D.elim) (λ_ _ _ _ D=>D)
end
def kY{R:Type}(P:Program)(C:Cx)(E:Env)(nt:Nat)(o:Oper)(g:Gs)(a:Act)(w:World)(K:TS->Option R)(r:R)(Z:Rt->Prop)(X:Rt->dv->Prop)(nb:Nat->Prop):Prop:=∃e,K e=some r/\vC P o a w (λj w'=>∃u,Out C E nt (λq p=>XZ Z q p\/X q p) o.dst nb g w e j w' u)
section
variable{P:Program}{C:Cx}{E:Env}{nt n:Nat}{o:Oper}{s B:TS}{g g1:Gs}{a:Act}{w A:World}{R:Type}{r:R}{K:TS->Option R}{Z:Rt->Prop}{γ1:Nat->G}{tv:TV}{v:Value}{X:Rt->dv->Prop}{nb:Nat->Prop}
def gW.b(h:gW P C E nt o g a w K r Z):kY P C E nt o g a w K r Z X nb:=by
 obtain⟨j,u,x⟩:=h;exact⟨j,u,λnext Q y=>x next Q (λD w'⟨F,e⟩=>y D w' ⟨F,{e with gD:=e.gD.mono (λq p hx=>.inl hx),bx:=λk _=>e.bx k (λh=>h)}⟩)⟩
def Ch(F:cQ C E B g1 A)(j:g1.tm=g.tm)(x:∀k,¬ nb k->g1.bx k=g.bx k)(y:dK (λq p=>XZ Z q p\/X q p) g.γ w g1.γ A)(l:eE nt g a)(H:ij nt o.dst)(I:Rd (g1.rc C A) (some (.cE n,[])) tv v)
  (J:(execOp a.eval o).run P w=.ok (.value v) A)(u:K (eA C B o.dst tv)=some r):kY P C E nt o g a w K r Z X nb:=by
 obtain⟨D,M,f2⟩:=F.put (d:=o.dst) I;refine⟨_,u,λnext Q e=>?_⟩;simp only[Oper.wp,J,Oper.upon];refine e _ _ ⟨_,M,(l.same (g':={g1 with γ:=D}) j).put H,?_,λk u=>(KJ _ _ _ _ u).trans (by rw[j]),λk u=>by rw[Gi];exact x k u⟩;rw[Gh];refine(y.trans (f2.gD F.cL.new)).mono (λq p hx=>?_);rcases hx with hx|⟨hx,N⟩
 ·exact hx
 ·exact .inl ⟨.inr ⟨n,hx⟩,N⟩
def IQ{t:TypeId}(h:vB P t=true):∃i z,P.info? t=some i/\i.zero=some z/\mA P t=z.cells.toList:=by
 unfold vB at h;cases e:P.info? t with
 |none=>simp[e] at h
 |some i=>
  simp only[e] at h;obtain⟨z,j⟩:=ai4.1 h;exact⟨i,z,rfl,j,by simp[mA,e,j]⟩
def acy{z:Array Value}{n r j k:Nat}(e:k=z.size)(u:j<k)(x:r*k+j<n):(madeCells z n)[r*k+j]?=z[j]?:=by
 have y:(r*k+j) % z.size=j:=by rw[<-e,vY,Zo];exact AA u
 simp only[madeCells];rw[aiY,Array.getElem?_range];simp only[x,gE,jx,y];rw[Zp z j (by omega),jN (by omega)]
def aab(hC:ga P C)(h:cQ C E s g w)(l:eE nt g a)(hd:ij nt o.dst){t:Nat}{x y:Operand}(ho:o.op=.makeSlice t x y)(hx:fD nt x=true)(hy:fD nt y=true)(U:Ev.step C o s K=some r):kY P C E nt o g a w K r Z X nb:=by
 simp only[Ev.step,ho] at U;have aa:=iU h l hx;have ab:=iU h l hy;split at U
 ·rename_i e sz gq k1 n k2 m ai h1 h2;rw[h1] at aa;rw[h2] at ab;have aj:=aa.kz;have ak:=ab.kz;obtain⟨xs,u,U⟩:=fa.1 U;unfold xU at u;split at u
  ·rename_i hc;obtain⟨h0,am,hb,av⟩:=hc;simp only[di] at u;subst u;obtain⟨et,hu,an,_,ao⟩:=vn (hC.ty t) ai;obtain⟨ap,aw,hz,F,_⟩:=rQ an;obtain⟨i,z,hi,aq,M⟩:=IQ hz;have ad:i.size=cI e:=by rw[<-ap];simp[Program.cellsOf,hi]
   have ae:i.bytes=gq:=by rw[<-ao];simp[Program.bytesOf,hi]
   have au:z.cells.size=cI e:=by
    rw[M] at F
    have:=(CW (c:=g.rc C w) (m:=λ_=>none) F).1
    rw[iu] at this
    simpa using this
   have I:=run_make (P:=P) w t et i z hu hi aq k1 k2 n m h0 am (by rw[ae,Int.mul_comm];omega) (by omega);rw[ad] at I;have J:∀(r:Nat)(x:El e)(j:Nat)tv,(List.replicate n.toNat (pV e))[r]?=some x->(enc true e x)[j]?=some tv->x=pV e/\r<n.toNat/\j<cI e:=λr x j tv hx H=>by
    obtain⟨N,he⟩:=eT.1 hx
    have N:r<n.toNat:=by simpa using N
    have:=(eT.1 H).1
    rw[iu] at this
    exact⟨by rw[<-he];simp,N,this⟩
   have af:∀r,r<n.toNat->r*cI e+cI e<=m.toNat*cI e:=λr Y=>by
    have:(r+1)*cI e<=m.toNat*cI e:=mT _ (by omega)
    rwa[jO,qa] at this
   have D:∀(r:Nat)(j:Nat),r<n.toNat->j<cI e->(madeCells z.cells (m.toNat*cI e))[r*cI e+j]?=some (z.cells[j]?.getD undef)/\z.cells[j]?=some (z.cells[j]?.getD undef):=λr j Y H=>by
    have:=af r Y
    rw[acy au.symm H (by omega),jN (by omega)]
    exact⟨rfl,rfl⟩
   obtain⟨h3,h4,h5⟩:=J6 (n:=0) (d:=true) (t:=e) (xs:=List.replicate n.toNat (pV e)) (cap:=m.toNat) h (wB w (madeCells z.cells (m.toNat*cI e)) et) (λ_ j=>z.cells[j]?.getD undef) (by simp;omega) (by rw[Zq];exact iN _)
    (λr x j tv hx H=>by
      obtain⟨rfl,Y,Q⟩:=J r x j tv hx H
      obtain⟨ah,S⟩:=D r j Y Q
      refine⟨ah,(Wn F true (g.rc C w) j tv _ H (by rw[M,l7];exact S) none).2⟩)
    (λr x j tv hx H=>by
      obtain⟨rfl,Y,Q⟩:=J r x j tv hx H
      obtain⟨ah,S⟩:=D r j Y Q
      exact(Wn F true (g.rc C w) j tv _ H (by rw[M,l7];exact S) _).1);simp only[Zr] at h4;exact Ch (g1:={g with γ:=iI g.γ w.heap.size (.at (.cE 0) [tg e])}) h3 rfl (λ_ _=>rfl) (h5.mono (λ_ _ hf=>hf.elim)) l hd h4 (by simp only[execOp,ho,aj,ak];simp[I]) U
  ·simp at u
 ·simp at U
def aaF(w:World)(e:TypeId)(x:ByteArray):Ad w (Lib.bytesWorld w e x) (Lib.bytesCells w e x) true where
 size:=ai5 w e x
 old:=λb u=>ai6 w e x b u
 new:=⟨_,_,Lib.bytesWorld_at_new w e x,λj y=>by simp;omega,λh=>by cases h⟩
 tape:=by simp[Lib.bytesWorld,World.freeze]
 os:=by simp[Lib.bytesWorld,World.freeze];rfl
 output:=by simp[Lib.bytesWorld,World.freeze];rfl
def afI{t:Nat}(h:jq P C t (C.dj t)=true)(e:(C.dj t).var=true):∃d,P.underlying t=some d:=(qm h e).2.2.2.1
def CI(w:World)(y:List Int)(u:Value):Prop:=(y=[]/\∃a e,u=.slice a 0 e)\/∃b j e,u=.slice (some ⟨b,j,none⟩) y.length e/\∀(i:Nat)x,y[i]?=some x->eK w b (j+i)=some (.int .u8 x)
def Nj{c:Rc}{m:Option Gp}{tv:TV}{u:Value}{J:List (El (.int .u8))}(h:fq (.int .u8) tv=some J)(y:Rd c m tv u):CI c.w J u:=by
 have F:∀{b H:Nat}{d:Bool}{f:Nat->Nat->Value}{M:Nat->Option Gp},(∀(r:Nat)(x:El (.int .u8))(j:Nat)tv,J[r]?=some x->(enc d (.int .u8) x)[j]?=some tv->eK c.w b (H+r*cI (.int .u8)+j)=some (f r j)/\(f r j).oneCell'=true)->
   (∀(r:Nat)(x:El (.int .u8))(j:Nat)tv,J[r]?=some x->(enc d (.int .u8) x)[j]?=some tv->∃m,Rd c m tv (f r j))->∀(i:Nat)x,J[i]?=some x->eK c.w b (H+i)=some (.int .u8 x):=λ{b H d f M}I y i x hx=>by
  obtain⟨Q,_⟩:=I i x 0 _ hx rfl
  obtain⟨m,U⟩:=y i x 0 _ hx rfl
  rw[U.kz,show cI (.int .u8)=1 from rfl,Mi,rI] at Q
  exact Q
 rcases rT h with rfl|rfl|⟨d,rfl⟩|⟨rfl,rfl⟩|⟨rfl,rfl⟩
 ·rcases y.qZ with⟨rfl,a,D,rfl⟩|⟨b,o,D,f,rfl,Y,S,I,y⟩
  ·exact .inl ⟨rfl,a,D,rfl⟩
  ·exact .inr ⟨b,o,D,rfl,F (M:=λ_=>none) I (λr x j tv hx N=>⟨_,y r x j tv hx N⟩)⟩
 ·rcases y.J0 with⟨rfl,a,rfl⟩|⟨b,o,f,rfl,S,I,y⟩
  ·exact .inl ⟨rfl,a,0,rfl⟩
  ·exact .inr ⟨b,o,_,rfl,F (M:=λ_=>none) I (λr x j tv hx N=>⟨_,y r x j tv hx N⟩)⟩
 ·rcases y.lT with⟨rfl,a,rfl⟩|⟨q,p,b,o,D,cs,e,fr,f,hm,rfl,Y,S,hh,hu,hs,I,y⟩
  ·exact .inl ⟨rfl,a,0,rfl⟩
  ·exact .inr ⟨b,o,D,rfl,F (M:=λ_=>none) I (λr x j tv hx N=>⟨_,y r x j tv hx N⟩)⟩
 ·cases y;exact .inl ⟨rfl,none,0,rfl⟩
 ·cases y;exact .inl ⟨rfl,_,0,rfl⟩
def abk{src e y:TypeId}(H:P.underlying src=some (.slice y))(I:P.underlying y=some (.int .u8))(J:P.underlying e=some .string){x:List Int}{u:Value}(h:CI w x u):
  (convert src e u).run P w=.ok (.string ⟨⟨je x⟩⟩) w:=by
 rcases h with⟨rfl,a,j,rfl⟩|⟨b,D,j,rfl,M⟩
 ·cases a with
  |none=>
   rw[run_convert_bytes_nil w src y H I 0 j e J];rfl
  |some a=>
   rw[run_convert_bytes_string w src e y _ 0 j H I J,run_bytesToString w a 0 j [] (by simp[loadCells,loadCellsFrom])];rfl
 ·have hx:=run_convert_bytes_arg (P:=P) w src y H I b D x.length j x rfl (λi N=>by
    have F:x[i]?=some x[i]:=eN N
    have Q:w.cell? ⟨b,D+i,none⟩=some (.int .u8 x[i]):=M i _ F
    rw[Q]
    simp[List.getD,F]) e J;rw[hx];simp[strOfNums,je]
def CI.sub{y:List Int}{a F:Option Addr}{len cap e:Nat}{lo hi:Int}(h:CI w y (.slice a len cap))(N:0<=lo)(Q:lo<=hi)(I:hi<=y.length)(H:e=0\/∃b o,a=some ⟨b,o,none⟩/\F=some ⟨b,o+lo.toNat*1,none⟩)(S:hi.toNat-lo.toNat<=e):
  CI w ((y.drop lo.toNat).take (hi.toNat-lo.toNat)) (.slice F (hi.toNat-lo.toNat) e):=by
 have j:((y.drop lo.toNat).take (hi.toNat-lo.toNat)).length=hi.toNat-lo.toNat:=by simp;omega
 by_cases hz:hi.toNat-lo.toNat=0
 ·left;rw[hz];exact⟨by simp,_,_,rfl⟩
 ·rcases H with H|⟨b,o,rfl,rfl⟩
  ·omega
  rcases h with⟨rfl,U,u,D⟩|⟨Y,J,u,D,M⟩
  ·simp at I;omega
  ·simp only[kH,di,mS,jB] at D;obtain⟨⟨rfl,rfl⟩,_,rfl⟩:=D
   right
   refine⟨b,o+lo.toNat*1,e,by rw[j],λi x hx=>?_⟩;rw[o5] at hx;split at hx
   ·rw[vW] at hx;rw[Mi,o6];exact M _ _ hx
   ·simp at hx
def Va{k:IntKind}{e:TypeId}(h:Hd P (.int k) e=true):P.underlying e=some (.int k):=by
 unfold Hd at h;split at h
 ·rename_i k1 k2 j u;simp only[Ty.int.injEq] at j;simp at h;rw[u,<-h,j]
 all_goals(first|(simp_all;done)|(simp[Ev.gJ] at h;done))
def aah{e:TI}(h:CR e=true):∃j gq,e=.sl (.int .u8) j gq:=by
 unfold CR at h;split at h
 ·exact⟨_,_,rfl⟩
 ·simp at h
def aaG(hC:ga P C)(h:cQ C E s g w)(l:eE nt g a)(hd:ij nt o.dst){src I:Nat}{x:Operand}(ho:o.op=.convert src I x)(hx:fD nt x=true)(e:Ev.step C o s K=some r):kY P C E nt o g a w K r Z X nb:=by
 simp only[Ev.step,ho] at e;obtain⟨N,e⟩:=dY.1 e;have y:=iU h l hx;have bytes:∀{xs:List Int},C.dj I=.str->CR (C.dj src)=true->CI w xs (a.eval x)->K (eA C s o.dst (.s (je xs)))=some r->kY P C E nt o g a w K r Z X nb:=by
  intro xs D J hb e
  obtain⟨sz,an,Q⟩:=aah J
  obtain⟨et,hu,ad,_,_⟩:=vn (hC.ty src) Q
  obtain⟨_,_,_,_,hK⟩:=rQ ad
  have:=abk (P:=P) hu (Va hK) (u9 (hC.ty I) D) hb
  exact(kx (Z:=Z) h l hd (.s none _) rfl (by simp only[execOp,ho];simp[this]) e).b
 split at e
 ·rename_i k1 n k2 F D;rw[F] at y N;have ao:(C.dj src).var=true:=by cases S:C.dj src<;>rw[S] at N<;>first|rfl|simp[jA] at N
  obtain⟨d,U⟩:=afI (hC.ty src) ao;have Y:=Wi (hC.ty I) D;refine(kx (Z:=Z) h l hd (.i none k2 _) rfl ?_ e).b;simp only[execOp,ho,y.kz];simp[convert,lx U,lx Y,Conv.intToInt,eY]
 ·rename_i b F D;rw[F] at y N;have Q:C.dj src=.str:=by cases S:C.dj src<;>rw[S] at N<;>first|rfl|simp[jA] at N
  have U:=u9 (hC.ty src) Q;have Y:=u9 (hC.ty I) D;refine(kx (Z:=Z) h l hd (.s none _) rfl ?_ e).b;simp only[execOp,ho,y.nT];simp[convert,lx U,lx Y]
 ·rename_i b sz an F D;rw[F] at y N;have Q:C.dj src=.str:=by cases S:C.dj src<;>rw[S] at N<;>first|rfl|simp[jA] at N
  have U:=u9 (hC.ty src) Q;obtain⟨et,Y,ad,_,_⟩:=vn (hC.ty I) D;obtain⟨_,_,_,_,hK⟩:=rQ ad;obtain⟨_,az,e⟩:=fa.1 e;have am:=Lib.run_convert_string_bytes (P:=P) w src I et ⟨⟨b⟩⟩ U Y (Va hK);have ap:(ByteArray.mk ⟨b⟩).size=b.length:=rfl;have aq:=Zs w (ByteArray.mk ⟨b⟩).size 0 et;have au:(Lib.bytesCells w et ⟨⟨b⟩⟩).size=grownCap w (ByteArray.mk ⟨b⟩).size 0 et:=by
   simp only[Lib.bytesCells,QF,Array.size_map,QG]
   have h1:(ByteArray.mk ⟨b⟩).data.size=(ByteArray.mk ⟨b⟩).size:=rfl
   rw[h1]
   omega
  have ae:∀(r:Nat)(x:Int),(dL b)[r]?=some x->(Lib.bytesCells w et ⟨⟨b⟩⟩)[r]?=some (.int .u8 x):=λr x hx=>by
   simp only[dL,iA,yj] at hx
   obtain⟨c,hc,rfl⟩:=hx
   have av:=(eT.1 hc).1
   have aw:=(eT.1 hc).2
   simp[Lib.bytesCells,Array.getElem?_append,av,aw]
  have ab:(dL b).length=(ByteArray.mk ⟨b⟩).size:=by simp[dL,ap]
  obtain⟨h3,h4,h5⟩:=J6 (n:=0) (d:=true) (t:=.int .u8) (xs:=dL b) (cap:=grownCap w (ByteArray.mk ⟨b⟩).size 0 et) h (aaF w et ⟨⟨b⟩⟩) (λr _=>((dL b)[r]?.map (Value.int .u8)).getD undef) (Av (Zt ab) aq) (by rw[au];simp[cI])
   (λr x j tv hx hj=>by
     cases j with
     |zero=>
      have af:(dL b)[r]?=some (show Int from x):=hx
      rw[show r*cI (.int .u8)+0=r by simp[cI]]
      have hf:(((dL b)[r]?.map (Value.int .u8)).getD undef)=Value.int .u8 (show Int from x):=by rw[af];rfl
      exact⟨(ae r x hx).trans (by rw[hf]),by rw[hf];rfl⟩
     |succ j=>simp[enc] at hj)
   (λr x j tv hx hj=>by
     cases j with
     |zero=>
      have af:(dL b)[r]?=some (show Int from x):=hx
      have hf:(((dL b)[r]?.map (Value.int .u8)).getD undef)=Value.int .u8 (show Int from x):=by rw[af];rfl
      simp[enc] at hj;subst hj
      show Rd _ _ _ (((dL b)[r]?.map (Value.int .u8)).getD undef)
      rw[hf];exact .i _ _ _
     |succ j=>simp[enc] at hj);have ah:List.length (α:=El (.int .u8)) (dL b)=(ByteArray.mk ⟨b⟩).size:=ab;exact Ch (g1:={g with γ:=iI g.γ w.heap.size (.at (.cE 0) [tg (.int .u8)])}) h3 rfl (λ_ _=>rfl) (h5.mono (λ_ _ hf=>hf.elim)) l hd h4 (by simp only[execOp,ho,y.nT];simp[am];exact ah.symm) e
 ·rename_i p t' F D;rw[F] at y N;obtain⟨J,e⟩:=dY.1 e;obtain⟨tv,hg,e⟩:=py e;have ai:(g.rc C w).va p=some (a.eval x):=by generalize iY x=m at y;cases y;assumption
  have hl:=qi h ai hg;split at e
  ·rename_i xs M;rcases hl with rfl|hl
   ·simp[fq] at M
   exact bytes D J (Nj M hl) e
  ·simp at e
 ·rename_i p t0 lo hi F D;rw[F] at y N;obtain⟨J,e⟩:=dY.1 e;obtain⟨tv,hg,e⟩:=py e;obtain⟨aa,aj,cap,a',H,aA,ai,ax,h2,h3,h4,h5,h6,h7⟩:∃aa aj cap a' H,VO (g.rc C w) p/\(g.rc C w).va p=some (.slice aa aj cap)/\a.eval x=.slice a' (hi.toNat-lo.toNat) H/\0<=lo/\lo<=hi/\hi<=(aj:Int)/\
    (H=0\/∃b o,aa=some ⟨b,o,none⟩/\a'=some ⟨b,o+lo.toNat*cI t0,none⟩)/\hi.toNat-lo.toNat<=H/\H+lo.toNat<=cap:=by
   generalize iY x=m at y
   generalize a.eval x=u at y
   cases y;exact⟨_,_,_,_,_,by assumption,by assumption,rfl,by assumption,by assumption,by assumption,by assumption,by assumption,by assumption⟩
  have hl:=qi h ai hg;split at e
  ·rename_i xs M;obtain⟨ak,e⟩:=dY.1 e;have ak:=fG ak;subst ak;obtain⟨ys,ay,e⟩:=fa.1 e;obtain⟨⟨_,_,h9⟩,rfl⟩:=tj.1 ay;rcases hl with rfl|hl
   ·simp[fq] at M
   have hb:=(Nj M hl).sub h2 h3 h9 (by simpa[cI] using h5) h6;rw[<-ax] at hb;exact bytes D J hb e
  ·simp at e
 ·obtain⟨J,e⟩:=dY.1 e;split at e
  ·rename_i xs M;exact bytes (by assumption) J (Nj M y) e
  ·simp at e
 ·simp at e
end
end
end Go.Sd
