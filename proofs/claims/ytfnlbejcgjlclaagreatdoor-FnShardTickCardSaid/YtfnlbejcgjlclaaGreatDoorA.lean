/- An evaluator of the program code, and how what it reckons with stands to the values and memory of the model. No conditions. -/
import Derived.Calls
import Derived.Below
import Derived.Laws.Cells
import Derived.Laws.IdiomCopy
import Derived.Laws.StructEq
import Derived.Laws.BytesString
import Derived.Laws.Slices
import Derived.Laws.BytesArg
import Derived.Laws.MakeOwn
import Derived.Deep.AppendSrc
import Derived.Lib.ConvBytes
set_option linter.all false
def Am:=@true_and
def An:=@List.getElem?_drop
def Ao:=@Nat.sub_self
def Ap:=@Nat.add_comm
def Aq:=@List.foldl_cons
def Ar:=@Nat.mul_comm
def As:=@Nat.pow_le_pow_right
def CF:=@Nat.zero_le
def CG:=@Option.map_eq_some_iff
def CH:=@List.mem_range
def CI:=@Array.getElem?_eq_none
def CJ:=@List.singleton_append
def CK:=@Nat.lt_or_ge
def CM:=@List.map_congr_left
def CN:=@Bool.or_eq_true
def CO:=@Bool.false_and
def Fh:=@Nat.le_trans
def Fi:=@Option.bind_eq_some_iff
def Fj:=@List.mem_or_eq_of_mem_set
def Fk:=@List.take_zero
def Fm:=@List.getElem?_range
def Fo:=@Nat.mod_eq_of_lt
def Fp:=@List.pairwise_cons
def Fq:=@List.pairwise_append
def Fs:=@List.take_of_length_le
def Ja:=@List.getElem?_set_ne
def Jb:=@Array.length_toList
def Jc:=@List.replicate_succ
def Jd:=@Prod.ext
def Je:=@not_or
def Jf:=@Nat.lt_of_not_le
def Jg:=@List.map_map
def Jh:=@Int.ediv_nonneg
def Ji:=@Int.emod_nonneg
def Jj:=@Int.emod_lt_of_pos
def Jk:=@Nat.mul_le_mul_left
def Oh:=@Nat.zero_mul
def Oi:=@List.all_cons
def Oj:=@List.getElem?_set_self
def Ol:=@List.foldl_nil
def Om:=@Array.size_setIfInBounds
def On:=@Array.toList_append
def Oo:=@Iff.rfl
def Oq:=@List.mem_iff_getElem?
def Ot:=@List.foldr_cons
def Ou:=@Bool.or_false
def Ov:=@Bool.eq_iff_iff
def Ow:=@List.append_nil
def Ox:=@List.mem_of_mem_drop
def Oy:=@Int.ediv_le_self
def Oz:=@Int.mul_nonneg
def UA:=@Eq.trans
def Uq:=@Nat.lt_of_lt_of_le
def Ur:=@List.append_cancel_left
def Us:=@List.eq_nil_of_length_eq_zero
def Ut:=@dif_pos
def Uu:=@Nat.mul_one
def Uv:=@List.size_toArray
def Uw:=@Nat.mod_lt
def Ux:=@Nat.mul_le_mul
def Uy:=@List.head?_cons
def Uz:=@ne_eq
def aD:=@if_pos
def aE:=@if_neg
def aF:=@cond_true
def aH:=@cond_false
def aQ:=@Option.some.injEq
def aaA:=@List.range'_succ
def aaB:=@Array.getElem?_replicate
def aaC:=@Function.comp_apply
def aaD:=@List.map_id
def aaE:=@List.countP_cons
def aaF:=@List.mem_filter
def aaG:=@List.length_set
def aaH:=@Nat.min_def
def aaI:=@List.drop_of_length_le
def aaJ:=@Nat.sub_zero
def aaK:=@List.pairwise_iff_getElem
def aaL:=@Int.tmod_eq_emod_of_nonneg
def aaM:=@Int.min_eq_right
def aaN:=@Int.min_eq_left
def aaO:=@List.length_pos_iff
def aaP:=@List.range_succ
def aaQ:=@List.flatten_cons
def aaR:=@List.length_range
def aaS:=@List.flatten_append
def aaT:=@Nat.mul_add
def aaU:=@Int.mul_le_mul_of_nonneg_left
def aaV:=@Nat.one_le_pow
def aau:=@Array.size_append
def aav:=@Array.size_replicate
def aaw:=@Array.getElem?_append_left
def aax:=@Nat.div_eq_of_lt
def aay:=@Nat.div_lt_of_lt_mul
def aaz:=@Nat.div_add_mod
def ak0:=@not_false_eq_true
def ak1:=@List.sum_append
def ak2:=@List.sum_cons
def ak3:=@Int.mul_le_mul
def ak4:=@List.take_prefix
def akA:=@Nat.le_of_eq
def akB:=@Array.toList_map
def akC:=@Nat.le_of_ble_eq_true
def akD:=@Bool.and_eq_false_iff
def akE:=@List.ext_getElem?
def akF:=@List.getElem?_toArray
def akG:=@Option.getD_some
def akH:=@Array.getElem?_eq_some_iff
def akI:=@List.drop_left
def akJ:=@List.range_eq_range'
def akK:=@Bool.false_or
def akL:=@List.any_eq_false
def akM:=@Bool.and_false
def akN:=@Bool.true_or
def akO:=@List.getElem_drop
def akP:=@Bool.cond_eq_ite
def akQ:=@Int.natCast_add
def akR:=@Int.mul_add
def akS:=@Int.tdiv_eq_ediv_of_nonneg
def akT:=@List.take_append_drop
def akU:=@UInt8.toNat_ofNat'
def akV:=@UInt8.toNat_inj
def akW:=@beq_eq_false_iff_ne
def akX:=@List.take_succ_cons
def akY:=@List.set_getElem_self
def akZ:=@List.filter_cons
def akt:=@Array.getElem?_setIfInBounds_ne
def aku:=@Array.mem_of_getElem?
def akv:=@List.getElem?_cons_succ
def akw:=@Int.le_refl
def akx:=@Nat.add_mul_mod_self_right
def aky:=@getElem!_pos
def akz:=@List.length_replicate
def ayA:=@Array.getElem?_modify
def ayC:=@Nat.add_mul_div_right
def ayE:=@List.append_cancel_left_eq
def ayF:=@Nat.add_sub_cancel_left
def ayJ:=@Array.toList_setIfInBounds
def ayL:=@List.head?_eq_getElem?
def ayN:=@List.replicate_succ'
def ayO:=@List.drop_append_of_le_length
def ayP:=@List.prefix_iff_eq_take
def ayQ:=@List.isPrefixOf_iff_prefix
def ayR:=@List.drop_succ_cons
def ayT:=@Bool.eq_false_iff
def ayU:=@List.set_append_right
def ayV:=@List.set_cons_zero
def ayW:=@List.length_filter_le
def ayr:=@List.mem_of_getElem?
def ays:=@List.getElem?_set
def ayt:=@Classical.byContradiction
def ayu:=@Array.getElem?_setIfInBounds_self_of_lt
def ayv:=@Array.getElem?_map
def ayx:=@Array.getElem?_push_lt
def ayy:=@Option.isSome_iff_exists
def bH:=@decide_eq_true_eq
def bI:=@List.getElem_mem
def bo:=@Bool.and_eq_true
def cO:=@List.mem_cons
def cT:=@List.getElem?_eq_getElem
def cU:=@List.mem_append
def cZ:=@Prod.mk.injEq
def dG:=@List.length_append
def da:=@List.getElem?_eq_some_iff
def dy:=@Bool.not_true
def eC:=@Int.toNat_natCast
def ef:=@of_decide_eq_true
def fD:=@List.length_cons
def fM:=@if_true
def fW:=@decide_eq_true
def fc:=@decide_true
def fe:=@List.mem_singleton
def gB:=@Option.some.inj
def gD:=@Int.eq_ofNat_of_zero_le
def gE:=@Bool.not_false
def gQ:=@List.mem_map
def ga:=@decide_false
def gr:=@Nat.eq_of_beq_eq_true
def gu:=@decide_eq_false
def iI:=@Nat.le_refl
def iJ:=@Bool.false_eq_true
def iR:=@List.getD_eq_getElem?_getD
def ir:=@List.getElem?_map
def iu:=@Nat.zero_add
def iw:=@List.nil_append
def iy:=@if_false
def jA:=@Option.map_some
def jI:=@and_true
def jJ:=@List.all_eq_true
def jX:=@Array.getElem?_eq_getElem
def jY:=@Nat.add_mul
def jZ:=@List.length_nil
def kD:=@List.append_assoc
def lP:=@decide_eq_false_iff_not
def lv:=@List.length_take
def lx:=@List.drop_eq_getElem_cons
def mL:=@Bool.not_eq_true'
def mM:=@List.map_cons
def nh:=@List.cons.injEq
def ni:=@Array.getElem?_toList
def oN:=@List.length_drop
def oO:=@List.map_append
def oP:=@List.not_mem_nil
def oQ:=@or_false
def od:=@Nat.mul_le_mul_right
def oe:=@List.take_succ_eq_append_getElem
def pA:=@Bool.true_and
def pz:=@List.getElem?_eq_none
def q7:=@Ne.symm
def q8:=@List.getElem?_take
def q9:=@List.getElem_of_mem
def qf:=@List.length_map
def qg:=@List.length_eq_zero_iff
def ra:=@Nat.add_assoc
def rb:=@List.getElem?_append_left
def sA:=@Nat.one_mul
def sB:=@List.getElem?_append_right
def sC:=@Bool.not_eq_true
def sD:=@List.drop_length
def sE:=@List.cons_append
def sx:=@Option.bind_some
def sy:=@beq_iff_eq
def tT:=@List.getElem?_of_mem
def tU:=@List.getElem?_cons_zero
def uQ:=@Nat.add_zero
def uR:=@List.drop_drop
def wN:=@List.prefix_append
def wO:=@Nat.blt_eq
def wP:=@List.map_nil
def wQ:=@List.take_length
def wR:=@List.drop_zero
def wS:=@List.prefix_refl
def yA:=@List.mem_of_mem_take
def yw:=@Array.getD_eq_getD_getElem?
def yx:=@List.length_singleton
def yy:=@Nat.pow_succ
def yz:=@and_self
namespace Go.Ev
open Go
abbrev aj:=List UInt8
structure bc where
 txn:Int
 cls:Int
 aG:Int
structure ax where
 name:aj
 aC:aj
 to:aj
 dJ:Int
 arr:Int
 cap:Int
 bA:List Int
 bh:List Int
 cV:List Int
 holds:List bc
structure Mark where
 aC:Int
 cg:Int
inductive ah where
 |mk (op num:Int) (name:aj) (kids:List ah) (marks:List Mark)
def ah.op:ah->Int|.mk a _ _ _ _=>a
def ah.num:ah->Int|.mk _ a _ _ _=>a
def ah.name:ah->aj|.mk _ _ a _ _=>a
def ah.kids:ah->List ah|.mk _ _ _ a _=>a
def ah.marks:ah->List Mark|.mk _ _ _ _ a=>a
structure nO where
 name:aj
 num:Int
structure cP where
 op:Int
 num:Int
 name:aj
 marks:List Mark
structure eD where
 name:aj
 cls:Int
 nw:aj
structure aS where
 legs:List aj
 jd:aj
 aG:Int
structure aY where
 ba:aj
 cls:Int
 aG:Int
 share:Int
structure aK where
 kind:Int
 aC:Int
 to:Int
 txn:Int
 ops:List aY
 yes:Bool
structure dt where
 txn:Int
 aV:Int
 ops:List aY
structure aT where
 id:Int
 base:List ax
 log:aj
 up:Bool
 legs:List ax
 an:List dt
structure cp where
 txn:Int
 dP:Int
 back:Int
 eU:aS
 cg:Int
 aV:Int
 di:List Int
 yes:List Int
 jv:List Int
 mE:Int
structure bG where
 net:List ax
 gi:List Int
 cM:List eD
 log:aj
 up:Bool
 next:Int
 an:List cp
structure iT where
 dP:Int
 text:aj
structure World where
 dO:bG
 di:List aT
 fI:List aK
 told:List iT
structure Event where
 kind:Int
 at':Int
 n:Int
 dq:Bool
 eU:aS
structure Rd where
 b:List Int
 p:Int
structure eu where
 s:aj
 at':Int
 left:Int
 ok:Bool
inductive Ty where
 |bool
 |int (k:IntKind)
 |str
 |hold|ba|mark|nw|pair|ins|jd|eU|op|msg|stx|kF|ctx|dO|qp|world|event|rd|xP
 deriving DecidableEq
def El:Ty->Type|.bool=>Bool|.int _=>Int|.str=>aj|.hold=>bc|.ba=>ax|.mark=>Mark|.nw=>ah|.pair=>nO|.ins=>cP|.jd=>eD|.eU=>aS|.op=>aY|.msg=>aK|.stx=>dt|.kF=>aT|.ctx=>cp|.dO=>bG|.qp=>iT|.world=>World|.event=>Event|.rd=>Rd|.xP=>eu
inductive Pl where
 |slot (k:Nat)
 |cell (k c:Nat)
 |sub (p:Pl) (t:Ty) (r:Int) (c:Nat)
inductive TV where
 |un
 |b (x:Bool)
 |i (k:IntKind) (n:Int)
 |s (x:aj)
 |nil
 |gU
 |bJ (t:Ty) (xs:List (El t))
 |eM (t:Ty) (xs:List (El t))
 |own (d:Bool) (t:Ty) (xs:List (El t))
 |gJ (t:Ty) (xs:List (El t)) (r:Int) (c:Nat)
 |vec (t:Ty) (xs:List (El t))
 |vw (p:Pl) (t:Ty)
 |pa (p:Pl) (t:Ty) (xs:List (El t))
 |sl (p:Pl) (t:Ty) (lo hi:Int)
 |ptr (k c:Nat)
 |pe (k:Nat) (n:Int)
 |ep (p:Pl) (t:Ty) (r:Int) (c:Nat)
 |ip (cells:List TV) (c:Nat)
 |iv (t:Ty) (xs:List (El t))
 |agg (cs:List TV)
 |dM (vs:List TV)
 |fn (f:Nat) (cap:List TV)
 |mY
 |np
 |er (x:Bool)
def sc(d:Bool)(t:Ty)(a:List (El t)):TV:=
 match d with
 |true=>.own true t a
 |false=>.bJ t a
def enc(d:Bool):(t:Ty)->El t->List TV|.bool,x=>[.b x]|.int k,x=>[.i k x]|.str,x=>[.s x]|.hold,x=>[.i .i64 (bc.txn x),.i .i64 (bc.cls x),.i .i64 (bc.aG x)]|.ba,x=>[.s (ax.name x),.s (ax.aC x),.s (ax.to x),.i .i64 (ax.dJ x),.i .i64 (ax.arr x),.i .i64 (ax.cap x),sc d (.int .i64) (ax.bA x),sc d (.int .i64) (ax.bh x),sc d (.int .i64) (ax.cV x),sc d .hold (ax.holds x)]|.mark,x=>[.i .i64 (Mark.aC x),.i .i64 (Mark.cg x)]|.nw,x=>[.i .i64 (ah.op x),.i .i64 (ah.num x),.s (ah.name x),sc d .nw (ah.kids x),sc d .mark (ah.marks x)]|.pair,x=>[.s (nO.name x),.i .i64 (nO.num x)]|.ins,x=>[.i .i64 (cP.op x),.i .i64 (cP.num x),.s (cP.name x),sc d .mark (cP.marks x)]|.jd,x=>[.s (eD.name x),.i .i64 (eD.cls x),.s (eD.nw x)]|.eU,x=>[sc d .str (aS.legs x),.s (aS.jd x),.i .i64 (aS.aG x)]|.op,x=>[.s (aY.ba x),.i .i64 (aY.cls x),.i .i64 (aY.aG x),.i .i64 (aY.share x)]|.msg,x=>[.i .i64 (aK.kind x),.i .i64 (aK.aC x),.i .i64 (aK.to x),.i .i64 (aK.txn x),sc d .op (aK.ops x),.b (aK.yes x)]|.stx,x=>[.i .i64 (dt.txn x),.i .i64 (dt.aV x),sc d .op (dt.ops x)]|.kF,x=>[.i .i64 (aT.id x),sc d .ba (aT.base x),.s (aT.log x),.b (aT.up x),sc d .ba (aT.legs x),sc d .stx (aT.an x)]|.ctx,x=>[.i .i64 (cp.txn x),.i .i64 (cp.dP x),.i .i64 (cp.back x),sc d .str (cp.eU x).legs,.s (cp.eU x).jd,.i .i64 (cp.eU x).aG,.i .i64 (cp.cg x),.i .i64 (cp.aV x),sc d (.int .i64) (cp.di x),sc d (.int .i64) (cp.yes x),sc d (.int .i64) (cp.jv x),.i .i64 (cp.mE x)]|.dO,x=>[sc d .ba (bG.net x),sc d (.int .i64) (bG.gi x),sc d .jd (bG.cM x),.s (bG.log x),.b (bG.up x),.i .i64 (bG.next x),sc d .ctx (bG.an x)]|.qp,x=>[.i .i64 (iT.dP x),.s (iT.text x)]|.world,x=>[sc d .ba (World.dO x).net,sc d (.int .i64) (World.dO x).gi,sc d .jd (World.dO x).cM,.s (World.dO x).log,.b (World.dO x).up,.i .i64 (World.dO x).next,sc d .ctx (World.dO x).an,sc d .kF (World.di x),sc d .msg (World.fI x),sc d .qp (World.told x)]|.event,x=>[.i .i64 (Event.kind x),.i .i64 (Event.at' x),.i .i64 (Event.n x),.b (Event.dq x),sc d .str (Event.eU x).legs,.s (Event.eU x).jd,.i .i64 (Event.eU x).aG]|.rd,x=>[sc d (.int .u8) (Rd.b x),.i .i64 (Rd.p x)]|.xP,x=>[.s (eu.s x),.i .i64 (eu.at' x),.i .i64 (eu.left x),.b (eu.ok x)]
def ki{t a:Ty}(h:t=a)(e:List (El t)):List (El a):=h ▸e
def dN(t:Ty):TV->Option (List (El t))
 |.bJ a e=>if h:a=t then some (ki h e) else none
 |.eM a e=>if h:a=t then some (ki h e) else none
 |.own _ a e=>if h:a=t then some (ki h e) else none
 |.nil=>some []
 |.gU=>some []
 |_=>none
def dec:(t:Ty)->List TV->Option (El t)
 |.bool,[.b x]=>some x
 |.int k,[.i u x]=>if u=k then some x else none
 |.str,[.s x]=>some x
 |.hold,[.i .i64 a,.i .i64 b,.i .i64 c]=>some (bc.mk a b c)
 |.ba,[.s a,.s b,.s c,.i .i64 d,.i .i64 e,.i .i64 f,g,h,i,j]=>
  match dN (.int .i64) g,dN (.int .i64) h,dN (.int .i64) i,dN .hold j with
  |some g,some h,some i,some j=>some (ax.mk a b c d e f g h i j)
  |_,_,_,_=>none
 |.mark,[.i .i64 a,.i .i64 b]=>some (Mark.mk a b)
 |.nw,[.i .i64 a,.i .i64 b,.s c,d,e]=>
  match dN .nw d,dN .mark e with
  |some d,some e=>some (ah.mk a b c d e)
  |_,_=>none
 |.pair,[.s a,.i .i64 b]=>some (nO.mk a b)
 |.ins,[.i .i64 a,.i .i64 b,.s c,d]=>
  match dN .mark d with
  |some d=>some (cP.mk a b c d)
  |_=>none
 |.jd,[.s a,.i .i64 b,.s c]=>some (eD.mk a b c)
 |.eU,[a,.s b,.i .i64 c]=>
  match dN .str a with
  |some a=>some (aS.mk a b c)
  |_=>none
 |.op,[.s a,.i .i64 b,.i .i64 c,.i .i64 d]=>some (aY.mk a b c d)
 |.msg,[.i .i64 a,.i .i64 b,.i .i64 c,.i .i64 d,e,.b f]=>
  match dN .op e with
  |some e=>some (aK.mk a b c d e f)
  |_=>none
 |.stx,[.i .i64 a,.i .i64 b,c]=>
  match dN .op c with
  |some c=>some (dt.mk a b c)
  |_=>none
 |.kF,[.i .i64 a,b,.s c,.b d,e,f]=>
  match dN .ba b,dN .ba e,dN .stx f with
  |some b,some e,some f=>some (aT.mk a b c d e f)
  |_,_,_=>none
 |.ctx,[.i .i64 a,.i .i64 b,.i .i64 c,l,.s f,.i .i64 s,.i .i64 p,.i .i64 st,x,y,z,.i .i64 g]=>
  match dN .str l,dN (.int .i64) x,dN (.int .i64) y,dN (.int .i64) z with
  |some l,some x,some y,some z=>some (cp.mk a b c (aS.mk l f s) p st x y z g)
  |_,_,_,_=>none
 |.dO,[a,b,c,.s d,.b e,.i .i64 f,g]=>
  match dN .ba a,dN (.int .i64) b,dN .jd c,dN .ctx g with
  |some a,some b,some c,some g=>some (bG.mk a b c d e f g)
  |_,_,_,_=>none
 |.qp,[.i .i64 a,.s b]=>some (iT.mk a b)
 |.world,[a,b,c,.s d,.b e,.i .i64 f,g,h,i,j]=>
  match dN .ba a,dN (.int .i64) b,dN .jd c,dN .ctx g,dN .kF h,dN .msg i,dN .qp j with
  |some a,some b,some c,some g,some h,some i,some j=>some (World.mk (bG.mk a b c d e f g) h i j)
  |_,_,_,_,_,_,_=>none
 |.event,[.i .i64 a,.i .i64 b,.i .i64 c,.b d,l,.s f,.i .i64 s]=>
  match dN .str l with
  |some l=>some (Event.mk a b c d (aS.mk l f s))
  |_=>none
 |.rd,[a,.i .i64 b]=>
  match dN (.int .u8) a with
  |some a=>some (Rd.mk a b)
  |_=>none
 |.xP,[.s a,.i .i64 b,.i .i64 c,.b d]=>some (eu.mk a b c d)
 |_,_=>none
inductive Fl where
 |l|s|d
def flat:Ty->Bool|.bool|.int _|.str|.hold|.mark|.pair|.jd|.op|.qp|.xP=>true|_=>false
def zK:Fl->TV->TV|.s,.bJ t a=>.own (flat t) t a|.d,.bJ t a=>.own true t a|_,v=>v
def jC:List Fl->List TV->List TV|f::fs,c::a=>zK f c::jC fs a|_,a=>a
inductive Tr (α:Type) where
 |lf
 |nd (l:Tr α) (v:α) (r:Tr α)
def Tr.get{a:Type}(z:a):Tr a->Nat->a|.lf,_=>z|.nd l v r,n=>bif Nat.beq n 0 then v else bif Nat.beq (Nat.mod n 2) 1 then l.get z (Nat.div n 2) else r.get z (Nat.sub (Nat.div n 2) 1)
def Tr.set{a:Type}:Tr a->Nat->a->Tr a|.lf,_,_=>.lf|.nd l v r,n,x=>bif Nat.beq n 0 then .nd l x r else bif Nat.beq (Nat.mod n 2) 1 then .nd (l.set (Nat.div n 2) x) v r else .nd l v (r.set (Nat.sub (Nat.div n 2) 1) x)
def Tr.map{a:Type}(f:a->a):Tr a->Tr a|.lf=>.lf|.nd l v r=>.nd (l.map f) (f v) (r.map f)
def Tr.full{a:Type}(z:a):Nat->Tr a|0=>.lf|n+1=>.nd (Tr.full z n) z (Tr.full z n)
inductive BC where
 |none
 |cells (cs:List TV)
 |vec (t:Ty) (xs:List (El t))
 |iG (x:aj)
structure TS where
 t:Tr TV
 h:Tr BC
def xQ{R:Type}(b:Bool)(x y:Option R):Option R:=cond b x y
def ae{a R:Type}(o:Option a)(f:a->Option R):Option R:=Option.bind o f
def bR(b:Bool):Option Unit:=cond b (some ()) none
def aq(k:IntKind)(a b:Int):Int:=k.wrap (a+b)
def aL(k:IntKind)(a b:Int):Int:=k.wrap (a-b)
def cR(k:IntKind)(a b:Int):Int:=k.wrap (a*b)
def j5(k:IntKind)(a b:Int):Option Int:=if b=0 then none else some (k.wrap (a.tdiv b))
def kG(a b:Int):Option Int:=if b=0 then none else some (a.tmod b)
def ig(k:IntKind)(a b:Int):Int:=k.wrap (BitVec.ofInt k.bits a&&&BitVec.ofInt k.bits b).toNat
def na(k:IntKind)(a b:Int):Int:=k.wrap (BitVec.ofInt k.bits a|||BitVec.ofInt k.bits b).toNat
def dA(k:IntKind)(a b:Int):Int:=k.wrap (BitVec.ofInt k.bits a^^^BitVec.ofInt k.bits b).toNat
def agZ(k:IntKind)(a b:Int):Int:=k.wrap (BitVec.ofInt k.bits a&&&~~~BitVec.ofInt k.bits b).toNat
def xC(k:IntKind)(a:Int):Int:=dA k (if k.signed then-1 else k.max) a
def rJ(k:IntKind)(a b:Int):Option Int:=if b<0 then none else some (k.wrap (a*2^min b.toNat k.bits))
def lB(k:IntKind)(a b:Int):Option Int:=if b<0 then none else some (a.fdiv (2^min b.toNat k.bits))
def dm(k:IntKind)(a:Int):Int:=k.wrap a
def fO(k:IntKind)(a:Int):Int:=k.wrap (0-a)
def ai(a b:Int):Bool:=decide (a=b)
def av(a b:Int):Bool:=decide (a<b)
def bE(a b:Int):Bool:=decide (a<=b)
def En(a b:Int):Int:=if b<a then b else a
def imax(a b:Int):Int:=if b>a then b else a
def rK(a b:Int):Int:=a+b
def BM(a b:Int):Int:=a-b
def ay(a:Bool):Bool:=!a
def lC(a b:Bool):Bool:=decide (a=b)
def fw(a b:Bool):Bool:=a&&b
def de(a:aj):Int:=a.length
def iC(a:aj)(n:Int):Option Int:=if 0<=n then(a[n.toNat]?).map (λc=>(c.toNat:Int)) else none
def dZ(a:aj)(l h:Int):Option aj:=if 0<=l/\l<=h/\h<=a.length then some ((a.drop l.toNat).take (h.toNat-l.toNat)) else none
def aO(a b:aj):Option aj:=if((a.length+b.length:Nat):Int)>IntKind.i64.max then none else some (a++b)
def bf(a b:aj):Bool:=decide (a=b)
def YC(a b:aj):Bool:=Op.bytesLess a b
def bB(a:aj):List Int:=a.map λc=>(c.toNat:Int)
def je(a:List Int):aj:=a.map λn=>UInt8.ofNat n.toNat
def au{e:Type}(a:List e):Int:=a.length
def af{α:Type}(a:List α)(n:Int):Option α:=if 0<=n then a[n.toNat]? else none
def aX{α:Type}(a:List α)(n:Int)(x:α):List α:=a.set n.toNat x
def dF{e:Type}(a:List e)(l h:Int):Option (List e):=if 0<=l/\l<=h/\h<=a.length then some ((a.drop l.toNat).take (h.toNat-l.toNat)) else none
def ur{e:Type}(a:List e)(l h:Int):Bool:=decide (l=0/\h=a.length)
def mB(l h n:Int):Bool:=decide (0<=l/\l<=h/\h<=n)
def aN{e:Type}(j:Nat)(a b:List e):Option (List e):=if 2*(a.length+b.length)*j<=2^48/\a.length+b.length<=2^62 then some (a++b) else none
def xD{α:Type}(n:Nat)(x:α):List α:=List.replicate n x
def BZ{a:Type}(e:Nat)(n m:Int)(x:a):Option (List a):=if 0<=n/\n<=m/\m*e<=2^48/\m<=2^62 then some (List.replicate n.toNat x) else none
section
inductive TI where
 |bool
 |int (k:IntKind)
 |str
 |sl (e:Ty) (sz cF:Nat)
 |st (t:Ty) (n:Nat) (fs:List (Nat×Nat))
 |ar (n:Nat) (e:Ty)
 |ptr
 |vM
 |iG
 |other
def TI.sz:TI->Nat|.st _ n _=>n|.ar n _=>n|_=>1
def TI.ag:TI->Bool|.st ..=>true|.ar ..=>true|_=>false
def mV:List (Nat×TI)->Nat->TI|[],_=>.other|(k,i)::r,n=>bif Nat.beq k n then i else mV r n
def jD:TI->TV->Bool|.bool,.b _=>true|.int _,.i _ _=>true|.str,.s _=>true|.st _ _ _,.agg _=>true|.vM,.er _=>true|.vM,.mY=>true|.ar _ e,.vec t _=>decide (e=t)|.ar _ e,.iv t _=>decide (e=t)|.ar _ _,.ptr _ _=>true|.sl e _ _,.bJ t _=>decide (e=t)|.sl e _ _,.eM t _=>decide (e=t)|.sl e _ _,.own _ t _=>decide (e=t)|.sl e _ _,.vw _ t=>decide (e=t)|.sl e _ _,.sl _ t _ _=>decide (e=t)|.sl _ _ _,.nil=>true|.sl _ _ _,.gU=>true|_,_=>false
def HG:TI->Bool|.sl (.int .u8) _ _=>true|_=>false
def TI.var:TI->Bool|.other=>false|.iG=>false|_=>true
def fP:Ty->Bool|.bool|.int _|.str=>false|_=>true
inductive VS where
 |el (t:Ty) (m:List Fl)
 |sl (f:Fl) (t:Ty)
 |eM (t:Ty)
 |vec (t:Ty)
 |er
def VS.T:VS->Type|.el t _=>El t|.sl _ t=>List (El t)|.eM t=>List (El t)|.vec t=>List (El t)|.er=>Bool
inductive bO where
 |val (s:VS)
 |pb (t:Ty) (m m':List Fl)
 |pr (t:Ty)
 |mu (t:Ty)
 |rp (t:Ty)
 |bd
 |fn (g:Nat) (ts:List Ty)
inductive ea where
 |val (s:VS)
 |nb (t:Ty) (m:List Fl)
def tp:List Ty->Type|[]=>Unit|t::a=>El t×tp a
def bO.T:bO->Type|.val s=>s.T|.pb t _ _=>El t|.pr t=>List (El t)×Int|.mu t=>List (El t)|.rp t=>El t|.bd=>aj|.fn _ a=>tp a
def bO.O:bO->Type|.val _=>Unit|.pb t _ _=>El t|.pr t=>List (El t)|.mu t=>List (El t)|.rp _=>Unit|.bd=>aj|.fn _ _=>Unit
def ea.T:ea->Type|.val s=>s.T|.nb t _=>El t
def qJ:List bO->Type|[]=>Unit|p::ps=>p.T×qJ ps
def pV:List bO->Type|[]=>Unit|p::ps=>p.O×pV ps
def kt:List ea->Type|[]=>Unit|p::ps=>p.T×kt ps
structure fR where
 ps:List bO
 rs:List ea
 km:Bool
 X:Type
 f:qJ ps->Option X
 back:X->kt rs×pV ps
inductive ey where
 |val (s:VS)
 |ptr (k c:Nat)
 |vw (p:Pl) (t:Ty)
 |sv (p:Pl) (t:Ty)
 |ep (p:Pl) (t:Ty) (c:Nat)
 |fn (g:Nat) (ts:List Ty)
inductive fS where
 |st (t:Ty) (m:List Fl)
 |one (s:VS)
 |vec (t:Ty)
 |zr (cs:List TV)
 |iG
def ey.T:ey->Type|.val s=>s.T|.ptr _ _=>Unit|.vw _ _=>Unit|.sv _ _=>Int×Int|.ep _ _ _=>Int|.fn _ a=>tp a
def fS.T:fS->Type|.st t _=>El t|.one s=>s.T|.vec t=>List (El t)|.zr _=>Unit|.iG=>aj
structure Live where
 sl:List (Nat×ey)
 bx:List (Nat×fS)
def MX:List (Nat×ey)->Type|[]=>Unit|p::ps=>p.2.T×MX ps
def MY:List (Nat×fS)->Type|[]=>Unit|p::ps=>p.2.T×MY ps
abbrev Live.V(l:Live):Type:=MX l.sl×MY l.bx
structure Zi (R:Type) where
 si:Live
 so:Live
 L:si.V->(so.V->Option R)->Option R
def LQ:List (Nat×Nat×fR)->Nat->Option Nat->Option fR
 |[],_,_=>none
 |(g,h,c)::r,x,y=>bif (bif Nat.beq g x then Nat.beq h (match y with|none=>0|some y=>Nat.succ y) else false) then some c else LQ r x y
structure Cx where
 ty:List (Nat×TI)
 gl:Nat->TV
 fz:Pl->Bool
 B0:Bool
 al:Nat->Bool
 vs:Nat->Bool
 pre:Nat->List Pl
 fn:Nat->Option Nat->Option fR
 gb:Nat->Option Obj:=λ_=>none
structure Ctx (R:Type) where
 c:Cx
 loops:Nat->Option (Zi R)
 H3:TS->Option R
def tq:Value->TV|.bool x=>.b x|.int k n=>.i k n|.string x=>.s x.data.toList|.slice none 0 0=>.nil|.nilIface=>.mY|.pointer none=>.np|_=>.un
def B1:Value->TV|.agg a=>.agg (a.toList.map tq)|v=>tq v
def nth:List TV->Nat->TV|[],_=>.un|v::_,0=>v|_::r,n+1=>nth r n
def lY:List TV->Nat->TV->List TV|[],_,_=>[]|_::r,0,x=>x::r|v::r,n+1,x=>v::lY r n x
def takeN:Nat->List TV->List TV|0,_=>[]|_,[]=>[]|n+1,v::r=>v::takeN n r
def zb:Nat->List TV->List TV|0,l=>l|_,[]=>[]|n+1,_::r=>zb n r
def H4:List TV->List TV->List TV|[],l=>l|v::r,l=>v::H4 r l
def sW:List TV->Nat|[]=>0|_::r=>Nat.succ (sW r)
def rL(a:List TV)(c:Nat)(vs:List TV):List TV:=H4 (takeN c a) (H4 vs (zb (Nat.add c (sW vs)) a))
def Pl.nc(k:Nat):Pl->Bool|.slot a=>Nat.beq k a|.cell _ _=>false|.sub p _ _ _=>p.nc k
def Pl.gK(k:Nat):Pl->Bool|.slot _=>false|.cell a _=>Nat.beq k a|.sub p _ _ _=>p.gK k
def Pl.pW(k:Nat):Pl->Bool|.sub p _ _ _=>p.nc k|_=>false
def Pl.pX(k:Nat):Pl->Bool|.sub p _ _ _=>p.gK k|_=>false
def Pl.jK:Pl->Pl->Bool|.slot k=>Pl.nc k|.cell k _=>Pl.gK k|.sub p _ _ _=>p.jK
def Pl.jP:Pl->Bool|.sub ..=>true|_=>false
def Pl.beq:Pl->Pl->Bool|.slot k,.slot a=>Nat.beq k a|.cell k c,.cell a e=>bif Nat.beq k a then Nat.beq c e else false|_,_=>false
def kT(a:Pl->Bool):TV->TV|.vw p t=>bif a p then .un else .vw p t|.pa p t e=>bif a p then .un else .pa p t e|.sl p t lo hi=>bif a p then .un else .sl p t lo hi|.ep p t r c=>bif a p then .un else .ep p t r c|v=>v
def kill(a:Pl->Bool):TV->TV|.agg e=>.agg (e.map (kT a))|v=>kT a v
def TS.kill(s:TS)(a:Pl->Bool):TS:=⟨s.t.map (Ev.kill a),s.h⟩
def ue(a:Pl->Bool):TV->TV|.pa p t e=>bif a p then .un else .pa p t e|v=>v
def TS.fE(s:TS)(a:Pl->Bool):TS:=⟨s.t.map (Ev.ue a),s.h⟩
def ptrTo(d:Nat):TV->Bool|.ptr k _=>Nat.beq k d|.pe k _=>Nat.beq k d|_=>false
def pJ(d:Nat):List TV->Bool|[]=>false|v::vs=>bif ptrTo d v then true else pJ d vs
def fq(d:Nat):TV->TV|.ptr k c=>bif Nat.beq k d then .un else .ptr k c|.pe k n=>bif Nat.beq k d then .un else .pe k n|.fn g vs=>bif pJ d vs then .un else .fn g vs|v=>v
def TS.fq(s:TS)(d:Nat):TS:=⟨s.t.map (λv=>Ev.fq d (Ev.kill (Pl.gK d) v)),s.h⟩
def TS.slot(s:TS)(k:Nat):TV:=s.t.get .un k
def TS.box(s:TS)(k:Nat):BC:=s.h.get .none k
def TS.raw(s:TS)(k:Nat)(v:TV):TS:=⟨s.t.set k v,s.h⟩
def TS.bx(s:TS)(k:Nat)(v:BC):TS:=⟨s.t,s.h.set k v⟩
variable(C:Cx)
def TS.put(s:TS)(k:Nat)(v:TV):TS:=bif C.vs k then(s.kill (Pl.nc k)).raw k (Ev.kill (Pl.nc k) v) else s.raw k v
def cz(s:TS)(d:Option Nat)(v:TV):TS:=
 match d with
 |some d=>s.put C d v
 |none=>s
section
variable{R:Type}
def ko(s:TS):Pl->(TV->Option R)->Option R
 |.slot k,K=>bif C.vs k then K (s.slot k) else none
 |.cell k c,K=>
  match s.box k with
  |.cells j=>K (nth j c)
  |_=>none
 |.sub p t r c,K=>ko s p λv=>
  match v with
  |.own d a e=>bif decide (a=t) then ae (af e r) λx=>K (nth (enc d a x) c) else none
  |.bJ a e=>bif decide (a=t) then ae (af e r) λx=>K (nth (enc false a x) c) else none
  |_=>none
def XX:TV->Bool|.own _ _ _=>false|.gJ _ _ _ _=>false|.agg _=>false|.dM _=>false|_=>true
def sL:TV->Bool|.bJ ..=>false|.eM ..=>false|.own d t _=>bif flat t then true else d|.b _=>true|.i _ _=>true|.s _=>true|.nil=>true|.gU=>true|_=>false
def deep:List TV->Bool|[]=>true|c::a=>bif sL c then deep a else false
def uu(s:TS):Pl->(TV->(TV->Option R)->Option R)->(TS->Option R)->Option R
 |.slot k,f,K=>bif C.vs k then f (s.slot k) λv=>K ((s.kill (Pl.pW k)).raw k v) else none
 |.cell k c,f,K=>
  match s.box k with
  |.cells e=>f (nth e c) λv=>K ((s.kill (Pl.pX k)).bx k (.cells (lY e c v)))
  |_=>none
 |.sub p t r c,f,K=>uu s p (λv y=>
  match v with
  |.own true a j=>bif decide (a=t) then ae (af j r) λx=>f (nth (enc true a x) c) λu=>
   match sL u,dec a (lY (enc true a x) c u) with
   |true,some A=>y (.own true a (aX j r A))
   |_,_=>none
   else none
  |_=>none) K
def oB(s:TS):Pl->(TS->Option R)->Option R
 |.slot k,K=>K ((s.kill (Pl.pW k)).raw k .un)
 |.cell k c,K=>
  match s.box k with
  |.cells e=>K ((s.kill (Pl.pX k)).bx k (.cells (lY e c .un)))
  |_=>none
 |.sub (.slot k) t r c,K=>
  match s.slot k with
  |.own true a u=>bif decide (a=t) then K ((s.kill (Pl.pW k)).raw k (.gJ a u r c)) else none
  |_=>none
 |.sub (.cell k j) t r c,K=>
  match s.box k with
  |.cells e=>
   match nth e j with
   |.own true a u=>bif decide (a=t) then K ((s.kill (Pl.pX k)).bx k (.cells (lY e j (.gJ a u r c)))) else none
   |_=>none
  |_=>none
 |.sub _ _ _ _,_=>none
def kH:TV->TV|.own _ t a=>.bJ t a|v=>v
def yW:TV->TV|.own _ t a=>.own (flat t) t a|v=>v
def xE(s:TS):Pl->(TS->Option R)->Option R
 |.slot k,K=>K ((s.fE (Pl.nc k)).raw k (yW (s.slot k)))
 |.cell k c,K=>
  match s.box k with
  |.cells a=>K ((s.fE (Pl.gK k)).bx k (.cells (lY a c (yW (nth a c)))))
  |_=>none
 |.sub p _ _ _,K=>xE s p K
def vA(s:TS):Pl->(TS->Option R)->Option R
 |.slot k,K=>K ((s.fE (Pl.nc k)).raw k (kH (s.slot k)))
 |.cell k c,K=>
  match s.box k with
  |.cells a=>K ((s.fE (Pl.gK k)).bx k (.cells (lY a c (kH (nth a c)))))
  |_=>none
 |.sub p _ _ _,K=>xE s p K
def Rx:List Pl->TS->(TS->Option R)->Option R|[],s,K=>K s|p::ps,s,K=>vA s p λa=>Rx ps a K
def cv(m:Bool->Pl->Bool)(v:TV)(s:TS)(K:TV->TS->Option R):Option R:=
 match v with
 |.vw p _=>ko C s p λx=>
  match x with
  |.own d t a=>
   match m true p with
   |true=>vA s p λe=>K (.bJ t a) e
   |false=>oB s p λe=>K (.own d t a) e
  |.bJ t a=>K (.bJ t a) s
  |_=>none
 |.sl p t0 lo hi=>ko C s p λx=>
  match x with
  |.own d t a=>bif decide (t=t0) then(
   match m false p with
   |true=>ae (dF a lo hi) λj=>vA s p λe=>K (.bJ t j) e
   |false=>ae (bR (ur a lo hi)) λ_=>oB s p λe=>K (.own d t a) e) else none
  |.bJ t a=>bif decide (t=t0) then ae (dF a lo hi) λj=>K (.bJ t j) s else none
  |_=>none
 |.own d t a=>K (.own d t a) s
 |.bJ t a=>K (.bJ t a) s
 |.eM t a=>K (.bJ t a) s
 |.b x=>K (.b x) s
 |.i k n=>K (.i k n) s
 |.s x=>K (.s x) s
 |.nil=>K .nil s
 |.gU=>K .gU s
 |_=>none
def rU(m:Bool->Pl->Bool):List TV->TS->(List TV->TS->Option R)->Option R|[],s,K=>K [] s|v::vs,s,K=>cv C m v s λa e=>rU m vs e λj u=>K (a::j) u
def viewAt(p:Pl):TV->TV|.own _ t _=>.vw p t|.gJ t _ _ _=>.vw p t|v=>v
def vl(p:Nat->Pl):Nat->List TV->List TV|_,[]=>[]|j,v::vs=>viewAt (p j) v::vl p (Nat.succ j) vs
def o9(k:Nat):TV->TV|.own _ t _=>bif C.vs k then .vw (.slot k) t else .un|.gJ t _ _ _=>bif C.vs k then .vw (.slot k) t else .un|v=>v
def aU(s:TS):Operand->TV|.tmp k=>o9 C k (s.slot k)|.const v=>B1 v|.global g=>C.gl g|.func n=>.fn n []
def iD(s:TS):Operand->TS
 |.tmp k=>
  match s.slot k with
  |.agg _=>s.raw k .un
  |.dM _=>s.raw k .un
  |_=>s
 |_=>s
def Cx.aR(n:Nat):TI:=mV C.ty n
def xF:List (Nat×Nat)->Nat->List TV->List TV->Bool
 |[],_,[],[]=>true
 |(a,x)::r,n,c::e,d::j=>bif Nat.beq a n then(
  match C.aR x,c,d with
  |.int k,.i y _,.i u _=>bif decide (y=k) then(bif decide (u=k) then xF r (Nat.succ n) e j else false) else false
  |.str,.s _,.s _=>xF r (Nat.succ n) e j
  |.bool,.b _,.b _=>xF r (Nat.succ n) e j
  |_,_,_=>false) else false
 |_,_,_,_=>false
def MZ(a:TI)(x y:TV):Bool:=
 match x,y with
 |.i _ _,_=>true
 |.s _,_=>true
 |.agg e,.agg j=>
  match a with
  |.st _ _ fs=>xF C fs 0 e j
  |_=>false
 |x,_=>jD a x
def Cx.md(w:Bool)(p:Pl):Bool:=bif w then C.fz p else bif C.B0 then C.fz p else true
def cellsOf:TV->List TV|.agg a=>a|v=>[v]
def vm(ag:Bool)(a:List TV):TV:=bif ag then .agg a else nth a 0
def room(c n:Nat)(a:List TV):Bool:=Nat.ble (Nat.add c n) (sW a)
def xS(s:TS)(n:Nat)(ag:Bool)(a:TV)(K:TV->Option R):Option R:=
 match a with
 |.ptr k c=>
  match s.box k with
  |.cells y=>bif room c n y then K (vm ag (vl (λj=>.cell k (Nat.add c j)) 0 (takeN n (zb c y)))) else none
  |.vec t e=>bif ag then(bif Nat.beq c 0 then ae (bR (ai (au e) n)) λ_=>K (.vec t e) else none) else none
  |_=>none
 |.pe k r=>
  match s.box k with
  |.vec t e=>ae (af e r) λx=>bif ag then none else K (nth (enc false t x) 0)
  |_=>none
 |.ep p t r c=>ko C s p λv=>
  match v with
  |.own d u e=>bif decide (u=t) then ae (af e r) λx=>bif room c n (enc d u x) then K (vm ag (vl (λj=>.sub p t r (Nat.add c j)) 0 (takeN n (zb c (enc d u x))))) else none else none
  |.bJ u e=>bif decide (u=t) then ae (af e r) λx=>bif room c n (enc false u x) then K (vm ag (takeN n (zb c (enc false u x)))) else none else none
  |_=>none
 |.ip y c=>bif room c n y then K (vm ag (takeN n (zb c y))) else none
 |.iv t e=>bif ag then ae (bR (ai (au e) n)) λ_=>K (.vec t e) else none
 |_=>none
def one?(t:Ty)(vs:List TV)(K:El t->Option R):Option R:=
 match dec t vs with
 |some x=>K x
 |none=>none
def Ry:TV->TV->Bool|.pa (.sub q t r c) _ _,.ep p a j e=>bif Pl.beq p q then(bif decide (a=t) then Nat.beq c e else false) else false|_,_=>false
def M0(s:TS)(n:Nat)(a:TV)(v:TV)(K:TS->Option R):Option R:=
 match v with
 |.vec t j=>
  match a with
  |.ptr k c=>
   match s.box k with
   |.vec e u=>bif decide (e=t) then(bif Nat.beq c 0 then ae (bR (fw (ai (au j) n) (ai (au u) n))) λ_=>K ((s.kill (Pl.gK k)).bx k (.vec t j)) else none) else none
   |_=>none
  |_=>none
 |.pa (.sub q N r J) t j=>
  match a with
  |.ep p e A H=>bif (bif Ry (.pa (.sub q N r J) t j) (.ep p e A H) then Nat.beq n 1 else false) then ae (bR (ai r A)) λ_=>uu C s p (λv E=>
   match v with
   |.own true F u=>bif decide (F=e) then ae (af u r) λy=>one? F (lY (enc true F y) J (.own true t j)) λP=>E (.own true F (aX u r P)) else none
   |_=>none) K else none
  |_=>none
 |v=>bif Nat.beq (sW (cellsOf v)) n then rU C C.md (cellsOf v) s λvs s=>
  match a with
  |.ptr k c=>
   match s.box k with
   |.cells M=>bif room c n M then K ((s.kill (Pl.gK k)).bx k (.cells (rL M c vs))) else none
   |_=>none
  |.pe k r=>
   match s.box k with
   |.vec t j=>one? t vs λx=>ae (af j r) λ_=>K ((s.kill (Pl.gK k)).bx k (.vec t (aX j r x)))
   |_=>none
  |.ep p t r c=>uu C s p (λv E=>
   match v with
   |.own d e j=>bif decide (e=t) then ae (af j r) λx=>bif room c n (enc d e x) then one? e (rL (enc d e x) c vs) λI=>E (.own (bif flat e then true else bif deep vs then d else false) e (aX j r I)) else none else none
   |.gJ e j A H=>bif decide (e=t) then ae (bR (ai A r)) λ_=>ae (af j r) λx=>one? e (rL (enc true e x) c vs) λI=>bif (bif Nat.beq c H then(bif Nat.beq (sW vs) 1 then deep vs else false) else false) then E (.own true e (aX j r I)) else none else none
   |_=>none) K
  |_=>none
  else none
def uv(a:TV)(n:Nat)(K:TV->Option R):Option R:=
 match a with
 |.ptr k c=>K (.ptr k (Nat.add c n))
 |.ep p t r c=>K (.ep p t r (Nat.add c n))
 |.ip e c=>K (.ip e (Nat.add c n))
 |.pe k r=>bif Nat.beq n 0 then K (.pe k r) else none
 |.iv t j=>bif Nat.beq n 0 then K (.iv t j) else none
 |_=>none
def TI.len:TI->Nat|.ar n _=>n|_=>0
def TI.elm:TI->Ty|.sl e _ _=>e|.ar _ e=>e|_=>.bool
def xT(s:TS)(e:Ty)(len:Nat)(x ix:TV)(K:TV->Option R):Option R:=
 match ix with
 |.i _ n=>
  match x with
  |.vw p _=>ko C s p λv=>
   match v with
   |.own _ t a=>bif decide (e=t) then ae (af a n) λ_=>K (.ep p t n 0) else none
   |.gJ t a _ _=>bif decide (e=t) then ae (af a n) λ_=>K (.ep p t n 0) else none
   |.bJ t a=>bif decide (e=t) then ae (af a n) λx=>K (.ip (enc false t x) 0) else none
   |_=>none
  |.sl p t0 lo hi=>ko C s p λv=>
   match v with
   |.own _ t a=>bif decide (t=t0) then ae (dF a lo hi) λj=>ae (af j n) λ_=>K (.ep p t (rK lo n) 0) else none
   |.bJ t a=>bif decide (t=t0) then ae (dF a lo hi) λj=>ae (af j n) λx=>K (.ip (enc false t x) 0) else none
   |_=>none
  |.bJ t a=>ae (af a n) λx=>K (.ip (enc false t x) 0)
  |.eM t a=>ae (af a n) λx=>K (.ip (enc false t x) 0)
  |.ptr k c=>
   match s.box k with
   |.vec t a=>bif decide (e=t) then(bif Nat.beq c 0 then ae (bR (av n len)) λ_=>ae (af a n) λ_=>K (.pe k n) else none) else none
   |_=>none
  |.iv t a=>ae (bR (av n len)) λ_=>ae (af a n) λx=>K (.ip (enc false t x) 0)
  |_=>none
 |_=>none
def jS:List TV->List TV->Option Bool
 |[],[]=>some true
 |[.i _ a],[.i _ c]=>some (ai a c)
 |[.s a],[.s c]=>some (bf a c)
 |[.b a],[.b c]=>some (lC a c)
 |.i _ a::r,.i _ c::e=>match jS r e with|some q=>some (fw (ai a c) q)|none=>none
 |.s a::r,.s c::e=>match jS r e with|some q=>some (fw (bf a c) q)|none=>none
 |.b a::r,.b c::e=>match jS r e with|some q=>some (fw (lC a c) q)|none=>none
 |_,_=>none
def EH(op:BinOp)(k:IntKind)(a c:Int)(K:TV->Option R):Option R:=
 match op with
 |.add=>K (.i k (aq k a c))
 |.sub=>K (.i k (aL k a c))
 |.mul=>K (.i k (cR k a c))
 |.quo=>ae (j5 k a c) λn=>K (.i k n)
 |.rem=>ae (kG a c) λn=>K (.i k n)
 |.and=>K (.i k (ig k a c))
 |.or=>K (.i k (na k a c))
 |.xor=>K (.i k (dA k a c))
 |.andNot=>K (.i k (agZ k a c))
 |.eql=>K (.b (ai a c))
 |.neq=>K (.b (ay (ai a c)))
 |.lss=>K (.b (av a c))
 |.leq=>K (.b (bE a c))
 |.gtr=>K (.b (av c a))
 |.geq=>K (.b (bE c a))
 |.shl=>ae (rJ k a c) λn=>K (.i k n)
 |.shr=>ae (lB k a c) λn=>K (.i k n)
def Ta:BinOp->Bool|.shl|.shr=>true|_=>false
def Iv(op:BinOp)(x y:TV)(K:TV->Option R):Option R:=
 match x,y with
 |.i k a,.i e c=>bif Ta op then EH op k a c K else bif decide (e=k) then EH op k a c K else none
 |.s a,.s c=>
  match op with
  |.add=>ae (aO a c) λr=>K (.s r)
  |.eql=>K (.b (bf a c))
  |.neq=>K (.b (ay (bf a c)))
  |.lss=>K (.b (YC a c))
  |_=>none
 |.b a,.b c=>
  match op with
  |.eql=>K (.b (lC a c))
  |.neq=>K (.b (ay (lC a c)))
  |_=>none
 |.er a,.mY=>
  match op with
  |.eql=>K (.b (ay a))
  |.neq=>K (.b a)
  |_=>none
 |.agg a,.agg c=>
  match op,jS a c with
  |.eql,some q=>K (.b q)
  |.neq,some q=>K (.b (ay q))
  |_,_=>none
 |_,_=>none
def Tb(op:UnOp)(x:TV)(K:TV->Option R):Option R:=
 match op,x with
 |.neg,.i k n=>K (.i k (fO k n))
 |.not,.b a=>K (.b (ay a))
 |.xor,.i k n=>K (.i k (xC k n))
 |_,_=>none
def Mg(s:TS)(x:TV)(K:Int->Option R):Option R:=
 match x with
 |.s a=>K (de a)
 |.bJ _ e=>K (au e)
 |.eM _ e=>K (au e)
 |.nil=>K 0
 |.gU=>K 0
 |.vw p _=>ko C s p λv=>
  match v with
  |.own _ _ e=>K (au e)
  |.gJ _ e _ _=>K (au e)
  |.bJ _ e=>K (au e)
  |_=>none
 |.sl _ _ lo hi=>K (BM hi lo)
 |_=>none
def ij(s:TS)(d:Int):Option Operand->Option Int
 |none=>some d
 |some x=>
  match aU C s x with
  |.i _ n=>some n
  |_=>none
def Eo{t:Ty}(a:List (El t))(l h m:Int)(K:TV->Option R):Option R:=ae (bR (ai m h)) λ_=>ae (dF a l h) λe=>K (.eM t e)
def vN(s:TS)(x:TV)(lo hi mx:Option Operand)(K:TV->Option R):Option R:=
 match x with
 |.s a=>
  match ij C s 0 lo,ij C s (de a) hi,mx with
  |some l,some h,none=>ae (dZ a l h) λr=>K (.s r)
  |_,_,_=>none
 |.bJ t e=>
  match ij C s 0 lo,ij C s (au e) hi,mx with
  |some l,some h,none=>ae (dF e l h) λj=>K (.bJ t j)
  |some l,some h,some m=>
   match hi,ij C s 0 (some m) with
   |some _,some m=>Eo e l h m K
   |_,_=>none
  |_,_,_=>none
 |.eM t e=>
  match ij C s 0 lo,ij C s (au e) hi,mx with
  |some l,some h,none=>ae (dF e l h) λj=>K (.bJ t j)
  |some l,some h,some m=>
   match hi,ij C s 0 (some m) with
   |some _,some m=>Eo e l h m K
   |_,_=>none
  |_,_,_=>none
 |.vw p t=>ko C s p λv=>
  match v with
  |.own _ u e=>bif decide (u=t) then(match ij C s 0 lo,ij C s (au e) hi,mx with
   |some l,some h,none=>ae (bR (mB l h (au e))) λ_=>K (.sl p t l h)
   |some l,some h,some m=>
    match hi,ij C s 0 (some m) with
    |some _,some m=>ae (bR (fw (mB l h (au e)) (ai m h))) λ_=>K (.sl p t l h)
    |_,_=>none
   |_,_,_=>none) else none
  |.bJ u e=>bif decide (u=t) then(match ij C s 0 lo,ij C s (au e) hi,mx with
   |some l,some h,none=>ae (dF e l h) λj=>K (.bJ u j)
   |_,_,_=>none) else none
  |_=>none
 |.sl p t a b=>
  match ij C s 0 lo,ij C s (BM b a) hi,mx with
  |some l,some h,none=>ae (bR (mB l h (BM b a))) λ_=>K (.sl p t (rK a l) (rK a h))
  |_,_,_=>none
 |.nil=>
  match ij C s 0 lo,ij C s 0 hi,mx with
  |some l,some h,none=>ae (bR (fw (ai l 0) (ai h 0))) λ_=>K .nil
  |some l,some h,some m=>
   match hi,ij C s 0 (some m) with
   |some _,some m=>ae (bR (fw (ai l 0) (fw (ai h 0) (ai m 0)))) λ_=>K .nil
   |_,_=>none
  |_,_,_=>none
 |.gU=>
  match ij C s 0 lo,ij C s 0 hi,mx with
  |some l,some h,none=>ae (bR (fw (ai l 0) (ai h 0))) λ_=>K .gU
  |some l,some h,some m=>
   match hi,ij C s 0 (some m) with
   |some _,some m=>ae (bR (fw (ai l 0) (fw (ai h 0) (ai m 0)))) λ_=>K .gU
   |_,_=>none
  |_,_,_=>none
 |_=>none
def castLT{R:Type}(t a:Ty)(e:List (El t))(K:List (El a)->Option R):Option R:=if h:t=a then K (ki h e) else none
def nP(t:Ty)(y:TV)(s:TS)(K:Bool->List (El t)->TS->Option R):Option R:=
 match y with
 |.bJ j e=>castLT j t e λe=>K (flat t) e s
 |.eM j e=>castLT j t e λe=>K (flat t) e s
 |.nil=>K true [] s
 |.gU=>K true [] s
 |.s a=>castLT (.int .u8) t (bB a) λe=>K true e s
 |.vw p _=>
  bif flat t then ko C s p λv=>
   match v with
   |.own _ j e=>castLT j t e λe=>K true e s
   |.bJ j e=>castLT j t e λe=>K true e s
   |_=>none
  else cv C C.md y s λv u=>
   match v with
   |.own d j e=>castLT j t e λe=>K d e u
   |.bJ j e=>castLT j t e λe=>K false e u
   |_=>none
 |.sl p t0 lo hi=>
  bif flat t then ko C s p λv=>
   match v with
   |.own _ j e=>bif decide (j=t0) then ae (dF e lo hi) λe=>castLT j t e λe=>K true e s else none
   |.bJ j e=>bif decide (j=t0) then ae (dF e lo hi) λe=>castLT j t e λe=>K true e s else none
   |_=>none
  else cv C (λ_ _=>true) y s λv u=>
   match v with
   |.bJ j e=>castLT j t e λe=>K false e u
   |_=>none
 |_=>none
def B2(t:Ty)(j:Nat)(x y:TV)(s:TS)(K:TV->TS->Option R):Option R:=
 nP C t y s λd e s=>
  match x with
  |.vw p _=>ko C s p λv=>
   match v with
   |.own A u a=>castLT u t a λa=>ae (aN j a e) λzs=>
    bif p.jP then(bif flat t then K (.pa p t zs) (s.fE p.jK) else none) else oB s p λE=>K (.own (bif flat t then true else bif d then A else false) t zs) E
   |_=>none
  |.nil=>ae (aN j [] e) λzs=>K (.own d t zs) s
  |.gU=>ae (aN j [] e) λzs=>K (.own d t zs) s
  |.eM u a=>castLT u t a λa=>ae (bR (av 0 (au e))) λ_=>ae (aN j a e) λzs=>K (.own (flat t) t zs) s
  |_=>none
def pN:List (Nat×Nat)->Nat->Option (Nat×Nat)|[],_=>none|f::_,0=>some f|_::r,n+1=>pN r n
def fill(fs:List (Nat×Nat)):List (Nat×Operand)->List TV->TS->(List TV->TS->Option R)->Option R
 |[],z,s,K=>K z s
 |(i,x)::r,z,s,K=>
  match pN fs i with
  |some (a,e)=>bif Nat.beq (sW (cellsOf (aU C s x))) (C.aR e).sz then(bif room a (C.aR e).sz z then rU C C.md (cellsOf (aU C s x)) (iD s x) λvs j=>fill fs r (rL z a vs) j K else none) else none
  |none=>none
def zTI:TI->List TV|.bool=>[.b false]|.int k=>[.i k 0]|.str=>[.s []]|.sl ..=>[.nil]|_=>[.un]
def zero:Nat->Nat->List TV
 |0,_=>[]
 |f+1,t=>
  match C.aR t with
  |.st _ _ fs=>fs.foldr (λp r=>H4 (zero f p.2) r) []
  |i=>zTI i
def rV:(t:Ty)->El t|.bool=>false|.int _=>(0:Int)|.str=>([]:aj)|.hold=>bc.mk 0 0 0|.ba=>ax.mk [] [] [] 0 0 0 [] [] [] []|.mark=>Mark.mk 0 0|.nw=>ah.mk 0 0 [] [] []|.pair=>nO.mk [] 0|.ins=>cP.mk 0 0 [] []|.jd=>eD.mk [] 0 []|.eU=>aS.mk [] [] 0|.op=>aY.mk [] 0 0 0|.msg=>aK.mk 0 0 0 0 [] false|.stx=>dt.mk 0 0 []|.kF=>aT.mk 0 [] [] false [] []|.ctx=>cp.mk 0 0 0 (aS.mk [] [] 0) 0 0 [] [] [] 0|.dO=>bG.mk [] [] [] [] false 0 []|.qp=>iT.mk 0 []|.world=>World.mk (bG.mk [] [] [] [] false 0 []) [] [] []|.event=>Event.mk 0 0 0 false (aS.mk [] [] 0)|.rd=>Rd.mk [] 0|.xP=>eu.mk [] 0 0 false
def Br(t:Ty)(sz:Nat):List (Nat×Operand)->Nat->TS->(Bool->List (El t)->TS->Option R)->Option R|[],_,s,K=>K true [] s|(i,x)::r,n,s,K=>bif Nat.beq i n then(bif Nat.beq (sW (cellsOf (aU C s x))) sz then rU C (λ_ p=>C.fz p) (cellsOf (aU C s x)) (iD s x) λvs a=>one? t vs λv=>Br t sz r (Nat.succ n) a λd e j=>K (bif flat t then true else bif deep vs then d else false) (v::e) j else none) else none
def rM:Fl->TV->Bool|.l,_=>true|_,.b _=>true|_,.i _ _=>true|_,.s _=>true|_,.nil=>true|_,.gU=>true|.s,.own _ _ _=>true|.d,.own d t _=>bif flat t then true else d|_,_=>false
def okF:List Fl->List TV->Bool|f::fs,c::a=>bif rM f c then okF fs a else false|_,_=>true
def VS.dec:(s:VS)->TV->Option s.T
 |.el t m,v=>
  match v with
  |.agg j=>bif fP t then(bif okF m j then Ev.dec t j else none) else none
  |v=>bif fP t then none else Ev.dec t [v]
 |.sl f t,v=>bif rM f v then dN t v else none
 |.eM t,v=>
  match v with
  |.eM a e=>if h:a=t then some (ki h e) else none
  |_=>none
 |.vec t,v=>
  match v with
  |.vec a e=>if h:a=t then some (ki h e) else none
  |_=>none
 |.er,v=>
  match v with
  |.er x=>some x
  |.mY=>some false
  |_=>none
def VS.enc:(s:VS)->s.T->TV|.el t m,x=>bif fP t then .agg (jC m (Ev.enc false t x)) else nth (Ev.enc false t x) 0|.sl f t,x=>zK f (.bJ t x)|.eM t,x=>.eM t x|.vec t,x=>.vec t x|.er,x=>.er x
def eV(k:Nat):List Nat->Bool|[]=>false|x::r=>bif Nat.beq k x then true else eV k r
def opsL:List Operand->List Nat|[]=>[]|.tmp k::a=>k::opsL a|_::a=>opsL a
def whole:TV->Bool|.agg _=>false|.dM _=>false|_=>true
def zo(s:TS):List Operand->Bool|[]=>false|.tmp k::a=>bif whole (s.slot k) then zo s a else(bif eV k (opsL a) then true else zo s a)|_::a=>zo s a
def lD(s:TS):(a:List Ty)->List TV->(tp a->Option R)->Option R
 |[],[],K=>K ()
 |t::a,.ip e 0::vs,K=>one? t e λx=>lD s a vs λj=>K (x,j)
 |t::a,.ptr k 0::vs,K=>
  match s.box k with
  |.cells e=>one? t e λx=>lD s a vs λj=>K (x,j)
  |_=>none
 |_,_,_=>none
def zc(s:TS)(v:TV)(K:TV->Option R):Option R:=
 match v with
 |.vw p _=>ko C s p λx=>
  match x with
  |.own _ t a=>K (.bJ t a)
  |.bJ t a=>K (.bJ t a)
  |_=>none
 |.sl p t0 lo hi=>ko C s p λx=>
  match x with
  |.own _ t a=>bif decide (t=t0) then ae (dF a lo hi) λe=>K (.bJ t e) else none
  |.bJ t a=>bif decide (t=t0) then ae (dF a lo hi) λe=>K (.bJ t e) else none
  |_=>none
 |.own _ t a=>K (.bJ t a)
 |.bJ t a=>K (.bJ t a)
 |.eM t a=>K (.bJ t a)
 |.b x=>K (.b x)
 |.i k n=>K (.i k n)
 |.s x=>K (.s x)
 |.nil=>K .nil
 |.gU=>K .gU
 |_=>none
def D7(s:TS):List TV->(List TV->Option R)->Option R|[],K=>K []|v::vs,K=>zc C s v λa=>D7 s vs λe=>K (a::e)
def BN(km mv:Bool)(vs:List TV)(s:TS)(K:List TV->TS->Option R):Option R:=bif mv then rU C (λ_ _=>false) vs s K else bif km then D7 C s vs λa=>K a s else rU C (λ_ _=>true) vs s K
def VS.mv:VS->Bool|.sl .s _=>true|.sl .d _=>true|_=>false
def xG:TV->List TV->TV|.agg _,vs=>.agg vs|_,vs=>nth vs 0
def HQ(k c:Nat)(v:TV)(s:TS):TS:=
 match s.box k with
 |.cells a=>s.bx k (.cells (lY a c v))
 |_=>s
def arg(km:Bool)(p:bO)(v:TV)(s:TS)(K:p.T->(p.O->TS->TS)->TS->Option R):Option R:=
 match p,K with
 |.val q,K=>
  match v with
  |.vec t a=>
   match q.dec (.vec t a) with
   |some x=>K x (λ_ s=>s) s
   |none=>none
  |v=>BN C km q.mv (cellsOf v) s λvs u=>
   match q.dec (xG v vs) with
   |some x=>K x (λ_ s=>s) u
   |none=>none
 |.pb t m y,K=>
  match v with
  |.ptr k 0=>
   match s.box k with
   |.cells e=>bif okF m e then one? t e λx=>K x (λo s=>s.bx k (.cells (jC y (enc false t o)))) ((s.kill (Pl.gK k)).bx k .none) else none
   |_=>none
  |_=>none
 |.pr t,K=>
  match v with
  |.ep (.slot k) t0 r 0=>
   match s.slot k with
   |.own true j a=>bif decide (j=t0) then castLT j t a λa=>ae (af a r) λ_=>K (a,r) (λo s=>s.raw k (.own true t o)) ((s.kill (Pl.pW k)).raw k .un) else none
   |_=>none
  |.ep (.cell k c) t0 r 0=>
   match s.box k with
   |.cells e=>
    match nth e c with
    |.own true j a=>bif decide (j=t0) then castLT j t a λa=>ae (af a r) λ_=>K (a,r) (λo s=>HQ k c (.own true t o) s) ((s.kill (Pl.pX k)).bx k (.cells (lY e c .un))) else none
    |_=>none
   |_=>none
  |_=>none
 |.mu t,K=>
  match v with
  |.vw (.slot k) _=>
   match s.slot k with
   |.own true j a=>castLT j t a λa=>K a (λo s=>s.raw k (.own true t o)) ((s.kill (Pl.pW k)).raw k .un)
   |_=>none
  |.vw (.cell k c) _=>
   match s.box k with
   |.cells e=>
    match nth e c with
    |.own true j a=>castLT j t a λa=>K a (λo s=>HQ k c (.own true t o) s) ((s.kill (Pl.pX k)).bx k (.cells (lY e c .un)))
    |_=>none
   |_=>none
  |_=>none
 |.bd,K=>
  match v with
  |.ptr k 0=>
   match s.box k with
   |.iG x=>K x (λo s=>s.bx k (.iG o)) ((s.kill (Pl.gK k)).bx k .none)
   |_=>none
  |_=>none
 |.rp t,K=>
  match v with
  |.ip e 0=>one? t e λx=>K x (λ_ s=>s) s
  |_=>none
 |.fn g A,K=>
  match v with
  |.fn E vs=>bif Nat.beq g E then lD s A vs λx=>K x (λ_ s=>s) s else none
  |_=>none
def R0(p:bO)(v:TV)(vs:List TV):Bool:=
 match p with
 |.pr _=>
  match v with
  |.ep (.cell k _) _ _ _=>pJ k vs
  |_=>false
 |.mu _=>
  match v with
  |.vw (.cell k _) _=>pJ k vs
  |_=>false
 |_=>false
def args(km:Bool):(ps:List bO)->List TV->TS->(qJ ps->(pV ps->TS->TS)->TS->Option R)->Option R|[],[],s,K=>K () (λ_ s=>s) s|p::ps,v::vs,s,K=>bif R0 p v vs then none else arg C km p v s λx a e=>args km ps vs e λj u y=>K (x,j) (λo s=>a o.1 (u o.2 s)) y|_,_,_,_=>none
def pY:List Fl->List TV->Bool
 |_,[]=>true
 |.d::m,_::a=>pY m a
 |_::m,c::a=>
  match c with
  |.bJ _ _=>false
  |_=>pY m a
 |[],c::a=>
  match c with
  |.bJ _ _=>false
  |_=>pY [] a
def zL:VS->Bool|.el t m=>pY m (enc false t (rV t))|.sl .l _=>false|.sl .s t=>flat t|.sl .d _=>true|.eM _=>false|.vec _=>true|.er=>true
def uf:List ea->Bool|[]=>true|.val s::rs=>bif zL s then uf rs else false|.nb t m::rs=>bif zL (.el t m) then uf rs else false
def ag0:List Fl->Bool|[]=>true|.l::r=>ag0 r|_::_=>false
def VS.R1:VS->Bool|.el _ m=>ag0 m|.sl .l _=>true|.sl _ _=>false|_=>true
def sP:List bO->Bool|[]=>true|.val s::ps=>bif s.mv then false else bif s.R1 then sP ps else false|.fn _ _::ps=>sP ps|.rp _::ps=>sP ps|_::_=>false
def vn:List bO->Bool|[]=>false|.fn _ (_::_)::_=>true|_::ps=>vn ps
def Xr(c:fR):Bool:=bif c.km then(bif uf c.rs then sP c.ps else false) else bif vn c.ps then false else true
def fQ:(rs:List ea)->kt rs->List TV|[],_=>[]|.val s::rs,x=>s.enc x.1::fQ rs x.2|.nb _ _::rs,x=>.un::fQ rs x.2
def pack:List TV->TV|[v]=>v|vs=>.dM vs
def BO(d:Option Nat)(rs:List ea)(x:kt rs)(s:TS):Option TS:=
 match rs,x with
 |[.nb t m],x=>
  match d with
  |some d=>
   match s.box d with
   |.none=>some (((s.fq d).bx d (.cells (jC m (enc false t x.1)))).put C d (.ptr d 0))
   |_=>none
  |none=>none
 |rs,x=>some (cz C s d (pack (fQ rs x)))
def Bc:List TV->Option Nat|[]=>none|.fn g _::_=>some g|_::vs=>Bc vs
def XY(s:TS):List Operand->TS|[]=>s|x::a=>XY (iD s x) a
def HR(g:Nat)(vs:List TV)(s:TS)(e:Option Nat)(K:TS->Option R):Option R:=
 match C.fn g (Bc vs) with
 |some c=>bif Xr c then args C c.km c.ps vs s λa j u=>ae (c.f a) λx=>
   match BO C e c.rs (c.back x).1 (j (c.back x).2 u) with
   |some y=>K y
   |none=>none
  else none
 |none=>none
def LR:List TV->Bool|[]=>false|.own ..::_=>true|.gJ ..::_=>true|.un::_=>true|_::vs=>LR vs
def BP:TV->Bool|.own ..=>true|.gJ ..=>true|.agg a=>LR a|.un=>true|.pa ..=>true|_=>false
def R2:List TV->Bool|[]=>true|.ptr _ _::vs=>R2 vs|_::_=>false
def step(o:Oper)(s:TS)(K:TS->Option R):Option R:=
 match o.op with
 |.move x=>K (cz C (iD s x) o.dst (aU C s x))
 |.assign x=>
  match aU C s x with
  |.vec t u=>K (cz C s o.dst (.vec t u))
  |.ptr k c=>K (cz C s o.dst (.ptr k c))
  |.ep p t r c=>K (cz C s o.dst (.ep p t r c))
  |.er e=>K (cz C s o.dst (.er e))
  |.mY=>K (cz C s o.dst .mY)
  |.np=>K (cz C s o.dst .np)
  |.fn g vs=>K (cz C s o.dst (.fn g vs))
  |.eM t u=>K (cz C s o.dst (.eM t u))
  |v=>
   match o.dst with
   |some d=>bif C.al d then(bif XX v then K (cz C s o.dst v) else none) else cv C C.md v s λv A=>K (cz C A o.dst v)
   |none=>K s
 |.pick c a b=>
  match aU C s c with
  |.b x=>xQ x (K (cz C (iD s a) o.dst (aU C s a))) (K (cz C (iD s b) o.dst (aU C s b)))
  |_=>none
 |.alloc t=>
  match o.dst with
  |some d=>
   match s.box d with
   |.none=>
    match C.aR t with
    |.other=>none
    |.iG=>K (((s.fq d).bx d (.iG [])).put C d (.ptr d 0))
    |.ar n e=>K (((s.fq d).bx d (.vec e (xD n (rV e)))).put C d (.ptr d 0))
    |_=>K (((s.fq d).bx d (.cells (zero C 4 t))).put C d (.ptr d 0))
   |_=>none
  |none=>none
 |.box _ x=>
  match o.dst with
  |some d=>
   match s.box d with
   |.none=>
    match aU C s x with
    |.vec t u=>K (((s.fq d).bx d (.vec t u)).put C d (.ptr d 0))
    |v=>rU C C.md (cellsOf v) (iD s x) λvs A=>K (((A.fq d).bx d (.cells vs)).put C d (.ptr d 0))
   |_=>none
  |none=>none
 |.build t parts=>
  match C.aR t with
  |.st _ _ fs=>fill C fs parts.toList (zero C 4 t) s λvs A=>K (cz C A o.dst (.agg vs))
  |.ar n e=>Br C e 1 parts.toList 0 s λ_ u A=>bif Nat.beq (parts.size) n then K (cz C A o.dst (.vec e u)) else none
  |_=>none
 |.buildSlice t n parts=>
  match C.aR t with
  |.sl e sz F=>bif Nat.beq parts.size n then(bif Nat.ble (Nat.mul n sz) 16777216 then Br C e sz parts.toList 0 s λd u A=>K (cz C A o.dst (.own d e u)) else none) else none
  |_=>none
 |.load t a=>bif (C.aR t).var then xS C s (C.aR t).sz (C.aR t).ag (aU C s a) λv=>K (cz C s o.dst v) else none
 |.store t a x=>bif (C.aR t).var then M0 C (iD s x) (C.aR t).sz (aU C s a) (aU C s x) K else none
 |.nilCheck x=>uv (aU C s x) 0 λv=>K (cz C s o.dst v)
 |.binOp op t x y _=>bif MZ C (C.aR t) (aU C s x) (aU C s y) then Iv op (aU C s x) (aU C s y) λv=>K (cz C s o.dst v) else none
 |.unOp op _ x=>Tb op (aU C s x) λv=>K (cz C s o.dst v)
 |.fieldAddr t x j=>
  match C.aR t with
  |.st _ _ fs=>
   match pN fs j with
   |some (E,_)=>uv (aU C s x) E λv=>K (cz C s o.dst v)
   |none=>none
  |_=>none
 |.indexAddr t x i=>bif jD (C.aR t) (aU C s x) then xT C s (C.aR t).elm (C.aR t).len (aU C s x) (aU C s i) λv=>K (cz C s o.dst v) else none
 |.index t x i=>bif jD (C.aR t) (aU C s x) then
  match aU C s x,aU C s i with
  |.s a,.i _ n=>ae (iC a n) λc=>K (cz C s o.dst (.i .u8 c))
  |.vec J u,.i _ n=>ae (bR (av n (C.aR t).len)) λ_=>ae (af u n) λx=>bif fP J then none else K (cz C s o.dst (nth (enc false J x) 0))
  |_,_=>none
  else none
 |.field t x j=>
  match aU C s x,C.aR t with
  |.agg M,.st _ _ fs=>
   match pN fs j with
   |some (E,H)=>bif room E (C.aR H).sz M then K (cz C (iD s x) o.dst (vm (C.aR H).ag (takeN (C.aR H).sz (zb E M)))) else none
   |none=>none
  |_,_=>none
 |.extract (.tmp k) i=>
  match s.slot k with
  |.dM vs=>bif room i 1 vs then(
   match BP (nth vs i) with
   |true=>K (cz C (s.raw k (.dM (lY vs i .un))) o.dst (nth vs i))
   |false=>K (cz C s o.dst (nth vs i))) else none
  |_=>none
 |.convert src I x=>bif jD (C.aR src) (aU C s x) then
  match aU C s x,C.aR I with
  |.i _ n,.int k=>K (cz C s o.dst (.i k (dm k n)))
  |.s a,.str=>K (cz C s o.dst (.s a))
  |.s a,.sl (.int .u8) _ _=>ae (bR (bE (de a) 1152921504606846976)) λ_=>K (cz C s o.dst (.own true (.int .u8) (bB a)))
  |.vw p _,.str=>bif HG (C.aR src) then ko C s p λv=>
   match dN (.int .u8) v with
   |some u=>K (cz C s o.dst (.s (je u)))
   |none=>none
   else none
  |.sl p t0 lo hi,.str=>bif HG (C.aR src) then ko C s p λv=>
   match dN (.int .u8) v with
   |some u=>bif decide (t0=.int .u8) then ae (dF u lo hi) λN=>K (cz C s o.dst (.s (je N))) else none
   |none=>none
   else none
  |v,.str=>bif HG (C.aR src) then
   match dN (.int .u8) v with
   |some u=>K (cz C s o.dst (.s (je u)))
   |none=>none
   else none
  |_,_=>none
  else none
 |.slice t x lo hi mx=>bif jD (C.aR t) (aU C s x) then vN C s (aU C s x) lo hi mx λv=>K (cz C s o.dst v) else none
 |.makeSlice t l c=>
  match C.aR t,aU C s l,aU C s c with
  |.sl e _ F,.i _ n,.i _ m=>ae (BZ F n m (rV e)) λu=>K (cz C s o.dst (.own true e u))
  |_,_,_=>none
 |.makeFunc (.func g) _ cap=>bif R2 (cap.toList.map (aU C s)) then K (cz C s o.dst (.fn g (cap.toList.map (aU C s)))) else none
 |.makeInterface t _=>
  match C.aR t with
  |.vM=>none
  |.other=>none
  |_=>K (cz C s o.dst (.er true))
 |.call c=>
  match c.callee with
  |.value x=>
   match aU C s x with
   |.fn g cap=>bif zo s c.args.toList then none else HR C g ((c.args.toList.map (aU C s))++cap) (XY s c.args.toList) o.dst K
   |_=>none
  |.builtin b=>
   match b,c.args.toList,c.argTypes.toList with
   |.len,[x],t::_=>bif jD (C.aR t) (aU C s x) then Mg C s (aU C s x) λn=>K (cz C s o.dst (.i .i64 n)) else none
   |.append,[x,y],t::_=>
    match C.aR t with
    |.sl e _ F=>B2 C e F (aU C s x) (aU C s y) s λv A=>K (cz C A o.dst v)
    |_=>none
   |.min,[x,y],_=>
    match aU C s x,aU C s y with
    |.i k a,.i _ c=>K (cz C s o.dst (.i k (En a c)))
    |_,_=>none
   |.max,[x,y],_=>
    match aU C s x,aU C s y with
    |.i k a,.i _ c=>K (cz C s o.dst (.i k (imax a c)))
    |_,_=>none
   |_,_,_=>none
  |_=>none
 |_=>none
def qq:List Oper->Nat->Option Nat|[],_=>none|o::_,0=>o.dst|_::r,n+1=>qq r n
def X0(ops:List Oper)(o:Oper)(s:TS)(K:TS->Option R):Option R:=
 match o.guard with
 |none=>step C o s K
 |some (j,w)=>
  match qq ops j with
  |some g=>
   match s.slot g with
   |.b x=>
    match w with
    |true=>xQ x (step C o (s.raw g (.b true)) K) (K (cz C (s.raw g (.b false)) o.dst (.dM [])))
    |false=>xQ x (K (cz C (s.raw g (.b true)) o.dst (.dM []))) (step C o (s.raw g (.b false)) K)
   |.dM []=>K (cz C s o.dst (.dM []))
   |_=>none
  |none=>none
def R3(ops:List Oper):List Oper->TS->(TS->Option R)->Option R|[],s,K=>K s|o::os,s,K=>X0 C ops o s λa=>R3 ops os a K
def sM:Tr TV:=Tr.full .un 11
def vh:Tr BC:=Tr.full .none 11
structure Acc where
 sl:List Nat
 bx:List Nat
def oz(a:Acc)(s:TS):TS:=⟨a.sl.foldr (λk t=>t.set k (s.slot k)) sM,a.bx.foldr (λk t=>t.set k (s.box k)) vh⟩
def merge(a:Acc)(s e:TS):TS:=⟨a.sl.foldr (λk t=>t.set k (e.slot k)) s.t,a.bx.foldr (λk t=>t.set k (e.box k)) s.h⟩
def Pl.root:Pl->Acc|.slot k=>⟨[k],[]⟩|.cell k _=>⟨[],[k]⟩|.sub p _ _ _=>p.root
def Acc.add(a b:Acc):Acc:=⟨a.sl++b.sl,a.bx++b.bx⟩
def Pl.iL(a:Acc):Pl->Bool|.slot k=>eV k a.sl|.cell k _=>eV k a.bx|.sub p _ _ _=>p.iL a
def R4:TV->Acc|.vw p _=>p.root|.pa p _ _=>p.root|.sl p _ _ _=>p.root|.ep p _ _ _=>p.root|_=>⟨[],[]⟩
def LS:List TV->Acc|[]=>⟨[],[]⟩|v::vs=>(R4 v).add (LS vs)
def vp:TV->Acc|.agg a=>LS a|v=>R4 v
def o4:TV->List Nat|.ptr k _=>[k]|.pe k _=>[k]|_=>[]
def Sn:TV->List Nat|.fn _ vs=>vs.flatMap o4|v=>o4 v
def So(o:Oper):Bool:=
 match o.op with
 |.move _=>true
 |.assign _=>true
 |.fieldAddr _ _ _=>true
 |.nilCheck _=>true
 |.binOp _ _ _ _ _=>true
 |.unOp _ _ _=>true
 |.makeFunc _ _ _=>true
 |_=>false
def Acc.X1(a:Acc):Pl->Acc|.sub _ _ _ _=>a|_=>⟨[],[]⟩
def agl:TV->Acc|.vw p _=>p.root.X1 p|.pa p _ _=>p.root|.sl p _ _ _=>p.root.X1 p|.ep p _ _ _=>p.root.X1 p|_=>⟨[],[]⟩
def afn:List TV->Acc|[]=>⟨[],[]⟩|v::vs=>(agl v).add (afn vs)
def asx:TV->Acc|.agg a=>afn a|v=>agl v
def xH(a:Bool)(s:TS):List Operand->Acc|[]=>⟨[],[]⟩|.tmp k::e=>(Acc.mk [k] (bif a then[] else Sn (s.slot k))).add ((bif a then asx (s.slot k) else vp (s.slot k)).add (xH a s e))|_::e=>xH a s e
def YD(s:TS):List Operand->Acc|[]=>⟨[],[]⟩|.tmp k::a=>(vp (o9 C k (s.slot k))).add ((Acc.mk [] (Sn (s.slot k))).add (YD s a))|_::a=>YD s a
def br:Option Nat->List Nat|some d=>[d]|none=>[]
def afo(ops:List Oper)(o:Oper):List Nat:=
 match o.guard with
 |some (j,_)=>br (qq ops j)
 |none=>[]
def pO(s:TS)(o:Oper):List Pl:=
 match o.op with
 |.call c=>
  match c.callee with
  |.builtin .append=>
   match c.args.toList with
   |.tmp k::_=>
    match s.slot k with
    |.vw p _=>bif p.jP then[p] else[]
    |_=>[]
   |_=>[]
  |_=>[]
 |_=>[]
def agm:List Pl->Bool|[]=>false|_=>true
def qu(s:TS)(o:Oper):Bool:=
 match o.op with
 |.load _ _=>true
 |.fieldAddr _ _ _=>true
 |.indexAddr _ _ _=>true
 |.index _ _ _=>true
 |.binOp _ _ _ _ _=>true
 |.unOp _ _ _=>true
 |.nilCheck _=>true
 |.slice _ _ _ _ _=>true
 |.makeFunc _ _ _=>true
 |.makeInterface _ _=>true
 |.extract (.tmp k) i=>
  match s.slot k with
  |.dM vs=>bif BP (nth vs i) then false else true
  |_=>false
 |.call c=>
  match c.callee with
  |.builtin .len=>true
  |.builtin .min=>true
  |.builtin .max=>true
  |.builtin .append=>agm (pO s o)
  |_=>false
 |.move (.tmp k)=>whole (s.slot k)
 |.move _=>true
 |.assign (.tmp k)=>
  match s.slot k with
  |.vw _ _=>bif (match o.dst with|some d=>C.al d|none=>true) then true else false
  |.sl _ _ _ _=>bif (match o.dst with|some d=>C.al d|none=>true) then true else false
  |.own _ _ _=>false
  |.gJ _ _ _ _=>false
  |_=>true
 |.assign _=>true
 |_=>false
def zd(s:TS)(o:Oper):Bool:=
 match o.op with
 |.assign _=>qu C s o
 |_=>So o
def Ep(s:TS)(o:Oper):Acc:=(Acc.mk [] (match o.op with
 |.alloc _=>br o.dst
 |.box _ _=>br o.dst
 |.call _=>br o.dst
 |_=>[])).add (xH (zd C s o) s o.op.operands.toList)
def jR(ops:List Oper)(s:TS)(o:Oper):Acc:=(Acc.mk (afo ops o) []).add (Ep C s o)
def DS(done:List Nat)(a:List Edge):Nat:=
 match a with
 |[]=>0
 |e::a=>bif Region.binds .any e then Nat.lor (Nat.lor (Nat.shiftLeft 1 e.on) (done.getD e.on 0)) (DS done a) else DS done a
def rA:List Oper->List Nat->List Nat|[],done=>done|o::os,done=>rA os (done++[DS done o.after.toList])
def yX:Nat->List Oper->Bool|_,[]=>true|i,o::os=>bif o.after.toList.all (λe=>bif Region.binds .any e then Nat.blt e.on i else true) then yX (Nat.succ i) os else false
def meets(a b:List Nat):Bool:=a.any λx=>b.any λy=>Nat.beq x y
def Acc.meets(a b:Acc):Bool:=bif Ev.meets a.sl b.sl then true else Ev.meets a.bx b.bx
structure tr where
 r:Acc
 w:Acc
 f:Acc
 n:List Nat
 p:List Pl
 v:List TV
 o:List TV
def rN(f w:Acc)(p:Pl):Bool:=bif p.iL f then true else bif p.jP then p.iL w else false
def vB:List Pl->Pl->Bool|[],_=>false|q::a,p=>bif q.jK p then true else vB a p
def sQ(f w:Acc)(n:List Nat)(ps:List Pl):TV->Bool|.vw p _=>bif rN f w p then false else bif p.iL ⟨[],n⟩ then false else true|.pa p _ _=>bif rN f w p then false else bif p.iL ⟨[],n⟩ then false else bif vB ps p then false else true|.sl p _ _ _=>bif rN f w p then false else bif p.iL ⟨[],n⟩ then false else true|.ep p _ _ _=>bif rN f w p then false else bif p.iL ⟨[],n⟩ then false else true|.ptr k _=>bif eV k n then false else true|.pe k _=>bif eV k n then false else true|.fn _ vs=>bif meets n (vs.flatMap o4) then false else true|_=>true
def LU(f w:Acc)(n:List Nat)(ps:List Pl):List TV->Bool|[]=>true|v::vs=>bif sQ f w n ps v then LU f w n ps vs else false
def rB(f w:Acc)(n:List Nat)(ps:List Pl):List TV->Bool|[]=>true|.agg a::vs=>bif LU f w n ps a then rB f w n ps vs else false|v::vs=>bif sQ f w n ps v then rB f w n ps vs else false
def HH(x y:tr):Bool:=bif x.w.meets (y.r.add y.w) then false else bif y.w.meets (x.r.add x.w) then false else bif rB x.f x.w x.n x.p y.v then(bif rB y.f y.w y.n y.p x.v then(bif rB x.f x.w x.n x.p y.o then rB y.f y.w y.n y.p x.o else false) else false) else false
def B3:TV->Bool|.un=>false|_=>true
def Iw:List TV->Bool|[]=>true|v::vs=>bif B3 v then Iw vs else false
def B4:List TV->Bool|[]=>true|.agg a::vs=>bif Iw a then B4 vs else false|v::vs=>bif B3 v then B4 vs else false
def LV(a:Nat)(y:tr):List tr->Nat->Bool|[],_=>true|x::e,i=>bif (bif Nat.testBit a i then true else HH x y) then LV a y e (Nat.succ i) else false
def ze:List Nat->List tr->List tr->Bool|p::ps,y::a,done=>bif LV p y done 0 then ze ps a (done++[y]) else false|_,[],_=>true|_,_,_=>false
def nQ:List bO->List TV->List Nat|.pb _ _ _::ps,v::vs=>o4 v++nQ ps vs|.bd::ps,v::vs=>o4 v++nQ ps vs|_::ps,_::vs=>nQ ps vs|_,_=>[]
def looks:List TV->Acc|[]=>⟨[],[]⟩|v::vs=>(vp v).add (looks vs)
def zf(s:TS)(o:Oper):Option (Acc×List Nat):=
 match o.op with
 |.call c=>
  match c.callee with
  |.value x=>
   match aU C s x with
   |.fn g cap=>
    match C.fn g (Bc ((c.args.toList.map (aU C s))++cap)) with
    |some q=>some ((bif q.km then⟨[],[]⟩ else looks ((c.args.toList.map (aU C s))++cap)).add ⟨[],nQ q.ps ((c.args.toList.map (aU C s))++cap)⟩,nQ q.ps ((c.args.toList.map (aU C s))++cap))
    |none=>none
   |_=>none
  |_=>none
 |_=>none
def gG(s:TS)(o:Oper):Acc:=
 match zf C s o with
 |some a=>(Acc.mk (br o.dst++opsL o.op.operands.toList) (br o.dst)).add a.1
 |none=>bif qu C s o then⟨br o.dst,[]⟩ else(Acc.mk (br o.dst) []).add (Ep C s o)
def nR(s:TS)(o:Oper):Acc:=
 match zf C s o with
 |some a=>⟨br o.dst,a.2⟩
 |none=>
  match o.op with
  |.store _ a _=>⟨br o.dst,o4 (aU C s a)⟩
  |_=>⟨br o.dst,[]⟩
def xn:List Pl->TS->TS|[],s=>s|p::ps,s=>(xn ps s).fE p.jK
def ui(f w:Acc)(a:List Nat)(s:TS):TS:=a.foldr (λd s=>s.fq d) (s.kill (rN f w))
def nS(o:Oper):List Nat:=
 match o.op with
 |.alloc _=>br o.dst
 |.box _ _=>br o.dst
 |.call c=>
  match c.callee with
  |.value _=>br o.dst
  |_=>[]
 |_=>[]
def rC(ops:List Oper)(o:Oper)(s a:TS):TS:=a.kill λp=>bif p.iL ((jR C ops s o).add (YD C s o.op.operands.toList)) then false else true
def HS(ops:List Oper)(o:Oper)(s a:TS):tr:=⟨jR C ops s o,gG C s o,nR C s o,nS o,pO s o,(jR C ops s o).sl.map s.slot,(gG C s o).sl.map (rC C ops o s a).slot⟩
def kq(w f:Acc)(n:List Nat)(ps:List Pl)(out s:TS):TS:=merge w (xn ps (ui f w n s)) out
def ov(o:Oper):TS:=⟨(br o.dst).foldr (λd t=>t.set d (.dM [])) sM,vh⟩
def HI(ops:List Oper)(o:Oper)(s:TS):tr:=⟨jR C ops s o,⟨br o.dst,[]⟩,⟨br o.dst,[]⟩,[],[],(jR C ops s o).sl.map s.slot,(br o.dst).map λ_=>.dM []⟩
def LW(a:Acc)(o:Oper)(s:TS)(K:TS->Option R):Option R:=step C o (oz a s) K
def ru(ops:List Oper):List Oper->List tr->TS->(TS->Option R)->Option R
 |[],a,s,K=>bif ze (rA ops []) a [] then(bif yX 0 ops then K s else none) else none
 |o::os,a,s,K=>
  bif B4 ((jR C ops s o).sl.map s.slot) then(
  match o.guard with
  |none=>LW C (jR C ops s o) o s λe=>ru ops os (a++[HS C ops o s e]) (kq (gG C s o) (nR C s o) (nS o) (pO s o) (rC C ops o s e) s) K
  |some (j,w)=>
   match qq ops j with
   |some g=>
    match s.slot g with
    |.b x=>
     match w with
     |true=>xQ x (LW C (jR C ops s o) o (s.raw g (.b true)) λe=>ru ops os (a++[HS C ops o s e]) (kq (gG C s o) (nR C s o) (nS o) (pO s o) (rC C ops o s e) (s.raw g (.b true))) K)
      (ru ops os (a++[HI C ops o s]) (kq ⟨br o.dst,[]⟩ ⟨br o.dst,[]⟩ [] [] (ov o) (s.raw g (.b false))) K)
     |false=>xQ x (ru ops os (a++[HI C ops o s]) (kq ⟨br o.dst,[]⟩ ⟨br o.dst,[]⟩ [] [] (ov o) (s.raw g (.b true))) K)
      (LW C (jR C ops s o) o (s.raw g (.b false)) λe=>ru ops os (a++[HS C ops o s e]) (kq (gG C s o) (nR C s o) (nS o) (pO s o) (rC C ops o s e) (s.raw g (.b false))) K)
    |.dM []=>ru ops os (a++[HI C ops o s]) (kq ⟨br o.dst,[]⟩ ⟨br o.dst,[]⟩ [] [] (ov o) s) K
    |_=>none
   |none=>none) else none
def tu:(a:List Ty)->List TV->Option (tp a)
 |[],[]=>some ()
 |t::a,.ip e 0::vs=>
  match dec t e,tu a vs with
  |some x,some j=>some (x,j)
  |_,_=>none
 |_,_=>none
def kM:(a:List Ty)->tp a->List TV|[],_=>[]|t::a,x=>.ip (enc false t x.1) 0::kM a x.2
def Mh(l:ey)(v:TV):Option l.T:=
 match l with
 |.val s=>s.dec v
 |.ptr k c=>
  match v with
  |.ptr j e=>bif Nat.beq k j then(bif Nat.beq c e then some () else none) else none
  |_=>none
 |.vw q t=>
  match v with
  |.vw p a=>bif Pl.beq q p then(bif decide (a=t) then some () else none) else none
  |_=>none
 |.sv q t=>
  match v with
  |.sl p a lo hi=>bif Pl.beq q p then(bif decide (a=t) then some (lo,hi) else none) else none
  |_=>none
 |.ep q t c=>
  match v with
  |.ep p a r e=>bif Pl.beq q p then(bif decide (a=t) then(bif Nat.beq c e then some r else none) else none) else none
  |_=>none
 |.fn g u=>
  match v with
  |.fn x vs=>bif Nat.beq g x then tu u vs else none
  |_=>none
def H5(l:ey)(x:l.T):TV:=
 match l,x with
 |.val s,x=>s.enc x
 |.ptr k c,_=>.ptr k c
 |.vw p t,_=>.vw p t
 |.sv p t,x=>.sl p t x.1 x.2
 |.ep p t c,x=>.ep p t x c
 |.fn g a,x=>.fn g (kM a x)
def Ix:TV->TV->Bool|.b false,.b false=>true|.i k n,.i a e=>bif decide (k=a) then(bif decide (n=0) then decide (e=0) else false) else false|.s [],.s []=>true|.nil,.nil=>true|_,_=>false
def vC:List TV->List TV->Bool|[],[]=>true|c::a,d::e=>bif Ix c d then vC a e else false|_,_=>false
def sX(l:fS)(v:BC):Option l.T:=
 match l with
 |.st t m=>
  match v with
  |.cells a=>bif okF m a then dec t a else none
  |_=>none
 |.one s=>
  match v with
  |.cells [c]=>s.dec c
  |_=>none
 |.vec t=>
  match v with
  |.vec e j=>if h:e=t then some (ki h j) else none
  |_=>none
 |.zr a=>
  match v with
  |.cells u=>bif vC a u then some () else none
  |_=>none
 |.iG=>
  match v with
  |.iG x=>some x
  |_=>none
def H6(l:fS)(x:l.T):BC:=
 match l,x with
 |.st t m,x=>.cells (jC m (enc false t x))
 |.one s,x=>.cells [s.enc x]
 |.vec t,x=>.vec t x
 |.zr a,_=>.cells a
 |.iG,x=>.iG x
def Bs:(l:List (Nat×ey))->TS->Option (MX l)
 |[],_=>some ()
 |p::ps,s=>
  match Mh p.2 (s.slot p.1),Bs ps s with
  |some x,some a=>some (x,a)
  |_,_=>none
def Bt:(l:List (Nat×fS))->TS->Option (MY l)
 |[],_=>some ()
 |p::ps,s=>
  match sX p.2 (s.box p.1),Bt ps s with
  |some x,some a=>some (x,a)
  |_,_=>none
def Live.dec(l:Live)(s:TS):Option l.V:=
 match Bs l.sl s,Bt l.bx s with
 |some x,some y=>some (x,y)
 |_,_=>none
def D8:(l:List (Nat×ey))->MX l->Tr TV|[],_=>sM|p::ps,x=>(D8 ps x.2).set p.1 (H5 p.2 x.1)
def D9:(l:List (Nat×fS))->MY l->Tr BC|[],_=>vh|p::ps,x=>(D9 ps x.2).set p.1 (H6 p.2 x.1)
def Live.enc(l:Live)(x:l.V):TS:=⟨D8 l.sl x.1,D9 l.bx x.2⟩
def nj:Code->List (Nat×Code)|.seq a b=>nj a++nj b|.cond _ a b=>nj a++nj b|.block id (.loop c)=>(id,c)::nj c|.block _ c=>nj c|.loop c=>nj c|_=>[]
def QL(id:Nat):List (Nat×Code)->Code|[]=>.skip|(i,c)::r=>bif Nat.beq i id then c else QL id r
def Lo(id:Nat)(c:Code):Code:=QL id (nj c)
inductive Ex where
 |normal
 |exit (id:Nat)
variable(D:Ctx R)
def agn(id:Nat)(s:TS)(K:Ex->TS->Option R):Option R:=
 match D.loops id with
 |some g=>
  match g.si.dec s with
  |some v=>g.L v λo=>K .normal (g.so.enc o)
  |none=>none
 |none=>none
def ev:Code->TS->(Ex->TS->Option R)->Option R
 |.region id ops u,s,K=>Rx (D.c.pre id) s λs=>
  match u with
  |false=>R3 D.c ops.toList ops.toList s (K .normal)
  |true=>ru D.c ops.toList ops.toList [] s (K .normal)
 |.seq a b,s,K=>ev a s λe j=>
  match e with
  |.normal=>ev b j K
  |.exit i=>K (.exit i) j
 |.cond c a b,s,K=>
  match aU D.c s c with
  |.b x=>xQ x (ev a s K) (ev b s K)
  |_=>none
 |.block id (.loop c),s,K=>
  agn D id s K
 |.block id c,s,K=>ev c s λe j=>
  match e with
  |.normal=>K .normal j
  |.exit i=>bif Nat.beq i id then K .normal j else K (.exit i) j
 |.ret,s,_=>D.H3 s
 |.exit id,s,K=>K (.exit id) s
 |.skip,s,K=>K .normal s
 |_,_,_=>none
def pin(a i:Nat)(p:bO)(x:p.T)(s:TS):TS:=
 match p,x with
 |.val q,x=>s.raw i (q.enc x)
 |.pb t m _,x=>(s.bx (Nat.add a i) (.cells (jC m (enc false t x)))).raw i (.ptr (Nat.add a i) 0)
 |.pr t,x=>(s.raw (Nat.add a i) (.own true t x.1)).raw i (.ep (.slot (Nat.add a i)) t x.2 0)
 |.mu t,x=>(s.raw (Nat.add a i) (.own true t x)).raw i (.vw (.slot (Nat.add a i)) t)
 |.rp t,x=>s.raw i (.ip (enc false t x) 0)
 |.bd,x=>(s.bx (Nat.add a i) (.iG x)).raw i (.ptr (Nat.add a i) 0)
 |.fn g e,x=>s.raw i (.fn g (kM e x))
def pins(a:Nat):Nat->(ps:List bO)->qJ ps->TS|_,[],_=>⟨sM,vh⟩|i,p::ps,x=>pin a i p x.1 (pins a (Nat.succ i) ps x.2)
def look(s:TS):TV->TV
 |.vw (.slot j) _=>
  match s.slot j with
  |.own d t a=>.own d t a
  |.bJ t a=>.bJ t a
  |_=>.un
 |v=>v
def H7(r:ea)(v:TV)(s:TS):Option r.T:=
 match r with
 |.val q=>q.dec v
 |.nb t m=>
  match v with
  |.ptr k 0=>
   match s.box k with
   |.cells a=>bif okF m a then dec t a else none
   |_=>none
  |_=>none
def sY(s:TS):ResultVar->TV
 |.tmp k=>look s (s.slot k)
 |.cell a _=>
  match s.slot a with
  |.ptr k 0=>
   match s.box k with
   |.cells [c]=>c
   |.cells e=>.agg e
   |.vec t j=>.vec t j
   |_=>.un
  |_=>.un
def rD:(rs:List ea)->List ResultVar->TS->Option (kt rs)
 |[],[],_=>some ()
 |r::rs,v::vs,s=>
  match H7 r (sY s v) s,rD rs vs s with
  |some x,some a=>some (x,a)
  |_,_=>none
 |_,_,_=>none
def YE(a i:Nat)(p:bO)(s:TS):Option p.O:=
 match p with
 |.pb t _ y=>
  match s.box (Nat.add a i) with
  |.cells u=>bif okF y u then dec t u else none
  |_=>none
 |.pr t=>
  match s.slot (Nat.add a i) with
  |.own true e j=>if h:e=t then some (ki h j) else none
  |_=>none
 |.mu t=>
  match s.slot (Nat.add a i) with
  |.own true e j=>if h:e=t then some (ki h j) else none
  |_=>none
 |.bd=>
  match s.box (Nat.add a i) with
  |.iG x=>some x
  |_=>none
 |.val _=>some ()
 |.rp _=>some ()
 |.fn _ _=>some ()
def Ea(a:Nat):Nat->(ps:List bO)->TS->Option (pV ps)
 |_,[],_=>some ()
 |i,p::ps,s=>
  match YE a i p s,Ea a (Nat.succ i) ps s with
  |some x,some e=>some (x,e)
  |_,_=>none
def X2(s:TS):ResultVar->List Nat
 |.tmp k=>
  match s.slot k with
  |.vw (.slot j) _=>
   match s.slot j with
   |.own ..=>[Nat.mul 2 j]
   |_=>[]
  |.own ..=>[Nat.mul 2 k]
  |.agg _=>[Nat.mul 2 k]
  |.ptr j _=>[Nat.succ (Nat.mul 2 j)]
  |_=>[]
 |.cell a _=>
  match s.slot a with
  |.ptr j _=>[Nat.succ (Nat.mul 2 j)]
  |_=>[]
def Lp(s:TS):List ResultVar->List Nat|[]=>[]|v::vs=>X2 s v++Lp s vs
def Lq(m:Nat):List Nat->Bool|[]=>true|k::r=>bif eV k r then false else bif Nat.blt k m then Lq m r else false
def H8{R:Type}(ty:List (Nat×TI))(s:TS):List ResultVar->Option R->Option R
 |[],K=>K
 |.tmp _::e,K=>H8 ty s e K
 |.cell a t::e,K=>
  match s.slot a with
  |.ptr k _=>
   match s.box k with
   |.cells j=>bif (bif (mV ty t).var then(bif Nat.beq (mV ty t).sz (sW j) then(bif (mV ty t).ag then(bif Nat.beq (sW j) 1 then false else true) else Nat.beq (sW j) 1) else false) else false) then H8 ty s e K else none
   |.vec _ u=>bif (bif (mV ty t).var then(mV ty t).ag else false) then ae (bR (ai (au u) (mV ty t).sz)) λ_=>H8 ty s e K else none
   |_=>none
  |_=>none
def Xs(ty:List (Nat×TI))(e:Nat)(a:List ResultVar)(ps:List bO)(rs:List ea)(g:kt rs×pV ps->R)(s:TS):Option R:=
 bif Lq (Nat.mul 2 e) (Lp s a) then H8 ty s a (
 match rD rs a s,Ea e 0 ps s with
 |some x,some o=>some (g (x,o))
 |_,_=>none)
 else none
end
def M2{R:Type}(D:Ctx R)(j:Nat)(c:Code)(ps:List bO)(a:qJ ps):Option R:=
 ev D c (pins j 0 ps a) λe s=>
  match e with
  |.normal=>D.H3 s
  |.exit _=>none
end
def Mi:List (Nat×TI):=[(2,.int .i64),(3,.int .i64),(4,.bool),(5,.int .u8),(6,.int .u8),(9,.str),(10,.str),(11,.str),(12,.int .u64),(15,.ptr),(16,.ptr),(17,.ptr),(20,.vM),(21,.int .i32),(22,.sl (.int .u8) 1 1),(23,.sl .ba 10 168),(24,.sl .stx 3 40),(26,.st .kF 6 [(0,3),(1,23),(2,9),(3,4),(4,23),(5,24)]),(28,.sl .msg 6 64),(32,.sl .op 4 40),(34,.st .stx 3 [(0,3),(1,3),(2,32)]),(36,.st .msg 6 [(0,3),(1,3),(2,3),(3,3),(4,32),(5,4)]),(45,.sl (.int .i64) 1 8),(46,.sl .hold 3 24),(48,.st .ba 10 [(0,9),(1,9),(2,9),(3,3),(4,3),(5,3),(6,45),(7,45),(8,45),(9,46)]),(50,.st .hold 3 [(0,3),(1,3),(2,3)]),(52,.ptr),(73,.st .rd 2 [(0,22),(1,3)]),(74,.ptr),(77,.st .op 4 [(0,9),(1,3),(2,3),(3,3)]),(81,.sl .str 1 16),(92,.sl .jd 3 40),(93,.sl .ctx 12 168),(95,.st .dO 7 [(0,23),(1,45),(2,92),(3,9),(4,4),(5,3),(6,93)]),(96,.sl .kF 6 104),(97,.sl .qp 2 24),(99,.st .world 10 [(0,95),(7,96),(8,28),(9,97)]),(140,.sl .event 7 80),(149,.vM),(150,.vM),(167,.st .eU 3 [(0,81),(1,9),(2,3)]),(169,.st .event 7 [(0,3),(1,3),(2,3),(3,4),(4,167)]),(179,.ptr),(181,.iG),(187,.int .u64),(189,.int .u32),(190,.ar 8 (.int .u32)),(194,.ptr),(208,.st .jd 3 [(0,9),(1,3),(2,9)]),(210,.sl .nw 5 80),(211,.sl .mark 2 16),(213,.st .nw 5 [(0,3),(1,3),(2,9),(3,210),(4,211)]),(215,.ar 24 (.int .u8)),(221,.ptr),(223,.int .u64),(224,.int .i64),(227,.ptr),(233,.ar 64 (.int .u32)),(248,.sl (.int .u32) 1 4),(252,.ar 20 (.int .u64)),(253,.ar 65 (.int .u8)),(273,.st .qp 2 [(0,3),(1,9)]),(281,.st .ctx 12 [(0,3),(1,3),(2,3),(3,167),(6,3),(7,3),(8,45),(9,45),(10,45),(11,3)]),(287,.st .mark 2 [(0,3),(1,3)]),(293,.ptr),(296,.ar 256 (.int .u8)),(316,.ar 32 (.int .u8)),(317,.ar 64 (.int .u8)),(335,.ptr),(337,.st .xP 4 [(0,9),(1,3),(2,3),(3,4)]),(342,.sl .ins 4 56),(345,.st .pair 2 [(0,9),(1,3)]),(346,.sl .pair 2 24),(357,.st .ins 4 [(0,3),(1,3),(2,9),(3,211)]),(375,.int .u8),(376,.int .u8),(378,.int .i32),(379,.int .i32)]
def HJ:List Int:=[1779033703,3144134277,1013904242,2773480762,1359893119,2600822924,528734635,1541459225]
def HK:List Int:=[1116352408,1899447441,3049323471,3921009573,961987163,1508970993,2453635748,2870763221,3624381080,310598401,607225278,1426881987,1925078388,2162078206,2614888103,3248222580,3835390401,4022224774,264347078,604807628,770255983,1249150122,1555081692,1996064986,2554220882,2821834349,2952996808,3210313671,3336571891,3584528711,113926993,338241895,666307205,773529912,1294757372,1396182291,1695183700,1986661051,2177026350,2456956037,2730485921,2820302411,3259730800,3345764771,3516065817,3600352804,4094571909,275423344,430227734,506948616,659060556,883997877,958139571,1322822218,1537002063,1747873779,1955562222,2024104815,2227730452,2361852424,2428436474,2756734187,3204031479,3329325298]
def vO(g:Nat):TV:=bif Nat.beq g 0 then .iv (.int .u32) HJ else bif Nat.beq g 2 then .iv (.int .u32) HK else .un
end Go.Ev
namespace Go.Sd
open Go
open Go.Ev hiding World Event Rd
section
def aA:Ty->Nat|.bool|.int _|.str=>1|.hold=>3|.ba=>10|.mark=>2|.nw=>5|.pair=>2|.ins=>4|.jd=>3|.eU=>3|.op=>4|.msg=>6|.stx=>3|.kF=>6|.ctx=>12|.dO=>7|.qp=>2|.world=>10|.event=>7|.rd=>2|.xP=>4
theorem ic(d:Bool)(t:Ty)(x:El t):(enc d t x).length=aA t:=by cases t<;>rfl
theorem QM(t:Ty):0<aA t:=by cases t<;>simp[aA]
def ka:(t:Ty)->El t->Value|.bool,x=>.bool x|.int k,x=>.int k x|.str,x=>.string ⟨⟨x⟩⟩|_,_=>undef
inductive Rt where
 |slot (k:Nat)
 |box (k:Nat)
 |aw (k:Nat)
 deriving DecidableEq
abbrev aZ:=List (Int×Nat)
def Mj:Ty->Nat
 |.bool=>0
 |.int k=>32+(match k with|.i8=>0|.i16=>1|.i32=>2|.i64=>3|.u8=>4|.u16=>5|.u32=>6|.u64=>7)
 |.str=>1
 |.hold=>2
 |.ba=>3
 |.mark=>4
 |.nw=>5
 |.pair=>6
 |.ins=>7
 |.jd=>8
 |.eU=>9
 |.op=>10
 |.msg=>11
 |.stx=>12
 |.kF=>13
 |.ctx=>14
 |.dO=>15
 |.qp=>16
 |.world=>17
 |.event=>18
 |.rd=>19
 |.xP=>20
def cj(t:Ty)(j:Nat):Nat:=64*(j+1)+Mj t
def tg(t:Ty):Int×Nat:=(0,Mj t)
theorem R5(t:Ty)(j:Nat):64<=cj t j:=by simp only[cj];omega
theorem K9(t:Ty):Mj t<64:=by
 cases t<;>try decide
 rename_i k;cases k<;>decide
theorem LX{i:Int}{j:Nat}{t a:Ty}(h:(i,cj t j)=tg a):False:=by
 have u:=K9 a;have e:=congrArg Prod.snd h;simp only[cj,tg] at e;omega
theorem asy{i:Int}{j:Nat}{t:Ty}(e:64<=j)(h:(i,j)=tg t):False:=by
 have u:=K9 t;have a:=congrArg Prod.snd h;simp only[tg] at a;omega
theorem acT{t t':Ty}(h:Mj t=Mj t'):t=t':=by
 cases t<;>cases t'<;>first
  |rfl
  |(exfalso;revert h;decide)
  |(rename_i k;cases k<;>(exfalso;revert h;decide))
  |(rename_i k a;cases k<;>cases a<;>first|rfl|(exfalso;revert h;decide))
theorem Rz{t a:Ty}{j j':Nat}(h:cj t j=cj a j'):t=a/\j=j':=by
 have e:=K9 t;have u:=K9 a;simp only[cj] at h;exact⟨acT (by omega),by omega⟩
inductive G where
 |fr
 |im
 |at(q:Rt) (p:aZ)
 deriving DecidableEq
abbrev Gp:=Rt×aZ
def gp:Pl->Gp|.slot k=>(.slot k,[])|.cell k c=>(.box k,[(0,c)])|.sub p t r c=>((gp p).1,(gp p).2++[(r,cj t c)])
def lZ(m:Option Gp)(r:Int)(j:Nat):Option Gp:=m.map λq=>(q.1,q.2++[(r,j)])
def zp(n:Nat)(fr:Nat×Nat):Prop:=∀j,j<n->¬ (fr.1<=j/\j<fr.2)
def u8T:Ty->Bool|.int .u8=>true|_=>false
structure oC(t:Ty)(n:Nat)(fr:Nat×Nat):Prop where
 un:zp n fr
 mrk:u8T t=false->¬ (fr.1<=n/\n<fr.2)
instance{t:Ty} {n:Nat} {fr:Nat×Nat}:CoeFun (oC t n fr) λ_=>∀j,j<n->¬ (fr.1<=j/\j<fr.2):=⟨λh=>h.un⟩
theorem oC.zero{t:Ty}{n:Nat}:oC t n (0,0):=⟨λj _=>by simp,λ_=>by simp⟩
structure Rc where
 w:World
 γ:Nat->G
 bx:Nat->Nat
 va:Pl->Option Value
def VO(c:Rc):Pl->Prop|.slot _=>True|.cell k _=>c.γ (c.bx k)=.at (.box k) []|.sub p t _ _=>VO c p/\∀b o len cap,c.va p=some (.slice (some ⟨b,o,none⟩) len cap)->c.γ b=.im\/c.γ b=.at (gp p).1 ((gp p).2++[tg t])
abbrev cellAt(w:World)(b o:Nat):Option Value:=w.cell? ⟨b,o,none⟩
def bC:TV->Bool|.b _|.i _ _|.s _|.nil|.gU|.bJ _ _|.eM _ _|.own _ _ _=>true|_=>false
def eE(a:TV):Bool:=bC a||(match a with|.un=>true|_=>false)
def lh(a:TV):Bool:=eE a||(match a with|.vw _ _=>true|_=>false)
def ik:TV->Bool|.er _|.mY|.vec _ _=>true|.agg a=>a.all eE|tv=>eE tv
def rW:TV->Bool|.ptr _ _=>true|.ip a _=>a.all bC|_=>false
inductive Rd(c:Rc):Option Gp->TV->Value->Prop
 |un (m v):Rd c m .un v
 |b (m x):Rd c m (.b x) (.bool x)
 |i (m k n):Rd c m (.i k n) (.int k n)
 |s (m x):Rd c m (.s x) (.string ⟨⟨x⟩⟩)
 |nil (m):Rd c m .nil (.slice none 0 0)
 |gU (m a):Rd c m .gU (.slice a 0 0)
 |lE (m t a cap):Rd c m (.bJ t []) (.slice a 0 cap)
 |pP (m t) (xs:List (El t)) (b o cap) (f:Nat->Nat->Value):xs.length<=cap->c.γ b=.im->
  (∀(r:Nat)x(j:Nat)tv,xs[r]?=some x->(enc false t x)[j]?=some tv->cellAt c.w b (o+r*aA t+j)=some (f r j)/\(f r j).oneCell'=true)->
  (∀(r:Nat)x(j:Nat)tv,xs[r]?=some x->(enc false t x)[j]?=some tv->Rd c none tv (f r j))->Rd c m (.bJ t xs) (.slice (some ⟨b,o,none⟩) xs.length cap)
 |sZ (m t a):Rd c m (.eM t []) (.slice a 0 0)
 |s7 (m t) (xs:List (El t)) (b o) (f:Nat->Nat->Value):c.γ b=.im->
  (∀(r:Nat)x(j:Nat)tv,xs[r]?=some x->(enc false t x)[j]?=some tv->cellAt c.w b (o+r*aA t+j)=some (f r j)/\(f r j).oneCell'=true)->
  (∀(r:Nat)x(j:Nat)tv,xs[r]?=some x->(enc false t x)[j]?=some tv->Rd c none tv (f r j))->Rd c m (.eM t xs) (.slice (some ⟨b,o,none⟩) xs.length xs.length)
 |j6 (m d t a):Rd c m (.own d t []) (.slice a 0 0)
 |kY (q p d t) (xs:List (El t)) (b o cap cs e fr) (f:Nat->Nat->Value):xs.length<=cap->c.γ b=.at q (p++[tg t])->c.w.heap[b]?=some (.cells cs e fr)->oC t cs.size fr->o+cap*aA t<=cs.size->
  (∀(r:Nat)x(j:Nat)tv,xs[r]?=some x->(enc d t x)[j]?=some tv->cellAt c.w b (o+r*aA t+j)=some (f r j)/\(f r j).oneCell'=true)->
  (∀(r:Nat)x(j:Nat)tv,xs[r]?=some x->(enc d t x)[j]?=some tv->Rd c (some (q,p++[((r:Int),cj t j)])) tv (f r j))->Rd c (some (q,p)) (.own d t xs) (.slice (some ⟨b,o,none⟩) xs.length cap)
 |gJ (q p t) (xs:List (El t)) (r0 c0 b o cap cs e fr) (f:Nat->Nat->Value):xs.length<=cap->c.γ b=.at q (p++[tg t])->c.w.heap[b]?=some (.cells cs e fr)->oC t cs.size fr->o+cap*aA t<=cs.size->
  (∀(r:Nat)x(j:Nat)tv,xs[r]?=some x->(enc true t x)[j]?=some tv->cellAt c.w b (o+r*aA t+j)=some (f r j)/\(f r j).oneCell'=true)->
  (∀(r:Nat)x(j:Nat)tv,xs[r]?=some x->(enc true t x)[j]?=some tv->((r:Int)≠r0\/j≠c0)->Rd c (some (q,p++[((r:Int),cj t j)])) tv (f r j))->Rd c (some (q,p)) (.gJ t xs r0 c0) (.slice (some ⟨b,o,none⟩) xs.length cap)
 |vec (m t) (xs:List (El t)):fP t=false->Rd c m (.vec t xs) (.agg (xs.map (ka t)).toArray)
 |vw (m p t v):VO c p->c.va p=some v->Rd c m (.vw p t) v
 |pa (m p t) (xs:List (El t)) (v u):p.jP=true->VO c p->c.va p=some u->Rd c (some (gp p)) (.own true t xs) v->Rd c m (.pa p t xs) v
 |sl (m p t lo hi a len cap a' cap'):VO c p->c.va p=some (.slice a len cap)->0<=lo->lo<=hi->hi<=(len:Int)->(cap'=0\/∃b o,a=some ⟨b,o,none⟩/\a'=some ⟨b,o+lo.toNat*aA t,none⟩)->
  hi.toNat-lo.toNat<=cap'->cap'+lo.toNat<=cap->Rd c m (.sl p t lo hi) (.slice a' (hi.toNat-lo.toNat) cap')
 |ptr (m k j):Rd c m (.ptr k j) (.pointer (some ⟨c.bx k,j,none⟩))
 |pe (m k n):0<=n->Rd c m (.pe k n) (.pointer (some ⟨c.bx k,n.toNat,none⟩))
 |ep (m p t r j b o len cap):VO c p->c.va p=some (.slice (some ⟨b,o,none⟩) len cap)->0<=r->r<(len:Int)->Rd c m (.ep p t r j) (.pointer (some ⟨b,o+r.toNat*aA t+j,none⟩))
 |ip (m cs j b o) (f:Nat->Value):(∀tv∈cs,bC tv=true)->c.γ b=.im->(∀(i:Nat)tv,cs[i]?=some tv->cellAt c.w b (o+i)=some (f i)/\(f i).oneCell'=true)->(∀(i:Nat)tv,cs[i]?=some tv->Rd c none tv (f i))->
  Rd c m (.ip cs j) (.pointer (some ⟨b,o+j,none⟩))
 |iv (m t) (xs:List (El t)) (b o):c.γ b=.im->fP t=false->(∀(r:Nat)x,xs[r]?=some x->cellAt c.w b (o+r)=some (ka t x))->Rd c m (.iv t xs) (.pointer (some ⟨b,o,none⟩))
 |agg (m cs) (vs:Array Value):(∀tv∈cs,lh tv=true)->vs.size=cs.length->(∀(j:Nat)tv v,cs[j]?=some tv->vs[j]?=some v->v.oneCell'=true)->(∀(j:Nat)tv v,cs[j]?=some tv->vs[j]?=some v->Rd c (lZ m 0 j) tv v)->Rd c m (.agg cs) (.agg vs)
 |dM (m cs) (vs:Array Value):(∀tv∈cs,ik tv=true)->vs.size=cs.length->(∀(j:Nat)tv v,cs[j]?=some tv->vs[j]?=some v->Rd c (lZ m 0 j) tv v)->Rd c m (.dM cs) (.tuple vs)
 |fn (m g cap) (vs:Array Value):(∀tv∈cap,rW tv=true)->vs.size=cap.length->(∀(j:Nat)tv v,cap[j]?=some tv->vs[j]?=some v->Rd c none tv v)->Rd c m (.fn g cap) (.func (.func g) #[] vs)
 |mY (m):Rd c m .mY .nilIface
 |np (m):Rd c m .np (.pointer none)
 |vP (m t x):Rd c m (.er true) (.iface t x)
 |vQ (m):Rd c m (.er false) .nilIface
inductive MV(p:Pl):TV->Prop
 |vw (t):MV p (.vw p t)
 |pa (t xs):MV p (.pa p t xs)
 |sl (t lo hi):MV p (.sl p t lo hi)
 |ep (t r j):MV p (.ep p t r j)
 |agg (cs t):TV.vw p t∈cs->MV p (.agg cs)
inductive MP(p:Pl):TV->Prop
 |pa (t xs):MP p (.pa p t xs)
inductive MB(k:Nat):TV->Prop
 |ptr (j):MB k (.ptr k j)
 |pe (n):MB k (.pe k n)
 |fn (g cs j):TV.ptr k j∈cs->MB k (.fn g cs)
theorem MP.mv{p:Pl}{tv:TV}(h:MP p tv):MV p tv:=by cases h;exact .pa _ _
theorem afp{a:TV}(h:eE a=true):bC a=true\/a=.un:=by
 unfold eE at h;cases a<;>simp_all [bC]
theorem aqW{a:TV}(h:lh a=true):bC a=true\/a=.un\/∃p t,a=.vw p t:=by
 unfold lh eE at h;cases a<;>simp_all [bC]
theorem apo{tv:TV}(h:lh tv=true)(k:Nat):¬ MB k tv:=by
 intro m;cases m<;>simp[lh,eE,bC] at h
theorem Wu{tv:TV}(h:lh tv=true)(p:Pl):¬ MP p tv:=by
 intro m;cases m;simp[lh,eE,bC] at h
theorem afq{a:TV}{e:List TV}{p:Pl}(h:lh a=true)(j:a∈e)(k:MV p a):MV p (.agg e):=by
 cases k<;>first|exact .agg _ _ j|simp[lh,eE,bC] at h
theorem u9{tv:TV}(h:ik tv=true)(p:Pl):¬ MV p tv:=by
 intro k;cases k<;>simp[ik,eE,bC] at h;rename_i a;have:=h _ a;simp[eE,bC] at this
theorem Hq{tv:TV}(h:ik tv=true)(k:Nat):¬ MB k tv:=by
 intro m;cases m<;>simp[ik,eE,bC] at h
theorem QN{tv:TV}(h:rW tv=true)(p:Pl):¬ MV p tv:=by
 intro k;cases k<;>simp[rW] at h
theorem aqX{a:TV}{e:List TV}{g k:Nat}(h:rW a=true)(j:a∈e)(m:MB k a):MB k (.fn g e):=by
 cases m<;>first|exact .fn _ _ _ j|simp[rW] at h
theorem fH{tv:TV}(h:bC tv=true)(p:Pl):¬ MV p tv:=by
 intro k;cases k<;>simp[bC] at h
theorem lQ{tv:TV}(h:bC tv=true)(p:Nat):¬ MB p tv:=by
 intro k;cases k<;>simp[bC] at h
theorem Dv(d:Bool)(t:Ty)(x:El t):∀a∈enc d t x,bC a=true:=by
 cases d<;>cases t<;>simp[enc,sc,bC]
theorem dH{a:Type}{l:List a}{j:Nat}{x:a}(h:l[j]?=some x):x∈l:=ayr h
theorem fg{d:Bool}{t:Ty}{x:El t}{j:Nat}{a:TV}(h:(enc d t x)[j]?=some a):bC a=true:=Dv d t x a (dH h)
theorem mN{w w':World}{b o:Nat}(h:w'.heap[b]?=w.heap[b]?):cellAt w' b o=cellAt w b o:=by simp only[cellAt,World.cell?,h]
theorem Rd.mono{c S:Rc}{m:Option Gp}{A:TV}{v:Value}(h:Rd c m A v):∀(m':Option Gp),
  (∀b,c.γ b=.im->S.γ b=.im/\S.w.heap[b]?=c.w.heap[b]?)->
  (∀q p,m=some (q,p)->∃M N,m'=some (M,N)/\∀b P,c.γ b=.at q (p++P)->S.γ b=.at M (N++P)/\S.w.heap[b]?=c.w.heap[b]?)->
  (∀k,MB k A->S.bx k=c.bx k)->(∀p,MV p A->S.va p=c.va p/\(VO c p->VO S p))->(∀p,MP p A->∀b P,c.γ b=.at (gp p).1 ((gp p).2++P)->S.γ b=.at (gp p).1 ((gp p).2++P)/\S.w.heap[b]?=c.w.heap[b]?)->Rd S m' A v:=by
 have QO:∀(q:Rt)(p:aZ),(none:Option Gp)=some (q,p)->∃M N,(none:Option Gp)=some (M,N)/\∀b P,c.γ b=.at q (p++P)->S.γ b=.at M (N++P)/\S.w.heap[b]?=c.w.heap[b]?:=λ_ _ h=>by simp at h
 have RA:∀{m m':Option Gp}{r:Int}{j:Nat},(∀q p,m=some (q,p)->∃M N,m'=some (M,N)/\∀b P,c.γ b=.at q (p++P)->S.γ b=.at M (N++P)/\S.w.heap[b]?=c.w.heap[b]?)->
   ∀q p,lZ m r j=some (q,p)->∃M N,lZ m' r j=some (M,N)/\∀b P,c.γ b=.at q (p++P)->S.γ b=.at M (N++P)/\S.w.heap[b]?=c.w.heap[b]?:=by
  intro m m' r j J q p hs
  cases m with
  |none=>simp[lZ] at hs
  |some g=>
   obtain⟨q0,p0⟩:=g
   simp only[lZ,jA,aQ,cZ] at hs
   obtain⟨rfl,rfl⟩:=hs
   obtain⟨M,N,hm,hf⟩:=J _ _ rfl
   subst hm
   refine⟨M,N++[(r,j)],rfl,λb P hb=>?_⟩
   have:=hf b ((r,j)::P) (by simpa using hb)
   simpa using this
 induction h with
 |un m v=>intros;exact .un _ _
 |b m x=>intros;exact .b _ _
 |i m k n=>intros;exact .i _ _ _
 |s m x=>intros;exact .s _ _
 |nil m=>intros;exact .nil _
 |gU m a=>intros;exact .gU _ _
 |lE m t a cap=>intros;exact .lE _ _ _ _
 |pP m t xs b o cap f Y Z E _ Q=>
  intro m' D J R F U;obtain⟨H,hh⟩:=D b Z;exact .pP _ _ _ _ _ _ f Y H (λr x j A hx y=>by rw[mN hh];exact E r x j A hx y)
   (λr x j A hx y=>Q r x j A hx y none D QO (λk I=>absurd I (lQ (fg y) k)) (λp C=>absurd C (fH (fg y) p)) (λp C=>absurd C.mv (fH (fg y) p)))
 |sZ m t a=>intros;exact .sZ _ _ _
 |s7 m t xs b o f Z E _ Q=>
  intro m' D J R F U;obtain⟨H,hh⟩:=D b Z;exact .s7 _ _ _ _ _ f H (λr x j A hx y=>by rw[mN hh];exact E r x j A hx y)
   (λr x j A hx y=>Q r x j A hx y none D QO (λk I=>absurd I (lQ (fg y) k)) (λp C=>absurd C (fH (fg y) p)) (λp C=>absurd C.mv (fH (fg y) p)))
 |j6 m d t a=>intros;exact .j6 _ _ _ _
 |kY q p d t xs b o cap cs e fr f Y Z hh hu hs E _ Q=>
  intro m' D J R F U;obtain⟨M,N,rfl,hf⟩:=J q p rfl;obtain⟨H,cQ⟩:=hf b [tg t] Z;refine .kY _ _ _ _ _ _ _ _ cs e fr f Y H (cQ.trans hh) hu hs (λr x j A hx y=>by rw[mN cQ];exact E r x j A hx y) (λr x j A hx y=>?_);exact Q r x j A hx y _ D (RA (m:=some (q,p)) (m':=some (M,N)) J) (λk I=>absurd I (lQ (fg y) k)) (λp C=>absurd C (fH (fg y) p)) (λp C=>absurd C.mv (fH (fg y) p))
 |gJ q p t xs r0 c0 b o cap cs e fr f Y Z hh hu hs E _ Q=>
  intro m' D J R F U;obtain⟨M,N,rfl,hf⟩:=J q p rfl;obtain⟨H,cQ⟩:=hf b [tg t] Z;refine .gJ _ _ _ _ _ _ _ _ _ cs e fr f Y H (cQ.trans hh) hu hs (λr x j A hx y=>by rw[mN cQ];exact E r x j A hx y) (λr x j A hx y bS=>?_);exact Q r x j A hx y bS _ D (RA (m:=some (q,p)) (m':=some (M,N)) J) (λk I=>absurd I (lQ (fg y) k)) (λp C=>absurd C (fH (fg y) p)) (λp C=>absurd C.mv (fH (fg y) p))
 |vec m t xs ht=>intros;exact .vec _ _ _ ht
 |vw m p t v I hv=>intro m' D J R F U;exact .vw _ _ _ _ ((F p (.vw t)).2 I) ((F p (.vw t)).1.trans hv)
 |pa m p t xs v u M3 cI bL _ Q=>
  intro m' D J R F U;refine .pa _ _ _ _ _ u M3 ((F p (.pa t xs)).2 cI) ((F p (.pa t xs)).1.trans bL) (Q _ D (λq P hq=>⟨_,_,rfl,λb ρ hb=>?_⟩) (λk I=>by cases I) (λp C=>by cases C) (λp C=>by cases C));simp only[aQ] at hq;have:=U p (.pa t xs) b ρ (by rw[hq];exact hb);rw[hq] at this⊢;exact this
 |sl m p t lo hi a len cap a' aa I hv h1 h2 h3 h4 h5 h6=>intro m' D J R F U;exact .sl _ _ _ _ _ a len cap _ _ ((F p (.sl t lo hi)).2 I) ((F p (.sl t lo hi)).1.trans hv) h1 h2 h3 h4 h5 h6
 |ptr m k j=>intro m' D J R F U;rw[<-R k (.ptr j)];exact .ptr _ _ _
 |pe m k n h0=>intro m' D J R F U;rw[<-R k (.pe n)];exact .pe _ _ _ h0
 |ep m p t r j b o len cap I hv h1 h2=>intro m' D J R F U;exact .ep _ _ _ _ _ b o len cap ((F p (.ep t r j)).2 I) ((F p (.ep t r j)).1.trans hv) h1 h2
 |ip m cs j b o f C Z E _ Q=>
  intro m' D J R F U;obtain⟨H,hh⟩:=D b Z;exact .ip _ _ _ _ _ f C H (λi A hi=>by rw[mN hh];exact E i A hi) (λi A hi=>Q i A hi none D QO (λk I=>absurd I (lQ (C A (dH hi)) k))
   (λp iW=>absurd iW (fH (C A (dH hi)) p)) (λp iW=>absurd iW.mv (fH (C A (dH hi)) p)))
 |iv m t xs b o Z ht E=>
  intro m' D J R F U;obtain⟨H,hh⟩:=D b Z;exact .iv _ _ _ _ _ H ht (λr x hx=>by rw[mN hh];exact E r x hx)
 |agg m cs vs E Y h1 _ Q=>
  intro m' D J R F U;exact .agg _ _ _ E Y h1 (λj A v y hv=>Q j A v y hv _ D (RA J) (λk I=>absurd I (apo (E A (dH y)) k)) (λp C=>F p (afq (E A (dH y)) (dH y) C))
   (λp C=>absurd C (Wu (E A (dH y)) p)))
 |dM m cs vs E Y _ Q=>
  intro m' D J R F U;exact .dM _ _ _ E Y (λj A v y hv=>Q j A v y hv _ D (RA J) (λk I=>absurd I (Hq (E A (dH y)) k)) (λp C=>absurd C (u9 (E A (dH y)) p)) (λp C=>absurd C.mv (u9 (E A (dH y)) p)))
 |fn m g cap vs E Y _ Q=>
  intro m' D J R F U;exact .fn _ _ _ _ E Y (λj A v y hv=>Q j A v y hv none D QO (λk I=>R k (aqX (E A (dH y)) (dH y) I)) (λp C=>absurd C (QN (E A (dH y)) p)) (λp C=>absurd C.mv (QN (E A (dH y)) p)))
 |mY m=>intros;exact .mY _
 |np m=>intros;exact .np _
 |vP m t x=>intros;exact .vP _ _ _
 |vQ m=>intros;exact .vQ _
theorem Rd.lift{c:Rc}{a:TV}{v:Value}(h:Rd c none a v)(m:Option Gp):Rd c m a v:=h.mono m (λ_ h=>⟨h,rfl⟩) (λ_ _ h=>by simp at h) (λ_ _=>rfl) (λ_ _=>⟨rfl,λh=>h⟩) (λ_ _ _ _ h=>⟨h,rfl⟩)
theorem Rd.same{c:Rc}{m:Option Gp}{a:TV}{v:Value}{c':Rc}(h:Rd c m a v)(u:∀b,c.γ b=.im->c'.γ b=.im/\c'.w.heap[b]?=c.w.heap[b]?)(x:∀q p,m=some (q,p)->∀b e,c.γ b=.at q (p++e)->c'.γ b=.at q (p++e)/\c'.w.heap[b]?=c.w.heap[b]?)(y:∀k,MB k a->c'.bx k=c.bx k)(A:∀p,MV p a->c'.va p=c.va p/\(VO c p->VO c' p))(C:∀p,MP p a->∀b e,c.γ b=.at (gp p).1 ((gp p).2++e)->c'.γ b=.at (gp p).1 ((gp p).2++e)/\c'.w.heap[b]?=c.w.heap[b]?):Rd c' m a v:=h.mono m u (λq p j=>⟨q,p,j,x q p j⟩) y A C
theorem Wv(d:Bool)(t:Ty)(x:El t):(enc d t x).map kH=enc false t x:=by
 cases d<;>cases t<;>simp[enc,kH,sc]
theorem JK{d:Bool}{t:Ty}{x:El t}{j:Nat}{a:TV}(h:(enc false t x)[j]?=some a):∃bP,(enc d t x)[j]?=some bP/\a=kH bP:=by
 rw[<-Wv d t x,ir] at h;cases e:(enc d t x)[j]? with
 |none=>simp[e] at h
 |some bP=>exact⟨bP,rfl,by simpa[e] using h.symm⟩
theorem Rd.ku{c c':Rc}{m:Option Gp}{y:TV}{v:Value}(h:Rd c m y v):bC y=true->(∀b,c.γ b=.im->c'.γ b=.im/\c'.w.heap[b]?=c.w.heap[b]?)->
  (∀q p,m=some (q,p)->∀b F,c.γ b=.at q (p++F)->c'.γ b=.im/\c'.w.heap[b]?=c.w.heap[b]?)->Rd c' none (kH y) v:=by
 induction h with
 |b m x=>intros;exact .b _ _
 |i m k n=>intros;exact .i _ _ _
 |s m x=>intros;exact .s _ _
 |nil m=>intros;exact .nil _
 |gU m a=>intros;exact .gU _ _
 |lE m t a cap=>intros;exact .lE _ _ _ _
 |pP m t xs b o cap f H A C I _=>
  intro _ D _;exact(Rd.pP none t xs b o cap f H A C I).mono none D (λ_ _ h=>by simp at h) (λk J=>by cases J) (λp u=>by cases u) (λp u=>by cases u)
 |sZ m t a=>intros;exact .sZ _ _ _
 |s7 m t xs b o f A C I _=>
  intro _ D _;exact(Rd.s7 none t xs b o f A C I).mono none D (λ_ _ h=>by simp at h) (λk J=>by cases J) (λp u=>by cases u) (λp u=>by cases u)
 |j6 m d t a=>intros;exact .lE _ _ _ _
 |kY q p d t xs b o cap Z e fr f H A hh hu hs C _ S=>
  intro _ D Q;obtain⟨M,U⟩:=Q q p rfl b [tg t] A;refine .pP _ _ _ _ _ _ f H M (λr x j y hx N=>?_) (λr x j y hx N=>?_)
  ·obtain⟨P,E,rfl⟩:=JK (d:=d) N;rw[mN U];exact C r x j P hx E
  ·obtain⟨P,E,rfl⟩:=JK (d:=d) N;refine S r x j P hx E (fg E) D (λq2 p2 R b2 F Y=>?_);simp only[aQ,cZ] at R;obtain⟨rfl,rfl⟩:=R;exact Q q p rfl b2 (((r:Int),cj t j)::F) (by simpa using Y)
 |_=>intro h;simp[bC] at h
theorem oS{t:Ty}(h:flat t=true)(d a:Bool)(x:El t):enc d t x=enc a t x:=by cases t<;>simp_all [flat,enc]
theorem alN(d:Bool)(t:Ty)(x:El t):enc (flat t) t x=(enc d t x).map (if flat t then id else kH):=by
 cases a:flat t with
 |true=>simp[oS a true d]
 |false=>simp[Wv]
theorem Rd.yW{c c':Rc}{q:Rt}{p:aZ}{d:Bool}{t:Ty}{xs:List (El t)}{v:Value}(h:Rd c (some (q,p)) (.own d t xs) v)(H:∀b,c.γ b=.im->c'.γ b=.im/\c'.w.heap[b]?=c.w.heap[b]?)
  (h0:∀b t,c.γ b=.at q (p++[tg t])->c'.γ b=.at q (p++[tg t])/\c'.w.heap[b]?=c.w.heap[b]?)(I:∀b r j A,64<=j->c.γ b=.at q (p++(r,j)::A)->c'.γ b=.im/\c'.w.heap[b]?=c.w.heap[b]?):
  Rd c' (some (q,p)) (.own (flat t) t xs) v:=by
 cases h with
 |j6=>exact .j6 _ _ _ _
 |kY _ _ _ _ _ b o cap J e fr f M N P Q R S U=>
  obtain⟨C,D⟩:=h0 b t N;have back:∀(x:El t)(j:Nat)u,(enc (flat t) t x)[j]?=some u->∃bP,(enc d t x)[j]?=some bP/\u=(if flat t then id else kH) bP:=λx j u y=>by
   rw[alN d t x,ir] at y
   cases a:(enc d t x)[j]? with
   |none=>simp[a] at y
   |some bP=>exact⟨bP,rfl,by simpa[a] using y.symm⟩
  refine .kY _ _ _ _ _ _ _ _ J e fr f M C (D.trans P) Q R (λr x j u hx y=>?_) (λr x j u hx y=>?_)
  ·obtain⟨bP,a,_⟩:=back x j u y;rw[mN D];exact S r x j bP hx a
  ·obtain⟨bP,a,rfl⟩:=back x j u y;have Y:=fg a;have hz:Rd c' none (kH bP) (f r j):=(U r x j bP hx a).ku Y H (λq2 p2 E b2 A Z=>by
    simp only[aQ,cZ] at E
    obtain⟨rfl,rfl⟩:=E
    exact I b2 r (cj t j) A (R5 t j) (by simpa using Z));cases F:flat t with
   |false=>simpa[F] using hz.lift _
   |true=>
    have:kH bP=bP:=by
     have:bP∈enc d t x:=dH a
     revert this
     cases t<;>simp_all [flat,enc]<;>(rintro(rfl|rfl|rfl|rfl)<;>rfl)<;>first|(rintro(rfl|rfl|rfl)<;>rfl)|(rintro(rfl|rfl)<;>rfl)|(rintro rfl;rfl)
    rw[this] at hz;simpa[F] using hz.lift _
section
variable{c:Rc}{m:Option Gp}{v:Value}{t:Ty}{xs:List (El t)}
theorem Rd.mR{d:Bool}(h:Rd c m (.own d t xs) v):(xs=[]/\∃a,v=.slice a 0 0)\/∃q p b o cap u e fr,∃f:Nat->Nat->Value,m=some (q,p)/\v=.slice (some ⟨b,o,none⟩) xs.length cap/\xs.length<=cap/\c.γ b=.at q (p++[tg t])/\
  c.w.heap[b]?=some (.cells u e fr)/\oC t u.size fr/\o+cap*aA t<=u.size/\
  (∀(r:Nat)x(j:Nat)y,xs[r]?=some x->(enc d t x)[j]?=some y->cellAt c.w b (o+r*aA t+j)=some (f r j)/\(f r j).oneCell'=true)/\
  (∀(r:Nat)x(j:Nat)y,xs[r]?=some x->(enc d t x)[j]?=some y->Rd c (some (q,p++[((r:Int),cj t j)])) y (f r j)):=by
 cases h with
 |j6 _ _ _ a=>exact .inl ⟨rfl,a,rfl⟩
 |kY q p _ _ _ b o cap u e fr f A C D E F H I=>exact .inr ⟨q,p,b,o,cap,u,e,fr,f,rfl,rfl,A,C,D,E,F,H,I⟩
theorem Rd.Ww{y:Int}{A:Nat}(h:Rd c m (.gJ t xs y A) v):∃q p b o cap a e fr,∃f:Nat->Nat->Value,m=some (q,p)/\v=.slice (some ⟨b,o,none⟩) xs.length cap/\xs.length<=cap/\c.γ b=.at q (p++[tg t])/\
  c.w.heap[b]?=some (.cells a e fr)/\oC t a.size fr/\o+cap*aA t<=a.size/\
  (∀(r:Nat)x(j:Nat)u,xs[r]?=some x->(enc true t x)[j]?=some u->cellAt c.w b (o+r*aA t+j)=some (f r j)/\(f r j).oneCell'=true)/\
  (∀(r:Nat)x(j:Nat)u,xs[r]?=some x->(enc true t x)[j]?=some u->((r:Int)≠y\/j≠A)->Rd c (some (q,p++[((r:Int),cj t j)])) u (f r j)):=by
 cases h with
 |gJ q p _ _ _ _ b o cap a e fr f C D E F H I J=>exact⟨q,p,b,o,cap,a,e,fr,f,rfl,rfl,C,D,E,F,H,I,J⟩
theorem Rd.ub(h:Rd c m (.bJ t xs) v):(xs=[]/\∃a cap,v=.slice a 0 cap)\/∃b o cap,∃f:Nat->Nat->Value,v=.slice (some ⟨b,o,none⟩) xs.length cap/\xs.length<=cap/\c.γ b=.im/\
  (∀(r:Nat)x(j:Nat)e,xs[r]?=some x->(enc false t x)[j]?=some e->cellAt c.w b (o+r*aA t+j)=some (f r j)/\(f r j).oneCell'=true)/\
  (∀(r:Nat)x(j:Nat)e,xs[r]?=some x->(enc false t x)[j]?=some e->Rd c none e (f r j)):=by
 cases h with
 |lE _ _ a cap=>exact .inl ⟨rfl,a,cap,rfl⟩
 |pP _ _ _ b o cap f u y A C=>exact .inr ⟨b,o,cap,f,rfl,u,y,A,C⟩
theorem Rd.QP(h:Rd c m (.eM t xs) v):(xs=[]/\∃a,v=.slice a 0 0)\/∃b o,∃f:Nat->Nat->Value,v=.slice (some ⟨b,o,none⟩) xs.length xs.length/\c.γ b=.im/\
  (∀(r:Nat)x(j:Nat)e,xs[r]?=some x->(enc false t x)[j]?=some e->cellAt c.w b (o+r*aA t+j)=some (f r j)/\(f r j).oneCell'=true)/\
  (∀(r:Nat)x(j:Nat)e,xs[r]?=some x->(enc false t x)[j]?=some e->Rd c none e (f r j)):=by
 cases h with
 |sZ _ _ a=>exact .inl ⟨rfl,a,rfl⟩
 |s7 _ _ _ b o f u y A=>exact .inr ⟨b,o,f,rfl,u,y,A⟩
theorem Rd.Hr(h:Rd c m (.bJ t xs) v):∃a cap,v=.slice a xs.length cap/\xs.length<=cap:=by
 rcases h.ub with⟨rfl,a,cap,rfl⟩|⟨b,o,cap,f,rfl,e,_⟩
 ·exact⟨a,cap,rfl,CF _⟩
 ·exact⟨_,_,rfl,e⟩
theorem Rd.QQ{d:Bool}(h:Rd c m (.own d t xs) v):∃a cap,v=.slice a xs.length cap/\xs.length<=cap:=by
 rcases h.mR with⟨rfl,a,rfl⟩|⟨q,p,b,o,cap,u,e,fr,f,_,rfl,j,_⟩
 ·exact⟨a,0,rfl,CF _⟩
 ·exact⟨_,_,rfl,j⟩
theorem Rd.DT(h:Rd c m (.eM t xs) v):Rd c m (.bJ t xs) v:=by
 rcases h.QP with⟨rfl,a,rfl⟩|⟨b,o,f,rfl,e,j,u⟩
 ·exact .lE _ _ _ _
 ·exact .pP _ _ _ _ _ _ f (iI _) e j u
end
end
section
section
variable{α:Type}
theorem VP{α:Type}(i j:Nat)(x y:α):(bif Nat.beq i j then x else y)=if i=j then x else y:=by
 cases h:Nat.beq i j
 ·rw[aE (λe=>by subst e;simp at h)];rfl
 ·rw[aD (gr h)];rfl
theorem om(z:α)(l:Tr α)(x:α)(r:Tr α)(n:Nat):(Tr.nd l x r).get z n=if n=0 then x else if n % 2=1 then l.get z (n/2) else r.get z (n/2-1):=by
 simp only[Tr.get,VP];rfl
theorem Kf(l:Tr α)(x:α)(r:Tr α)(n:Nat)(v:α):(Tr.nd l x r).set n v=if n=0 then .nd l v r else if n % 2=1 then .nd (l.set (n/2) v) x r else .nd l x (r.set (n/2-1) v):=by
 simp only[Tr.set,VP];rfl
theorem At(z v:α):∀(t:Tr α)(i j:Nat),i≠j->(t.set i v).get z j=t.get z j
 |.lf,_,_,_=>rfl
 |.nd l x r,i,j,h=>by
  rw[Kf,om]
  by_cases hi:i=0
  ·have a:j≠0:=by omega
   rw[aD hi,om,aE a,aE a]
  ·rw[aE hi]
   by_cases u:i % 2=1
   ·rw[aD u,om]
    by_cases a:j=0
    ·rw[aD a,aD a]
    ·rw[aE a,aE a]
     by_cases e:j % 2=1
     ·rw[aD e,aD e,At z v l _ _ (by omega)]
     ·rw[aE e,aE e]
   ·rw[aE u,om]
    by_cases a:j=0
    ·rw[aD a,aD a]
    ·rw[aE a,aE a]
     by_cases e:j % 2=1
     ·rw[aD e,aD e]
     ·rw[aE e,aE e,At z v r _ _ (by omega)]
theorem CW(z v:α):∀(t:Tr α)(i:Nat),(t.set i v).get z i=v\/(t.set i v).get z i=z
 |.lf,_=>.inr rfl
 |.nd l x r,i=>by
  rw[Kf]
  by_cases hi:i=0
  ·rw[aD hi,om,aD hi];exact .inl rfl
  ·rw[aE hi]
   by_cases a:i % 2=1
   ·rw[aD a,om,aE hi,aD a];exact CW z v l _
   ·rw[aE a,om,aE hi,aE a];exact CW z v r _
theorem JP(z:α)(f:α->α)(hz:f z=z):∀(t:Tr α)(i:Nat),(t.map f).get z i=f (t.get z i)
 |.lf,_=>hz.symm
 |.nd l x r,i=>by
  simp only[Tr.map];rw[om,om];split
  ·rfl
  ·split
   ·exact JP z f hz l _
   ·exact JP z f hz r _
theorem AB(z:α):∀(n i:Nat),(Tr.full z n).get z i=z
 |0,_=>rfl
 |n+1,i=>by
  simp only[Tr.full];rw[om];split
  ·rfl
  ·split
   ·exact AB z n _
   ·exact AB z n _
end
section
variable(s:TS)
theorem uT{k j:Nat}(v:TV)(h:j≠k):(s.raw k v).slot j=s.slot j:=At _ _ _ _ _ (q7 h)
theorem AD(k:Nat)(v:TV):(s.raw k v).slot k=v\/(s.raw k v).slot k=.un:=CW _ _ _ _
theorem Wx(k j:Nat)(v:BC):(s.bx k v).slot j=s.slot j:=rfl
theorem yI{k j:Nat}(v:BC)(h:j≠k):(s.bx k v).box j=s.box j:=At _ _ _ _ _ (q7 h)
theorem yJ(k:Nat)(v:BC):(s.bx k v).box k=v\/(s.bx k v).box k=.none:=CW _ _ _ _
theorem tY(a:Pl->Bool)(k:Nat):(s.kill a).slot k=Ev.kill a (s.slot k):=JP _ _ rfl _ _
theorem acU(a:Pl->Bool)(k:Nat):(s.kill a).box k=s.box k:=rfl
theorem GF(d k:Nat):(s.fq d).slot k=Ev.fq d (Ev.kill (Pl.gK d) (s.slot k)):=JP _ (λv=>Ev.fq d (Ev.kill (Pl.gK d) v)) rfl _ _
theorem amo(d k:Nat):(s.fq d).box k=s.box k:=rfl
end
theorem alk{a:Pl->Bool}{tv:TV}(h:eE tv=true):kT a tv=tv:=by
 cases tv<;>simp_all [kT,eE,bC]
theorem amp{a:Pl->Bool}{e:TV}(h:lh e=true):lh (kT a e)=true:=by
 rcases aqW h with h|rfl|⟨p,t,rfl⟩
 ·rw[alk (by simp[eE,h])];simp[lh,eE,h]
 ·rfl
 ·simp only[kT];cases a p<;>rfl
theorem Rd.kT{c:Rc}{m:Option Gp}{e:TV}{v:Value}(h:Rd c m e v)(a:Pl->Bool):Rd c m (Ev.kT a e) v:=by
 cases e<;>first
  |exact h
  |(simp only[Ev.kT];rename_i p _;cases a p<;>first|exact h|exact .un _ _)
  |(simp only[Ev.kT];rename_i p _ _;cases a p<;>first|exact h|exact .un _ _)
  |(simp only[Ev.kT];rename_i p _ _ _;cases a p<;>first|exact h|exact .un _ _)
theorem Rd.kill{c:Rc}{m:Option Gp}{e:TV}{v:Value}(h:Rd c m e v)(y:Pl->Bool):Rd c m (Ev.kill y e) v:=by
 cases e with
 |agg D=>
  cases h with
  |agg _ _ vs E F H I=>
   refine .agg _ _ _ (λe C=>?_) (by simpa using F) (λj e v x A=>?_) (λj e v x A=>?_)
   ·simp only[gQ] at C;obtain⟨a,u,rfl⟩:=C;exact amp (E a u)
   all_goals
    rw[ir] at x;cases u:D[j]? with
    |none=>simp[u] at x
    |some a=>
     simp only[u,jA,aQ] at x;subst x
     first|exact H j a v u A|exact(I j a v u A).kT y
 |_=>exact h.kT y
theorem xc{u:Pl->Bool}{y:TV}{p:Pl}(h:MV p (Ev.kill u y)):MV p y/\u p=false:=by
 have one:∀{y:TV},(∀A,y≠.agg A)->MV p (kT u y)->MV p y/\u p=false:=by
  intro y D h
  cases y with
  |vw q t=>simp only[kT] at h;cases e:u q<;>simp[e] at h<;>cases h;exact⟨.vw _,e⟩
  |pa q t F=>simp only[kT] at h;cases e:u q<;>simp[e] at h<;>cases h;exact⟨.pa _ _,e⟩
  |sl q t lo hi=>simp only[kT] at h;cases e:u q<;>simp[e] at h<;>cases h;exact⟨.sl _ _ _,e⟩
  |ep q t r j=>simp only[kT] at h;cases e:u q<;>simp[e] at h<;>cases h;exact⟨.ep _ _ _,e⟩
  |agg A=>exact absurd rfl (D A)
  |_=>cases h
 cases y with
 |agg A=>
  simp only[Ev.kill] at h;cases h with
  |agg _ t C=>
   simp only[gQ] at C;obtain⟨a,E,x⟩:=C;cases a with
   |vw q H=>
    simp only[kT] at x;cases e:u q with
    |true=>simp[e] at x
    |false=>
     simp only[e,aH,TV.vw.injEq] at x;obtain⟨rfl,rfl⟩:=x;exact⟨.agg _ _ E,e⟩
   |pa q _ _=>simp only[kT] at x;cases e:u q<;>simp[e] at x
   |sl q _ _ _=>simp only[kT] at x;cases e:u q<;>simp[e] at x
   |ep q _ _ _=>simp only[kT] at x;cases e:u q<;>simp[e] at x
   |_=>simp[kT] at x
 |_=>exact one (by simp) h
theorem Vj{d:Nat}:∀{vs:List TV},pJ d vs=false->∀j,TV.ptr d j∉vs
 |[],_,j,h=>by simp at h
 |v::vs,h,j,a=>by
  simp only[pJ] at h;cases e:ptrTo d v with
  |true=>simp[e] at h
  |false=>
   simp only[e,aH] at h;rcases cO.1 a with rfl|a
   ·simp[ptrTo] at e
   ·exact Vj h j a
theorem Rd.fq{c:Rc}{m:Option Gp}{a:TV}{v:Value}(h:Rd c m a v)(d:Nat):Rd c m (Ev.fq d a) v:=by
 cases a<;>first
  |exact h
  |(simp only[Ev.fq];rename_i k _;cases Nat.beq k d<;>first|exact h|exact .un _ _)
  |(simp only[Ev.fq];rename_i _ vs;cases pJ d vs<;>first|exact h|exact .un _ _)
theorem acV{d:Nat}{u:TV}{k:Nat}(h:MB k (Ev.fq d u)):MB k u/\k≠d:=by
 cases u with
 |ptr q t=>simp only[Ev.fq] at h;cases a:Nat.beq q d<;>simp[a] at h<;>cases h;exact⟨.ptr _,λe=>by subst e;simp at a⟩
 |pe q t=>simp only[Ev.fq] at h;cases a:Nat.beq q d<;>simp[a] at h<;>cases h;exact⟨.pe _,λe=>by subst e;simp at a⟩
 |fn g vs=>
  simp only[Ev.fq] at h;cases a:pJ d vs<;>simp[a] at h<;>cases h;rename_i j x;exact⟨.fn _ _ _ x,λe=>by subst e;exact Vj a j x⟩
 |_=>simp only[Ev.fq] at h;cases h
theorem acW{d:Nat}{tv:TV}{p:Pl}(h:MV p (Ev.fq d tv)):MV p tv:=by
 cases tv with
 |ptr q t=>simp only[Ev.fq] at h;cases a:Nat.beq q d<;>simp[a] at h<;>cases h
 |pe q t=>simp only[Ev.fq] at h;cases a:Nat.beq q d<;>simp[a] at h<;>cases h
 |fn g vs=>simp only[Ev.fq] at h;cases a:pJ d vs<;>simp[a] at h<;>cases h
 |_=>exact h
def va(vs:Nat->Bool)(tm:Nat->Value)(bx:Nat->Nat)(w:World):Pl->Option Value
 |.slot k=>if vs k=true then some (tm k) else none
 |.cell k c=>cellAt w (bx k) c
 |.sub p t r c=>
  match va vs tm bx w p with
  |some (.slice (some ⟨b,o,none⟩) len _)=>if 0<=r/\r<(len:Int)/\c<aA t then cellAt w b (o+r.toNat*aA t+c) else none
  |_=>none
structure Gs where
 γ:Nat->G
 bx:Nat->Nat
 tm:Nat->Value
def Gs.rc(C:Cx)(g:Gs)(w:World):Rc:=⟨w,g.γ,g.bx,va C.vs g.tm g.bx w⟩
def j1(a:TV):Bool:=eE a||(match a with|.gJ _ _ _ _=>true|_=>false)
theorem uX{tv:TV}(h:j1 tv=true)(p:Pl):¬ MV p tv:=by
 intro k;cases k<;>simp[j1,eE,bC] at h
theorem Kg{tv:TV}(h:j1 tv=true)(p:Nat):¬ MB p tv:=by
 intro k;cases k<;>simp[j1,eE,bC] at h
def X3(c:Rc)(k:Nat)(u:List TV):Prop:=∃vs e fr,c.w.heap[c.bx k]?=some (.cells vs e fr)/\zp vs.size fr/\c.γ (c.bx k)=.at (.box k) []/\vs.size=u.length/\(∀a∈u,j1 a=true)/\∀(j:Nat)a v,u[j]?=some a->vs[j]?=some v->v.oneCell'=true/\Rd c (some (.box k,[(0,j)])) a v
def asz(c:Rc)(k:Nat)(t:Ty)(a:List (El t)):Prop:=∃vs e fr,c.w.heap[c.bx k]?=some (.cells vs e fr)/\zp vs.size fr/\c.γ (c.bx k)=.at (.box k) []/\fP t=false/\vs.toList=a.map (ka t)
def xu(γ:Nat->G)(w:World)(q:Rt)(x:aj)(v:Value):Prop:=x.length<=140737488355328->(v=.slice none 0 0/\x=[])\/∃g cap a,v=.slice (some ⟨g,0,none⟩) x.length cap/\γ g=.at q [(0,1),tg (.int .u8)]/\w.heap[g]?=some (.cells a 5 (0,0))/\x.length<=cap/\0<cap/\cap<=maxLen/\a.size=cap/\a.toList.take x.length=x.map λc=>Value.int .u8 c.toNat
theorem xu.move{γ a:Nat->G}{w j:World}{q u:Rt}{x:aj}{v:Value}(h:xu γ w q x v)(y:∀g,γ g=.at q [(0,1),tg (.int .u8)]->a g=.at u [(0,1),tg (.int .u8)]/\j.heap[g]?=w.heap[g]?):xu a j u x v:=λC=>by
 rcases h C with h|⟨g,cap,e,D,A,E,F⟩
 ·exact .inl h
 ·exact .inr ⟨g,cap,e,D,(y g A).1,(y g A).2.trans E,F⟩
abbrev LY:TypeId:=181
def asA(c:Rc)(k:Nat)(x:aj):Prop:=∃p v,c.w.heap[c.bx k]?=some (.cells #[p,v] LY (0,0))/\c.γ (c.bx k)=.at (.box k) []/\(p=.pointer none\/p=.pointer (some ⟨c.bx k,0,none⟩))/\xu c.γ c.w (.box k) x v
def xI(c:Rc)(k:Nat):BC->Prop|.none=>True|.cells a=>X3 c k a|.vec t e=>asz c k t e|.iG x=>asA c k x
structure Env where
 n0:Nat
 Td:Nat->G
 w0:World
structure B5(E:Env)(γ:Nat->G)(w:World):Prop where
 tape:w.tape=E.w0.tape
 os:w.os=E.w0.os
 output:w.output=E.w0.output
 size:E.n0<=w.heap.size
 fr:∀b,b<E.n0->E.Td b=.fr->γ b=.fr/\w.heap[b]?=E.w0.heap[b]?
 im:∀b,b<E.n0->E.Td b=.im->γ b=.im/\w.heap[b]?=E.w0.heap[b]?
 new:∀b,w.heap.size<=b->γ b=.fr
structure Rel(C:Cx)(E:Env)(s:TS)(g:Gs)(w:World):Prop where
 eK:∀k,Rd (g.rc C w) (some (.slot k,[])) (s.slot k) (g.tm k)
 boxes:∀k,xI (g.rc C w) k (s.box k)
 aC:B5 E g.γ w
 gl:∀i,Rd (g.rc C w) none (C.gl i) (.pointer (some ⟨i,0,none⟩))
 l9:∀i,(∀p,¬ MV p (C.gl i))/\∀k,¬ MB k (C.gl i)
 gb:∀i o,C.gb i=some o->g.γ i=.im/\w.heap[i]?=some o
structure bw(X:Rt->aZ->Prop)(γ:Nat->G)(w:World)(γ':Nat->G)(w':World):Prop where
 im:∀b,γ b=.im->γ' b=.im/\w'.heap[b]?=w.heap[b]?
 at':∀b q p,γ b=.at q p->¬ X q p->γ' b=.at q p/\w'.heap[b]?=w.heap[b]?
 fr:∀b,b<w.heap.size->γ b=.fr->γ' b=.fr/\w'.heap[b]?=w.heap[b]?
 size:w.heap.size<=w'.heap.size
 new:∀b,w'.heap.size<=b->γ' b=.fr
 tape:w'.tape=w.tape
 os:w'.os=w.os
 output:w'.output=w.output
theorem B5.next{E:Env}{X:Rt->aZ->Prop}{γ e:Nat->G}{w j:World}(h:B5 E γ w)(k:bw X γ w e j):B5 E e j where
 tape:=k.tape.trans h.tape
 os:=k.os.trans h.os
 output:=k.output.trans h.output
 size:=Fh h.size k.size
 fr:=λb a h0=>⟨(k.fr b (Uq a h.size) (h.fr b a h0).1).1,(k.fr b (Uq a h.size) (h.fr b a h0).1).2.trans (h.fr b a h0).2⟩
 im:=λb a h0=>⟨(k.im b (h.im b a h0).1).1,(k.im b (h.im b a h0).1).2.trans (h.im b a h0).2⟩
 new:=k.new
theorem bw.trans{X Y:Rt->aZ->Prop}{γ j D:Nat->G}{w E u:World}(h:bw X γ w j E)(k:bw Y j E D u):bw (λq p=>X q p\/Y q p) γ w D u where
 im:=λb a=>⟨(k.im b (h.im b a).1).1,(k.im b (h.im b a).1).2.trans (h.im b a).2⟩
 at':=λb q p a hx=>by
  obtain⟨x,y⟩:=h.at' b q p a (λe=>hx (.inl e));obtain⟨A,C⟩:=k.at' b q p x (λe=>hx (.inr e));exact⟨A,C.trans y⟩
 fr:=λb a h0=>by
  obtain⟨x,y⟩:=h.fr b a h0;obtain⟨A,C⟩:=k.fr b (Uq a h.size) x;exact⟨A,C.trans y⟩
 size:=Fh h.size k.size
 new:=k.new
 tape:=k.tape.trans h.tape
 os:=k.os.trans h.os
 output:=k.output.trans h.output
theorem bw.mono{X Y:Rt->aZ->Prop}{γ a:Nat->G}{w w':World}(h:bw X γ w a w')(j:∀q p,X q p->Y q p):bw Y γ w a w':={h with at':=λb q p u hx=>h.at' b q p u (λe=>hx (j _ _ e))}
theorem bw.refl{γ:Nat->G}{w:World}(X:Rt->aZ->Prop)(a:∀b,w.heap.size<=b->γ b=.fr):bw X γ w γ w:=⟨λ_ h=>⟨h,rfl⟩,λ_ _ _ h _=>⟨h,rfl⟩,λ_ _ h=>⟨h,rfl⟩,iI _,a,rfl,rfl,rfl⟩
structure Kept(C:Cx)(X:Rt->aZ->Prop)(g:Gs)(w:World)(g':Gs)(w':World)(tv:TV):Prop where
 bx:∀k,MB k tv->g'.bx k=g.bx k
 va:∀p,MV p tv->(g'.rc C w').va p=(g.rc C w).va p/\(VO (g.rc C w) p->VO (g'.rc C w') p)
 pa:∀p,MP p tv->∀π,¬ X (gp p).1 ((gp p).2++π)
theorem Rel.pf{C:Cx}{E:Env}{s s':TS}{g g':Gs}{w F:World}{X:Rt->aZ->Prop}(h:Rel C E s g w)(y:bw X g.γ w g'.γ F)
  (Y:∀k,Rd (g'.rc C F) (some (.slot k,[])) (s'.slot k) (g'.tm k)\/(s'.slot k=s.slot k/\g'.tm k=g.tm k/\(∀p,¬ X (.slot k) p)/\Kept C X g w g' F (s.slot k)))
  (kI:∀k,xI (g'.rc C F) k (s'.box k)\/(s'.box k=s.box k/\g'.bx k=g.bx k/\∀p,¬ X (.box k) p)):Rel C E s' g' F where
 eK:=λk=>by
  rcases Y k with H|⟨H,D,I,Z⟩
  ·exact H
  ·rw[H,D];exact(h.eK k).same (λb a=>y.im b a) (λq p J b π a=>by
    simp only[aQ,cZ] at J
    obtain⟨rfl,rfl⟩:=J
    exact y.at' b _ _ a (I _)) Z.bx Z.va (λp A b π a=>y.at' b _ _ a (Z.pa p A π))
 boxes:=λk=>by
  rcases kI k with H|⟨H,D,I⟩
  ·exact H
  ·rw[H];have a:=h.boxes k;cases hc:s.box k with
   |none=>trivial
   |cells cs=>
    rw[hc] at a;obtain⟨vs,e,fr,M,hu,N,hl,S,U⟩:=a;obtain⟨u,P⟩:=y.at' _ _ _ N (I _);refine⟨vs,e,fr,?_,hu,?_,hl,S,λj Q v R hv=>⟨(U j Q v R hv).1,(U j Q v R hv).2.same (λb a=>y.im b a) (λq p J b π a=>?_) (λi hi=>absurd hi (Kg (S Q (dH R)) i)) (λp A=>absurd A (uX (S Q (dH R)) p)) (λp A=>absurd A.mv (uX (S Q (dH R)) p))⟩⟩
    ·show F.heap[g'.bx k]?=_;rw[D];exact P.trans M
    ·show g'.γ (g'.bx k)=_;rw[D];exact u
    ·simp only[aQ,cZ] at J;obtain⟨rfl,rfl⟩:=J;exact y.at' b _ _ a (I _)
   |vec t xs=>
    rw[hc] at a;obtain⟨vs,e,fr,M,hu,N,hl⟩:=a;obtain⟨u,P⟩:=y.at' _ _ _ N (I _);exact⟨vs,e,fr,by show F.heap[g'.bx k]?=_;rw[D];exact P.trans M,hu,by show g'.γ (g'.bx k)=_;rw[D];exact u,hl⟩
   |iG x=>
    rw[hc] at a;obtain⟨p,v,M,N,A,U⟩:=a;obtain⟨u,P⟩:=y.at' _ _ _ N (I _);refine⟨p,v,by show F.heap[g'.bx k]?=_;rw[D];exact P.trans M,by show g'.γ (g'.bx k)=_;rw[D];exact u,by show p=_\/p=.pointer (some ⟨g'.bx k,0,none⟩);rw[D];exact A,?_⟩;exact U.move λg' u=>y.at' g' _ _ u (I _)
 aC:=h.aC.next y
 gl:=λi=>(h.gl i).same (λb a=>y.im b a) (λq p J=>by simp at J) (λk hk=>absurd hk ((h.l9 i).2 k)) (λp A=>absurd A ((h.l9 i).1 p)) (λp A=>absurd A.mv ((h.l9 i).1 p))
 l9:=h.l9
 gb i o hi:=⟨(y.im i (h.gb i o hi).1).1,(y.im i (h.gb i o hi).1).2.trans (h.gb i o hi).2⟩
def xJ:Pl->List Pl|.slot _=>[]|.cell _ _=>[]|.sub p _ _ _=>p::xJ p
def qv:Pl->Option Nat|.slot k=>some k|.cell _ _=>none|.sub p _ _ _=>qv p
def HT:Pl->Option Nat|.slot _=>none|.cell k _=>some k|.sub p _ _ _=>HT p
theorem oU{C:Cx}{X:Rt->aZ->Prop}{g g':Gs}{w j:World}(x:bw X g.γ w g'.γ j):∀(p:Pl),VO (g.rc C w) p->
  (∀q∈xJ p,∀b t,g.γ b=.at (gp q).1 ((gp q).2++[tg t])->(g'.γ b=.im\/g'.γ b=.at (gp q).1 ((gp q).2++[tg t]))/\j.heap[b]?=w.heap[b]?)->
  (∀k,qv p=some k->C.vs k=true->g'.tm k=g.tm k)->(∀k,HT p=some k->g'.bx k=g.bx k/\¬ X (.box k) [])->
  (g'.rc C j).va p=(g.rc C w).va p/\VO (g'.rc C j) p
 |.slot k,_,_,y,_=>by
  refine⟨?_,trivial⟩;simp only[Gs.rc,va]
  by_cases u:C.vs k=true
  ·rw[aD u,aD u,y k rfl u]
  ·rw[aE u,aE u]
 |.cell k c,e,_,_,A=>by
  obtain⟨a,hx⟩:=A k rfl;simp only[VO,Gs.rc] at e;obtain⟨D,J⟩:=x.at' _ _ _ e hx;refine⟨?_,?_⟩
  ·simp only[Gs.rc,va];rw[a];exact mN J
  ·simp only[VO,Gs.rc];rw[a];exact D
 |.sub p t r c,e,I,y,A=>by
  obtain⟨e,D⟩:=e;obtain⟨E,F⟩:=oU x p e (λq M=>I q (by simp[xJ,M])) y A;have H:∀b o len cap,(g.rc C w).va p=some (.slice (some ⟨b,o,none⟩) len cap)->(g'.γ b=.im\/g'.γ b=.at (gp p).1 ((gp p).2++[tg t]))/\j.heap[b]?=w.heap[b]?:=λb o len cap a=>by
   rcases D b o len cap a with h|h
   ·exact⟨.inl (x.im b h).1,(x.im b h).2⟩
   ·exact I p (by simp[xJ]) b t h
  refine⟨?_,F,λb o len cap a=>(H b o len cap (E ▸a)).1⟩;simp only[Gs.rc] at E H⊢;simp only[va,E];split
  ·rename_i b o len cap a;split
   ·exact mN (H b o len cap a).2
   ·rfl
  ·rfl
theorem qj{X:Rt->aZ->Prop}{γ a:Nat->G}{w e:World}(j:bw X γ w a e){p:Pl}(h:∀q∈xJ p,∀t:Ty,X (gp q).1 ((gp q).2++[tg t])->False):∀q∈xJ p,∀b t,γ b=.at (gp q).1 ((gp q).2++[tg t])->(a b=.im\/a b=.at (gp q).1 ((gp q).2++[tg t]))/\e.heap[b]?=w.heap[b]?:=λq u b t x=>⟨.inr (j.at' b _ _ x (λhx=>h q u t hx)).1,(j.at' b _ _ x (λhx=>h q u t hx)).2⟩
theorem A3:∀{p:Pl}{k:Nat},qv p=some k↔(gp p).1=.slot k
 |.slot k,j=>by simp[qv,gp]
 |.cell _ _,j=>by simp[qv,gp]
 |.sub p _ _ _,j=>by simpa[qv,gp] using A3 (p:=p)
theorem DE:∀{p:Pl}{k:Nat},HT p=some k↔(gp p).1=.box k
 |.slot k,j=>by simp[HT,gp]
 |.cell _ _,j=>by simp[HT,gp]
 |.sub p _ _ _,j=>by simpa[HT,gp] using DE (p:=p)
theorem sF:∀{p q:Pl},q∈xJ p->(gp q).1=(gp p).1/\p.jP=true
 |.slot _,_,h=>by simp[xJ] at h
 |.cell _ _,_,h=>by simp[xJ] at h
 |.sub p _ _ _,q,h=>by
  simp only[xJ,cO] at h;refine⟨?_,rfl⟩;rcases h with rfl|h
  ·rfl
  ·exact(sF h).1
theorem Bd:∀{p:Pl}{k:Nat},p.nc k=true↔(gp p).1=.slot k
 |.slot k,j=>by simp only[Pl.nc,gp,Nat.beq_eq,Rt.slot.injEq];exact⟨λh=>h.symm,λh=>h.symm⟩
 |.cell _ _,j=>by simp[Pl.nc,gp]
 |.sub p _ _ _,j=>by simpa[Pl.nc,gp] using Bd (p:=p)
theorem yR:∀{p:Pl}{k:Nat},p.gK k=true↔(gp p).1=.box k
 |.slot k,j=>by simp[Pl.gK,gp]
 |.cell k _,j=>by simp only[Pl.gK,gp,Nat.beq_eq,Rt.box.injEq];exact⟨λh=>h.symm,λh=>h.symm⟩
 |.sub p _ _ _,j=>by simpa[Pl.gK,gp] using yR (p:=p)
theorem apq{p:Pl}{k:Nat}:p.pW k=true↔(gp p).1=.slot k/\p.jP=true:=by
 cases p with
 |sub p t r c=>simp only[Pl.pW,Bd,gp,Pl.jP,jI]
 |_=>simp[Pl.pW,Pl.jP]
theorem apr{p:Pl}{k:Nat}:p.pX k=true↔(gp p).1=.box k/\p.jP=true:=by
 cases p with
 |sub p t r c=>simp only[Pl.pX,yR,gp,Pl.jP,jI]
 |_=>simp[Pl.pX,Pl.jP]
theorem Rel.xK{C:Cx}{E:Env}{s a:TS}{g:Gs}{w:World}(h:Rel C E s g w)(j:∀k,Rd (g.rc C w) (some (.slot k,[])) (a.slot k) (g.tm k))(u:∀k,a.box k=s.box k\/a.box k=.none):Rel C E a g w:=⟨j,λk=>by rcases u k with e|e<;>rw[e];exact h.boxes k;trivial,h.aC,h.gl,h.l9,h.gb⟩
theorem Rel.kill{C:Cx}{E:Env}{s:TS}{g:Gs}{w:World}(h:Rel C E s g w)(a:Pl->Bool):Rel C E (s.kill a) g w:=h.xK (λk=>by rw[tY];exact(h.eK k).kill a) (λk=>.inl (acU s a k))
theorem Rel.fq{C:Cx}{E:Env}{s:TS}{g:Gs}{w:World}(h:Rel C E s g w)(d:Nat):Rel C E (s.fq d) g w:=h.xK (λk=>by rw[GF];exact((h.eK k).kill _).fq d) (λk=>.inl (amo s d k))
end
section
section
theorem yY:∀(l:List TV)(n:Nat),nth l n=l[n]?.getD .un
 |[],_=>by simp[nth]
 |_::_,0=>rfl
 |_::r,n+1=>by simp[nth,yY r n]
theorem vc:∀(l:List TV)(n:Nat)(x:TV),lY l n x=l.set n x
 |[],_,_=>rfl
 |_::_,0,_=>rfl
 |v::r,n+1,x=>by simp[lY,vc r n x]
theorem DF:∀(n:Nat)(l:List TV),takeN n l=l.take n
 |0,_=>by simp[takeN]
 |n+1,[]=>rfl
 |n+1,v::r=>by simp[takeN,DF n r]
theorem DG:∀(n:Nat)(l:List TV),zb n l=l.drop n
 |0,_=>rfl
 |n+1,[]=>rfl
 |n+1,v::r=>by simp[zb,DG n r]
theorem aee:∀(l m:List TV),H4 l m=l++m
 |[],_=>rfl
 |v::r,m=>by simp[H4,aee r m]
theorem Be:∀(l:List TV),sW l=l.length
 |[]=>rfl
 |_::r=>by simp[sW,Be r]
theorem Hs(a vs:List TV)(c:Nat):rL a c vs=a.take c++vs++a.drop (c+vs.length):=by
 simp only[rL,aee,DF,DG,Be,kD];rfl
theorem yM{c n:Nat}{cs:List TV}:room c n cs=true↔c+n<=cs.length:=by
 simp only[room,Be,Nat.ble_eq];rfl
variable{α R:Type}{r:R}
theorem dw{o:Option α}{f:α->Option R}:ae o f=some r↔∃x,o=some x/\f x=some r:=Fi
theorem bQ{c:Bool}{x:Option R}:(bif c then x else none)=some r↔c=true/\x=some r:=by cases c<;>simp
theorem G5{b:Bool}{x y:Option R}:xQ b x y=some r↔(b=true/\x=some r)\/(b=false/\y=some r):=by cases b<;>simp[xQ]
theorem mO{a:List α}{n:Int}{x:α}:af a n=some x↔0<=n/\a[n.toNat]?=some x:=by
 unfold af
 by_cases h:0<=n
 ·rw[aD h];exact⟨λe=>⟨h,e⟩,λe=>e.2⟩
 ·rw[aE h];exact⟨λe=>by simp at e,λe=>absurd e.1 h⟩
theorem nG{b:Bool}{u:Unit}:bR b=some u↔b=true:=by cases b<;>simp[bR]
theorem wW{a u:List α}{l h:Int}:dF a l h=some u↔(0<=l/\l<=h/\h<=a.length)/\u=(a.drop l.toNat).take (h.toNat-l.toNat):=by
 unfold dF
 by_cases j:0<=l/\l<=h/\h<=a.length
 ·rw[aD j];exact⟨λe=>⟨j,(gB e).symm⟩,λe=>by rw[e.2]⟩
 ·rw[aE j];exact⟨λe=>by simp at e,λe=>absurd e.1 j⟩
end
theorem aef{C:Cx}{E:Env}{s:TS}{g:Gs}{w:World}{R:Type}{r:R}(h:Rel C E s g w):∀(p:Pl)(K:TV->Option R),ko C s p K=some r->
  ∃H,K H=some r/\(H=.un\/∃v,(g.rc C w).va p=some v/\Rd (g.rc C w) (some (gp p)) H v/\VO (g.rc C w) p)
 |.slot k,K,j=>by
  simp only[ko,bQ] at j;refine⟨_,j.2,.inr ⟨g.tm k,?_,h.eK k,trivial⟩⟩;simp only[Gs.rc,va];rw[aD j.1]
 |.cell k c,K,j=>by
  simp only[ko] at j;split at j
  ·rename_i Q y;refine⟨_,j,?_⟩;rw[yY];have kI:=h.boxes k;rw[y] at kI;obtain⟨vs,e,fr,hh,hu,M,hl,hT,N⟩:=kI
   by_cases I:c<Q.length
   ·right
    have a:c<vs.size:=by omega
    obtain⟨_,U⟩:=N c Q[c] vs[c] (cT I) (jX a);refine⟨vs[c],?_,by rw[cT I];exact U,M⟩;have cQ:w.heap[g.bx k]?=some (.cells vs e fr):=hh;simp[Gs.rc,va,cellAt,World.cell?,cQ,a]
   ·left;simp[pz (by omega:Q.length<=c)]
  ·simp at j
 |.sub p t i c,K,j=>by
  simp only[ko] at j;obtain⟨H,j,J⟩:=aef h p _ j;have Y:∀(d:Bool)(u:Ty)(xs:List (El u))(x:El u),H=(if d then .own true u xs else H)->u=t->True:=λ_ _ _ _ _ _=>trivial;clear Y;split at j
  ·rename_i d u xs;obtain⟨A,Z⟩:=bQ.1 j;obtain⟨x,hx,lG⟩:=dw.1 Z;obtain⟨h0,hx⟩:=mO.1 hx;have A:u=t:=ef A;subst A;refine⟨_,lG,?_⟩;rw[yY];rcases J with J|⟨v,D,N,cI⟩
   ·simp at J
   rcases N.mR with⟨rfl,_⟩|⟨q,π,b,o,cap,Q,e,fr,f,hm,rfl,hl,M,hh,hu,hs,I,pZ⟩
   ·simp at hx
   ·simp only[aQ] at hm
    by_cases a:c<aA u
    ·right
     have F:(enc d u x)[c]?=some ((enc d u x)[c]'(by rw[ic];exact a)):=cT _;obtain⟨h1,U⟩:=I i.toNat x c _ hx F;have S:=pZ i.toNat x c _ hx F;refine⟨f i.toNat c,?_,?_,cI,λb' o' len P y=>?_⟩
     ·have aa:i.toNat<xs.length:=(da.1 hx).1;simp only[Gs.rc] at D⊢;simp only[va,D];rw[aD ⟨h0,by omega,a⟩];exact h1
     ·rw[F];have hi:((i.toNat:Nat):Int)=i:=by omega
      rw[hi] at S;simp only[gp,hm];exact S
     ·have:(g.rc C w).va p=_:=D;rw[this] at y;simp only[aQ,Value.slice.injEq,Addr.mk.injEq,jI] at y;obtain⟨⟨rfl,_⟩,_⟩:=y;exact .inr (by rw[hm];exact M)
    ·left;rw[pz (by rw[ic];omega)];rfl
  ·rename_i u xs;obtain⟨A,Z⟩:=bQ.1 j;obtain⟨x,hx,lG⟩:=dw.1 Z;obtain⟨h0,hx⟩:=mO.1 hx;have A:u=t:=ef A;subst A;refine⟨_,lG,?_⟩;rw[yY];rcases J with J|⟨v,D,N,cI⟩
   ·simp at J
   rcases N.ub with⟨rfl,_⟩|⟨b,o,cap,f,rfl,hl,M,I,pZ⟩
   ·simp at hx
   ·by_cases a:c<aA u
    ·right
     have F:(enc false u x)[c]?=some ((enc false u x)[c]'(by rw[ic];exact a)):=cT _;obtain⟨h1,U⟩:=I i.toNat x c _ hx F;have S:=pZ i.toNat x c _ hx F;refine⟨f i.toNat c,?_,?_,cI,λb' o' len P y=>?_⟩
     ·have aa:i.toNat<xs.length:=(da.1 hx).1;simp only[Gs.rc] at D⊢;simp only[va,D];rw[aD ⟨h0,by omega,a⟩];exact h1
     ·rw[F];exact S.lift _
     ·have:(g.rc C w).va p=_:=D;rw[this] at y;simp only[aQ,Value.slice.injEq,Addr.mk.injEq,jI] at y;obtain⟨⟨rfl,_⟩,_⟩:=y;exact .inl M
    ·left;rw[pz (by rw[ic];omega)];rfl
  ·simp at j
def fo(C:Cx)(s:TS):Pl->Option TV
 |.slot k=>if C.vs k=true then some (s.slot k) else none
 |.cell k c=>
  match s.box k with
  |.cells j=>some (nth j c)
  |_=>none
 |.sub p t i c=>
  match fo C s p with
  |some (.own d a e)=>if a=t then(af e i).map λx=>nth (enc d a x) c else none
  |some (.bJ a e)=>if a=t then(af e i).map λx=>nth (enc false a x) c else none
  |_=>none
theorem yS{C:Cx}{s:TS}{R:Type}:∀(p:Pl)(K:TV->Option R),ko C s p K=(fo C s p).bind K
 |.slot k,K=>by simp only[ko,fo];cases C.vs k<;>rfl
 |.cell k c,K=>by simp only[ko,fo];cases s.box k<;>rfl
 |.sub p t i c,K=>by
  simp only[ko,fo];rw[yS p];cases fo C s p with
  |none=>rfl
  |some u=>
   cases u with
   |own d e j=>
    by_cases a:e=t
    ·subst a;simp only[sx,fc,aF,fM];unfold ae;cases af j i<;>rfl
    ·simp only[sx,aE a,gu a,aH];rfl
   |bJ e j=>
    by_cases a:e=t
    ·subst a;simp only[sx,fc,aF,fM];unfold ae;cases af j i<;>rfl
    ·simp only[sx,aE a,gu a,aH];rfl
   |_=>rfl
theorem ry{C:Cx}{s:TS}{R:Type}{r:R}{p:Pl}{K:TV->Option R}(h:ko C s p K=some r):∃a,fo C s p=some a/\K a=some r:=by
 rw[yS] at h;exact Fi.1 h
theorem xd{C:Cx}{E:Env}{s:TS}{g:Gs}{w:World}(h:Rel C E s g w){p:Pl}{a:TV}(j:fo C s p=some a):a=.un\/∃v,(g.rc C w).va p=some v/\Rd (g.rc C w) (some (gp p)) a v/\VO (g.rc C w) p:=by
 obtain⟨x,e,u⟩:=aef (r:=a) h p some (by rw[yS,j];rfl);simp only[aQ] at e;subst e;exact u
def cW(q1:Rt)(p1:aZ)(q:Rt)(p:aZ):Prop:=q=q1/\p1<+:p
def bV(γ:Nat->G)(q1:Rt)(p1:aZ)(q2:Rt)(p2:aZ):Nat->G:=λb=>
 match γ b with
 |.at q p=>if q=q1/\p1<+:p then .at q2 (p2++p.drop p1.length) else .at q p
 |x=>x
def mC(γ:Nat->G)(q1:Rt)(p1:aZ):Nat->G:=λb=>
 match γ b with
 |.at q p=>if q=q1/\p1<+:p then .im else .at q p
 |x=>x
section
variable{γ:Nat->G}{q1 q2 q:Rt}{p1 p2 p π:aZ}{b:Nat}
theorem DH(h:γ b=.at q1 (p1++π)):bV γ q1 p1 q2 p2 b=.at q2 (p2++π):=by simp[bV,h]
theorem AS(h:γ b=.at q p)(a:¬ cW q1 p1 q p):bV γ q1 p1 q2 p2 b=.at q p:=by
 simp only[bV,h];exact aE a
theorem ua(h:γ b=.im):bV γ q1 p1 q2 p2 b=.im:=by simp[bV,h]
theorem KH(h:γ b=.fr):bV γ q1 p1 q2 p2 b=.fr:=by simp[bV,h]
theorem QR(h:γ b=.at q1 (p1++π)):mC γ q1 p1 b=.im:=by simp[mC,h]
theorem acX(h:γ b=.at q p)(a:¬ cW q1 p1 q p):mC γ q1 p1 b=.at q p:=by
 simp only[mC,h];exact aE a
theorem Ht(h:γ b=.im):mC γ q1 p1 b=.im:=by simp[mC,h]
theorem Wy(h:γ b=.fr):mC γ q1 p1 b=.fr:=by simp[mC,h]
theorem aps(h:γ b=.at q p):mC γ q1 p1 b=.im\/mC γ q1 p1 b=.at q p:=by
 simp only[mC,h];split<;>simp
theorem ri{w:World}(a:∀b,w.heap.size<=b->γ b=.fr):bw (cW q1 p1) γ w (bV γ q1 p1 q2 p2) w:=⟨λ_ h=>⟨ua h,rfl⟩,λ_ _ _ h hx=>⟨AS h hx,rfl⟩,λ_ _ h=>⟨KH h,rfl⟩,iI _,λb e=>KH (a b e),rfl,rfl,rfl⟩
theorem aeg{w:World}(a:∀b,w.heap.size<=b->γ b=.fr):bw (cW q1 p1) γ w (mC γ q1 p1) w:=⟨λ_ h=>⟨Ht h,rfl⟩,λ_ _ _ h hx=>⟨acX h hx,rfl⟩,λ_ _ h=>⟨Wy h,rfl⟩,iI _,λb e=>Wy (a b e),rfl,rfl,rfl⟩
end
theorem Rd.RB{c:Rc}{m:Option Gp}{a:TV}{v:Value}(h:Rd c m a v){p:Pl}(e:MP p a):p.jP=true:=by
 cases e;cases h;assumption
theorem abt{C:Cx}{E:Env}{s:TS}{g:Gs}{w:World}{k:Nat}{a:aZ}{γ':Nat->G}(h:Rel C E s g w)(x:bw (cW (.slot k) a) g.γ w γ' w)(y:∀j p,MV p (s.slot j)->(gp p).1=.slot k->p.jP=true->False)
  (j:Nat):Kept C (cW (.slot k) a) g w {g with γ:=γ'} w (s.slot j) where
 bx:=λ_ _=>rfl
 va:=λp e=>by
  have:=λu=>oU (C:=C) (g:=g) (g':={g with γ:=γ'}) x p u (qj x λq A _ hx=>y j p e ((sF A).1 ▸hx.1) (sF A).2) (λ_ _ _=>rfl) (λi _=>⟨rfl,λhx=>by simp[cW] at hx⟩);exact⟨rfl,λu=>(this u).2⟩
 pa:=λp e π hx=>y j p e.mv hx.1 ((h.eK j).RB e)
theorem amq{C:Cx}{E:Env}{s:TS}{g:Gs}{w:World}{k c:Nat}{e:aZ}{a:Nat->G}(h:Rel C E s g w)(y:bw (cW (.box k) ((0,c)::e)) g.γ w a w)(A:∀j p,MV p (s.slot j)->(gp p).1=.box k->p.jP=true->False)
  (j:Nat):Kept C (cW (.box k) ((0,c)::e)) g w {g with γ:=a} w (s.slot j) where
 bx:=λ_ _=>rfl
 va:=λp u=>by
  have:=λx=>oU (C:=C) (g:=g) (g':={g with γ:=a}) y p x (qj y λq D _ hx=>A j p u ((sF D).1 ▸hx.1) (sF D).2) (λ_ _ _=>rfl) (λi _=>⟨rfl,λhx=>by simp[cW] at hx⟩);exact⟨rfl,λx=>(this x).2⟩
 pa:=λp u π hx=>A j p u.mv hx.1 ((h.eK j).RB u)
theorem O0{s:TS}{k:Nat}:∀j p,MV p ((s.kill (Pl.pW k)).slot j)->(gp p).1=.slot k->p.jP=true->False:=λj p a e u=>by
 rw[tY] at a;have:=(xc a).2;rw[apq.2 ⟨e,u⟩] at this;simp at this
theorem O1{s:TS}{k:Nat}:∀j p,MV p ((s.kill (Pl.pX k)).slot j)->(gp p).1=.box k->p.jP=true->False:=λj p a e u=>by
 rw[tY] at a;have:=(xc a).2;rw[apr.2 ⟨e,u⟩] at this;simp at this
theorem Rel.R6{C:Cx}{E:Env}{s:TS}{g:Gs}{w:World}{k:Nat}{x:aZ}{a:Nat->G}{u:TV}(h:Rel C E s g w)(A:bw (cW (.slot k) x) g.γ w a w)(D:∀j p,MV p (s.slot j)->(gp p).1=.slot k->p.jP=true->False)
  (F:Rd (Gs.rc C {g with γ:=a} w) (some (.slot k,[])) u (g.tm k)):Rel C E (s.raw k u) {g with γ:=a} w:=by
 refine h.pf A (λj=>?_) (λj=>.inr ⟨rfl,rfl,λp hx=>by simp[cW] at hx⟩)
 by_cases y:j=k
 ·subst y
  left
  rcases AD s j u with e|e<;>rw[e]
  ·exact F
  ·exact .un _ _
 ·exact .inr ⟨uT s u y,rfl,λp hx=>y (by simpa[cW] using hx.1),abt h A D j⟩
theorem Vk{C:Cx}{g:Gs}{w:World}{γ':Nat->G}{k c:Nat}{M:List TV}{π0:aZ}{A:TV}(u:X3 (g.rc C w) k M)(D:bw (cW (.box k) ((0,c)::π0)) g.γ w γ' w)(U:j1 A=true)
  (Y:∀v,cellAt w (g.bx k) c=some v->Rd (Gs.rc C {g with γ:=γ'} w) (some (.box k,[(0,c)])) A v):X3 (Gs.rc C {g with γ:=γ'} w) k (M.set c A):=by
 obtain⟨vs,e,fr,N,Z,hg,hl,y,P⟩:=u;have E:=(D.at' _ _ _ hg (by simp[cW])).1;refine⟨vs,e,fr,N,Z,E,by simpa using hl,λx hx=>?_,λj x v a F=>?_⟩
 ·rcases Fj hx with hx|rfl
  ·exact y x hx
  ·exact U
 ·rw[ays] at a;split at a
  ·rename_i H;subst H;split at a
   ·rename_i I;simp only[aQ] at a;subst a;have cQ:w.heap[g.bx k]?=some (.cells vs e fr):=N;refine⟨(P _ _ v (cT I) F).1,Y v ?_⟩;simp[cellAt,World.cell?,cQ,F]
   ·simp at a
  ·rename_i H;obtain⟨h1,h2⟩:=P j x v a F;refine⟨h1,h2.same (λb u=>D.im b u) (λq p Q b π u=>?_) (λi hi=>absurd hi (Kg (y x (dH a)) i)) (λp J=>absurd J (uX (y x (dH a)) p)) (λp J=>absurd J.mv (uX (y x (dH a)) p))⟩;simp only[aQ,cZ] at Q;obtain⟨rfl,rfl⟩:=Q;refine D.at' b _ _ u λhx=>?_;obtain⟨_,t,S⟩:=hx;simp at S;exact H S.1
theorem Rel.ago{C:Cx}{E:Env}{s:TS}{g:Gs}{w:World}{k c:Nat}{x:List TV}{π0:aZ}{a:Nat->G}{u:TV}(h:Rel C E s g w)(F:s.box k=.cells x)(y:bw (cW (.box k) ((0,c)::π0)) g.γ w a w)
  (H:∀j p,MV p (s.slot j)->(gp p).1=.box k->p.jP=true->False)(I:j1 u=true)
  (J:∀v,cellAt w (g.bx k) c=some v->Rd (Gs.rc C {g with γ:=a} w) (some (.box k,[(0,c)])) u v):Rel C E (s.bx k (.cells (lY x c u))) {g with γ:=a} w:=by
 refine h.pf y (λj=>.inr ⟨Wx s k j _,rfl,λp hx=>by simp[cW] at hx,amq h y H j⟩) (λj=>?_)
 by_cases A:j=k
 ·subst A
  left
  have D:=h.boxes j;rw[F] at D;rcases yJ s j (.cells (lY x c u)) with e|e<;>rw[e]
  ·rw[vc];exact Vk D y I J
  ·trivial
 ·exact .inr ⟨yI s _ A,rfl,λp hx=>A (by simpa[cW] using hx.1)⟩
end
theorem Rd.ue{c:Rc}{m:Option Gp}{a:TV}{v:Value}(h:Rd c m a v)(e:Pl->Bool):Rd c m (Ev.ue e a) v:=by
 cases a<;>first
  |exact h
  |(simp only[Ev.ue];rename_i p _ _;cases e p<;>first|exact h|exact .un _ _)
theorem Vl{a:Pl->Bool}{e:TV}{p:Pl}(h:MP p (Ev.ue a e)):a p=false:=by
 cases e with
 |pa q t u=>simp only[Ev.ue] at h;cases j:a q<;>simp[j] at h<;>cases h;exact j
 |_=>cases h
theorem Dp(s:TS)(a:Pl->Bool)(k:Nat):(s.fE a).slot k=Ev.ue a (s.slot k):=JP _ _ rfl _ _
theorem Rel.fE{C:Cx}{E:Env}{s:TS}{g:Gs}{w:World}(h:Rel C E s g w)(a:Pl->Bool):Rel C E (s.fE a) g w:=h.xK (λk=>by rw[Dp];exact(h.eK k).ue a) (λ_=>.inl rfl)
theorem agp{s:TS}{k:Nat}:∀j p,MP p ((s.fE (Pl.nc k)).slot j)->(gp p).1=.slot k->False:=λj p a e=>by
 rw[Dp] at a;have:=Vl a;rw[Bd.2 e] at this;simp at this
theorem agq{s:TS}{k:Nat}:∀j p,MP p ((s.fE (Pl.gK k)).slot j)->(gp p).1=.box k->False:=λj p a e=>by
 rw[Dp] at a;have:=Vl a;rw[yR.2 e] at this;simp at this
def Zk(γ a:Nat->G):Prop:=∀b q p,γ b=.at q p->a b=.im\/a b=.at q p
theorem afr{γ:Nat->G}{a:Rt}{e:aZ}:Zk γ (mC γ a e):=λ_ _ _ h=>aps h
theorem Qm{C:Cx}{g:Gs}{w:World}{a:Nat->G}{X:Rt->aZ->Prop}{e:TV}(j:bw X g.γ w a w)(u:Zk g.γ a)(hx:∀k,¬ X (.box k) [])(x:∀p,MP p e->∀y,¬ X (gp p).1 ((gp p).2++y)):
  Kept C X g w {g with γ:=a} w e where
 bx:=λ_ _=>rfl
 va:=λp _=>⟨rfl,λA=>(oU (C:=C) (g:=g) (g':={g with γ:=a}) j p A (λ_ _ b _ D=>⟨u b _ _ D,rfl⟩) (λ_ _ _=>rfl) (λi _=>⟨rfl,hx i⟩)).2⟩
 pa:=x
theorem Rel.ags{C:Cx}{E:Env}{s:TS}{g:Gs}{w:World}{k:Nat}{u:aZ}{a:Nat->G}{x:TV}(h:Rel C E s g w)(A:bw (cW (.slot k) u) g.γ w a w)(D:∀j,j≠k->Kept C (cW (.slot k) u) g w {g with γ:=a} w (s.slot j))
  (F:Rd (Gs.rc C {g with γ:=a} w) (some (.slot k,[])) x (g.tm k)):Rel C E (s.raw k x) {g with γ:=a} w:=by
 refine h.pf A (λj=>?_) (λj=>.inr ⟨rfl,rfl,λp hx=>by simp[cW] at hx⟩)
 by_cases y:j=k
 ·subst y
  left
  rcases AD s j x with e|e<;>rw[e]
  ·exact F
  ·exact .un _ _
 ·exact .inr ⟨uT s x y,rfl,λp hx=>y (by simpa[cW] using hx.1),D j y⟩
theorem Rel.agt{C:Cx}{E:Env}{s:TS}{g:Gs}{w:World}{k c:Nat}{x:List TV}{π0:aZ}{a:Nat->G}{u:TV}(h:Rel C E s g w)(F:s.box k=.cells x)(A:bw (cW (.box k) ((0,c)::π0)) g.γ w a w)
  (H:∀j,Kept C (cW (.box k) ((0,c)::π0)) g w {g with γ:=a} w (s.slot j))(I:j1 u=true)
  (J:∀v,cellAt w (g.bx k) c=some v->Rd (Gs.rc C {g with γ:=a} w) (some (.box k,[(0,c)])) u v):Rel C E (s.bx k (.cells (lY x c u))) {g with γ:=a} w:=by
 refine h.pf A (λj=>.inr ⟨Wx s k j _,rfl,λp hx=>by simp[cW] at hx,H j⟩) (λj=>?_)
 by_cases y:j=k
 ·subst y
  left
  have D:=h.boxes j;rw[F] at D;rcases yJ s j (.cells (lY x c u)) with e|e<;>rw[e]
  ·rw[vc];exact Vk D A I J
  ·trivial
 ·exact .inr ⟨yI s _ y,rfl,λp hx=>y (by simpa[cW] using hx.1)⟩
def dL(a s:TS):Prop:=∀k p,MV p (a.slot k)->MV p (s.slot k)
theorem dL.refl(s:TS):dL s s:=λ_ _ h=>h
theorem dL.trans{s a e:TS}(h:dL e a)(k:dL a s):dL e s:=λi p j=>k i p (h i p j)
theorem dL.kill(s:TS)(e:Pl->Bool):dL (s.kill e) s:=λi p a=>by rw[tY] at a;exact(xc a).1
theorem amr{a:Pl->Bool}{tv:TV}{p:Pl}(h:MV p (Ev.ue a tv)):MV p tv:=by
 cases tv with
 |pa q t j=>simp only[Ev.ue] at h;cases e:a q<;>simp[e] at h<;>cases h;exact .pa _ _
 |_=>exact h
theorem dL.fE(s:TS)(e:Pl->Bool):dL (s.fE e) s:=λi p a=>by rw[Dp] at a;exact amr a
theorem dL.raw(s:TS)(k:Nat){v:TV}(h:∀p,MV p v->MV p (s.slot k)):dL (s.raw k v) s:=λi p a=>by
 by_cases hi:i=k
 ·subst hi;rcases AD s i v with e|e<;>rw[e] at a
  ·exact h p a
  ·cases a
 ·rwa[uT s v hi] at a
theorem dL.Sp{j s:TS}(k:Nat){v:TV}(h0:dL j s)(h:∀p,MV p v->MV p (s.slot k)):dL (j.raw k v) s:=λi p a=>by
 by_cases hi:i=k
 ·subst hi;rcases AD j i v with e|e<;>rw[e] at a
  ·exact h p a
  ·cases a
 ·rw[uT j v hi] at a;exact h0 i p a
theorem dL.bx(s:TS)(k:Nat)(v:BC):dL (s.bx k v) s:=λi p a=>a
def lU(q:Rt)(p:aZ):Prop:=(∃k,q=.box k)/\p=[]
structure FK(Z:Rt->Prop)(γ γ':Nat->G):Prop where
 im:∀b,γ b=.im->γ' b=.im
 at':∀b q p,γ b=.at q p->(Z q->lU q p)->γ' b=.at q p
 fr:∀b,γ b=.fr->γ' b=.fr
theorem FK.refl{Z:Rt->Prop}(γ:Nat->G):FK Z γ γ:=⟨λ_ h=>h,λ_ _ _ h _=>h,λ_ h=>h⟩
theorem FK.trans{Z:Rt->Prop}{γ a BQ:Nat->G}(h:FK Z γ a)(k:FK Z a BQ):FK Z γ BQ:=⟨λb e=>k.im b (h.im b e),λb q p e hz=>k.at' b q p (h.at' b q p e hz) hz,λb e=>k.fr b (h.fr b e)⟩
theorem FK.mono{Z Z':Rt->Prop}{γ γ':Nat->G}(h:FK Z γ γ')(hz:∀q,Z q->Z' q):FK Z' γ γ':=⟨h.im,λb q p a e=>h.at' b q p a (λk=>e (hz q k)),h.fr⟩
def rE(q:Rt)(p:aZ):Prop:=∀k,q=.box k->p≠[]
theorem Dq{k:Nat}{p:aZ}:rE (.slot k) p:=λ_ h=>by simp at h
theorem Dw{k:Nat}{p:aZ}:rE (.aw k) p:=λ_ h=>by simp at h
theorem JQ{q:Rt}{x:Int×Nat}{p:aZ}:rE q (x::p):=λ_ _=>by simp
theorem A4:∀(p:Pl),rE (gp p).1 (gp p).2
 |.slot _=>Dq
 |.cell _ _=>JQ
 |.sub _ _ _ _=>λ_ _=>by simp[gp]
theorem rE.M5{a q:Rt}{j p:aZ}(h:rE a j)(hz:q=a->lU q p)(hx:cW a j q p):False:=by
 obtain⟨u,t,e⟩:=hx;obtain⟨⟨k,x⟩,y⟩:=hz u;subst u;rw[y] at e;simp at e;exact h k x e.1
theorem FK.bV{γ:Nat->G}{q1 q2:Rt}{p1 p2:aZ}(a:rE q1 p1):FK (λq=>q=q1) γ (bV γ q1 p1 q2 p2):=⟨λ_ h=>ua h,λ_ _ _ h hz=>AS h (λhx=>a.M5 hz hx),λ_ h=>KH h⟩
theorem FK.ku{γ:Nat->G}{q1:Rt}{p1:aZ}(a:rE q1 p1):FK (λq=>q=q1) γ (mC γ q1 p1):=⟨λ_ h=>Ht h,λ_ _ _ h hz=>acX h (λhx=>a.M5 hz hx),λ_ h=>Wy h⟩
theorem FK.fK{Z:Rt->Prop}{γ e:Nat->G}{w:World}(h:FK Z γ e)(j:∀b,w.heap.size<=b->γ b=.fr):bw (λq p=>Z q/\¬ lU q p) γ w e w:=⟨λb a=>⟨h.im b a,rfl⟩,λb q p a hz=>⟨h.at' b q p a (λk=>ayt λj=>hz ⟨k,j⟩),rfl⟩,λb _ a=>⟨h.fr b a,rfl⟩,iI _,λb a=>h.fr b (j b a),rfl,rfl,rfl⟩
def X4(Z:Rt->Prop):Prop:=∀n,¬ Z (.aw n)
theorem jo:∀(p:Pl)(n:Nat),(gp p).1≠.aw n
 |.slot k,n=>by simp[gp]
 |.cell _ _,n=>by simp[gp]
 |.sub p _ _ _,n=>by simpa[gp] using jo p n
theorem Rd.fk{C:Cx}{g:Gs}{w:World}{e:Nat->G}{Z:Rt->Prop}{n:Nat}{y:aZ}{j:TV}{v:Value}(h:Rd (g.rc C w) (some (.aw n,y)) j v)(u:bC j=true)(k:FK Z g.γ e)(hz:X4 Z):Rd (Gs.rc C {g with γ:=e} w) (some (.aw n,y)) j v:=
 h.same (λb x=>⟨k.im b x,rfl⟩) (λq p a b ρ x=>by
  simp only[aQ,cZ] at a
  obtain⟨rfl,rfl⟩:=a
  exact⟨k.at' b _ _ x (λh=>absurd h (hz _)),rfl⟩) (λi hi=>absurd hi (lQ u i)) (λp a=>absurd a (fH u p)) (λp a=>absurd a.mv (fH u p))
theorem Rd.agu{C:Cx}{g:Gs}{w:World}{q I:Rt}{p J:aZ}{t:Ty}{E:List (El t)}{x:El t}{v:Value}{i:Int}{j:Nat}(h:Rd (g.rc C w) (some (q,p)) (.own true t E) v)(hx:af E i=some x):
  Rd (Gs.rc C {g with γ:=bV g.γ q (p++[(i,cj t j)]) I J} w) (some (q,p)) (.gJ t E i j) v:=by
 obtain⟨h0,hx⟩:=mO.1 hx;rcases h.mR with⟨rfl,_⟩|⟨q',p',b,o,cap,P,e,fr,f,M,rfl,Q,R,S,U,Y,Z,hr⟩
 ·simp at hx
 simp only[aQ,cZ] at M;obtain⟨rfl,rfl⟩:=M;have Mk:∀(b:Nat)(r:Nat)(c:Nat)(u:aZ),((r:Int)≠i\/c≠j)->g.γ b=.at q ((p++[((r:Int),cj t c)])++u)->bV g.γ q (p++[(i,cj t j)]) I J b=.at q ((p++[((r:Int),cj t c)])++u):=λb r c u F A=>
  AS A (λ⟨_,t,a⟩=>by
   simp at a
   rcases F with h|h
   ·exact h a.1.1.symm
   ·exact h (Rz a.1.2).2.symm)
 refine .gJ _ _ _ _ _ _ _ _ _ P e fr f Q (AS R λ⟨_,t,a⟩=>by simp at a;exact LX a.1) S U Y Z (λr y c tv hy D F=>?_);exact(hr r y c tv hy D).same (λb A=>⟨ua A,rfl⟩) (λq3 p3 N b u A=>by
  simp only[aQ,cZ] at N
  obtain⟨rfl,rfl⟩:=N
  exact⟨Mk b r c u F A,rfl⟩) (λk hk=>absurd hk (lQ (fg D) k)) (λp H=>absurd H (fH (fg D) p)) (λp H=>absurd H.mv (fH (fg D) p))
theorem Rd.HU{C:Cx}{g:Gs}{w:World}{q q2:Rt}{p p2:aZ}{e:TV}{v:Value}(h:Rd (g.rc C w) (some (q,p)) e v)(j:bC e=true):Rd (Gs.rc C {g with γ:=bV g.γ q p q2 p2} w) (some (q2,p2)) e v:=
 h.mono _ (λb u=>⟨ua u,rfl⟩) (λx y a=>by
  simp only[aQ,cZ] at a
  obtain⟨rfl,rfl⟩:=a
  exact⟨_,_,rfl,λb A u=>⟨DH u,rfl⟩⟩) (λi hi=>absurd hi (lQ j i)) (λp a=>absurd a (fH j p)) (λp a=>absurd a.mv (fH j p))
theorem acY{C:Cx}{s:TS}{p:Pl}{t:Ty}{i:Int}{c:Nat}{u:TV}(h:fo C s (.sub p t i c)=some u):∃d a x,(fo C s p=some (.own d t a)\/(d=false/\fo C s p=some (.bJ t a)))/\af a i=some x/\u=nth (enc d t x) c:=by
 simp only[fo] at h;split at h
 ·rename_i d y a e;split at h
  ·rename_i j;subst j;simp only[CG] at h;obtain⟨x,hx,rfl⟩:=h;exact⟨d,a,x,.inl e,hx,rfl⟩
  ·simp at h
 ·rename_i y a e;split at h
  ·rename_i j;subst j;simp only[CG] at h;obtain⟨x,hx,rfl⟩:=h;exact⟨false,a,x,.inr ⟨rfl,e⟩,hx,rfl⟩
  ·simp at h
 ·simp at h
theorem QS{C:Cx}{E:Env}{s:TS}{g:Gs}{w:World}{R:Type}{r:R}{n:Nat}{π0:aZ}{I:TV}{v:Value}(h:Rel C E s g w)(p:Pl){K:TS->Option R}(hg:fo C s p=some I)(J:bC I=true)
  (D:Rd (g.rc C w) (some (gp p)) I v)(e:oB s p K=some r):
  ∃Q y,K Q=some r/\Rel C E Q {g with γ:=y} w/\Rd (Gs.rc C {g with γ:=y} w) (some (.aw n,π0)) I v/\FK (λq=>q=(gp p).1) g.γ y/\dL Q s:=by
 have M:∀{q:Rt}{p:aZ},bw (cW q p) g.γ w (bV g.γ q p (.aw n) π0) w:=ri h.aC.new;cases p with
 |slot k=>
  simp only[oB] at e;refine⟨_,bV g.γ (.slot k) [] (.aw n) π0,e,?_,D.HU J,.bV (A4 (.slot k)),(dL.raw _ _ (λp a=>by cases a)).trans (dL.kill _ _)⟩;exact(h.kill (Pl.pW k)).R6 M O0 (.un _ _)
 |cell k c=>
  simp only[oB] at e;split at e
  ·rename_i cs N;refine⟨_,bV g.γ (.box k) [(0,c)] (.aw n) π0,e,?_,D.HU J,.bV (A4 (.cell k c)),(dL.bx _ _ _).trans (dL.kill _ _)⟩;exact(h.kill (Pl.pX k)).ago (π0:=[]) N M O1 rfl (λ_ _=>.un _ _)
  ·simp at e
 |sub p t i c=>
  obtain⟨d,xs,x,a,hx,rfl⟩:=acY hg;cases p with
  |slot k=>
   simp only[oB] at e;split at e
   ·rename_i u F S;obtain⟨A,U⟩:=bQ.1 e;have A:u=t:=ef A;subst A;have P:fo C s (.slot k)=some (.own true u F):=by
     simp only[fo] at a⊢
     rcases a with a|⟨_,a⟩<;>(split at a<;>simp_all)
    rw[P] at a;have Y:F=xs/\d=true:=by
     rcases a with a|⟨_,a⟩
     ·simp only[aQ,TV.own.injEq,heq_eq_eq,Am] at a;exact⟨a.2,a.1.symm⟩
     ·simp at a
    obtain⟨rfl,rfl⟩:=Y;refine⟨_,bV g.γ (.slot k) [(i,cj u c)] (.aw n) π0,U,?_,D.HU J,.bV (A4 (.sub (.slot k) u i c)),(dL.raw _ _ (λp a=>by cases a)).trans (dL.kill _ _)⟩;have H:=h.eK k;rw[S] at H;exact(h.kill (Pl.pW k)).R6 M O0 (H.agu hx)
   ·simp at e
  |cell k j=>
   simp only[oB] at e;split at e
   ·rename_i cs N;split at e
    ·rename_i u F hn;obtain⟨A,U⟩:=bQ.1 e;have A:u=t:=ef A;subst A;have P:fo C s (.cell k j)=some (.own true u F):=by simp[fo,N,hn]
     rw[P] at a;have Y:F=xs/\d=true:=by
      rcases a with a|⟨_,a⟩
      ·simp only[aQ,TV.own.injEq,heq_eq_eq,Am] at a;exact⟨a.2,a.1.symm⟩
      ·simp at a
     obtain⟨rfl,rfl⟩:=Y;refine⟨_,bV g.γ (.box k) [(0,j),(i,cj u c)] (.aw n) π0,U,?_,D.HU J,.bV (A4 (.sub (.cell k j) u i c)),(dL.bx _ _ _).trans (dL.kill _ _)⟩;refine(h.kill (Pl.pX k)).ago (π0:=[(i,cj u c)]) N M O1 rfl (λv D=>?_);rcases xd h P with Z|⟨v',cG,Z,_⟩
     ·simp at Z
     ·have:v'=v:=by
        simp only[Gs.rc,va] at cG
        rw[D] at cG;exact(gB cG).symm
      subst this;exact Z.agu hx
    ·simp at e
   ·simp at e
  |sub p u i' c'=>simp[oB] at e
section
open Classical in
noncomputable def kJ(γ:Nat->G)(q1:Rt)(p1:aZ):Nat->G:=λb=>
 match γ b with
 |.at q p=>if q=q1/\(∃i j a,64<=j/\p=p1++(i,j)::a) then .im else .at q p
 |x=>x
section
variable{γ:Nat->G}{q1 q:Rt}{p1 p:aZ}{b:Nat}
theorem Hu(h:γ b=.im):kJ γ q1 p1 b=.im:=by simp[kJ,h]
theorem Wz(h:γ b=.fr):kJ γ q1 p1 b=.fr:=by simp[kJ,h]
theorem afs:Zk γ (kJ γ q1 p1):=λb q p h=>by simp only[kJ,h];split<;>simp
theorem Py{t:Ty}(h:γ b=.at q1 (p1++[tg t])):kJ γ q1 p1 b=.at q1 (p1++[tg t]):=by
 simp only[kJ,h];rw[aE];rintro⟨_,i,j,u,e,a⟩;have a:=Ur a;simp only[nh] at a;exact asy e a.1.symm
theorem Hv{i:Int}{j:Nat}{π:aZ}(a:64<=j)(h:γ b=.at q1 (p1++(i,j)::π)):kJ γ q1 p1 b=.im:=by
 simp only[kJ,h];exact aD ⟨rfl,i,j,π,a,rfl⟩
theorem FK.kJ(a:rE q1 p1):FK (λq=>q=q1) γ (kJ γ q1 p1):=⟨λ_ h=>Hu h,λb q p h hz=>by simp only[Sd.kJ,h];exact aE (λk=>a.M5 hz ⟨k.1,by obtain⟨_,i,j,e,_,rfl⟩:=k;exact wN _ _⟩),λ_ h=>Wz h⟩
theorem VQ{w:World}(a:∀b,w.heap.size<=b->γ b=.fr):bw (cW q1 p1) γ w (kJ γ q1 p1) w:=⟨λ_ h=>⟨Hu h,rfl⟩,λb q p h hx=>⟨by simp only[kJ,h];exact aE (λk=>hx ⟨k.1,by obtain⟨_,i,j,u,_,rfl⟩:=k;exact wN _ _⟩),rfl⟩,λ_ _ h=>⟨Wz h,rfl⟩,iI _,λb e=>Wz (a b e),rfl,rfl,rfl⟩
end
theorem Rel.QT{C:Cx}{E:Env}{s:TS}{g:Gs}{w:World}{k:Nat}{a:TV}(h:Rel C E s g w)(x:Rd (g.rc C w) (some (.slot k,[])) a (g.tm k)):Rel C E (s.raw k a) g w:=
 h.xK (λj=>by
  by_cases u:j=k
  ·subst u
   rcases AD s j a with e|e<;>rw[e]
   ·exact x
   ·exact .un _ _
  ·rw[uT s a u];exact h.eK j) (λj=>.inl rfl)
theorem Rel.RC{C:Cx}{E:Env}{s:TS}{g:Gs}{w:World}{k:Nat}{v:BC}(h:Rel C E s g w)(u:xI (g.rc C w) k v):Rel C E (s.bx k v) g w:=
 ⟨h.eK,λj=>by
   by_cases a:j=k
   ·subst a
    rcases yJ s j v with e|e<;>rw[e]
    ·exact u
    ·trivial
   ·rw[yI s v a];exact h.boxes j,h.aC,h.gl,h.l9,h.gb⟩
theorem acZ(cs:List TV)(c:Nat):lY cs c (nth cs c)=cs:=by
 rw[vc,yY]
 by_cases h:c<cs.length
 ·rw[cT h];simp
 ·rw[List.set_eq_of_length_le (by omega)]
def HV(s:TS):Pl->TV
 |.slot k=>s.slot k
 |.cell k c=>
  match s.box k with
  |.cells a=>nth a c
  |_=>.un
 |.sub p _ _ _=>HV s p
def Bu:Pl->Pl|.slot k=>.slot k|.cell k c=>.cell k c|.sub p _ _ _=>Bu p
def iB:TV->Bool|.own _ _ _=>true|_=>false
theorem ac0:∀(p:Pl)(t:Ty)(i:Int)(c:Nat),∃a j e,64<=j/\gp (.sub p t i c)=((gp (Bu p)).1,(gp (Bu p)).2++(a,j)::e)
 |.slot k,t,i,c=>⟨i,cj t c,[],R5 _ _,rfl⟩
 |.cell k j,t,i,c=>⟨i,cj t c,[],R5 _ _,rfl⟩
 |.sub p t a u,t0,i,c=>by
  obtain⟨i2,x,e,y,h⟩:=ac0 p t a u;refine⟨i2,x,e++[(i,cj t0 c)],y,?_⟩;show((gp (.sub p t a u)).1,(gp (.sub p t a u)).2++[(i,cj t0 c)])=_;rw[h];simp[Bu]
theorem ac1(a:TV):iB (kH a)=false:=by cases a<;>rfl
theorem vd{t:Ty}{x:El t}{j:Nat}{a:TV}(h:(enc false t x)[j]?=some a):iB a=false:=by
 obtain⟨e,_,rfl⟩:=JK (d:=false) h;exact ac1 _
theorem A5{a:TV}(h:iB a=true):∃d t,∃xs:List (El t),a=.own d t xs:=by
 cases a<;>simp[iB] at h;exact⟨_,_,_,rfl⟩
theorem La{tv:TV}(h:iB tv=false):kH tv=tv/\Ev.yW tv=tv:=by
 cases tv<;>simp_all [iB,kH,Ev.yW]
theorem abY{C:Cx}{s:TS}:∀{p:Pl}{e:TV},fo C s p=some e->iB e=true->iB (HV s p)=true
 |.slot k,e,h,a=>by
  simp only[fo] at h;split at h
  ·simp only[aQ] at h;subst h;exact a
  ·simp at h
 |.cell k c,e,h,a=>by
  simp only[fo] at h;split at h
  ·rename_i A y;simp only[aQ] at h;subst h;simp only[HV,y];exact a
  ·simp at h
 |.sub p t i c,e,h,a=>by
  obtain⟨d,D,x,j,_,rfl⟩:=acY h;rcases j with j|⟨rfl,j⟩
  ·exact abY (p:=p) j rfl
  ·exfalso;rw[yY] at a;cases u:(enc false t x)[c]? with
   |none=>rw[u] at a;simp[iB] at a
   |some e=>
    rw[u] at a;have:=vd u;simp[this] at a
theorem aft(s:TS)(k:Nat):dL ((s.fE (Pl.nc k)).raw k (s.slot k)) s:=dL.Sp k (dL.fE _ _) (λ_ h=>h)
theorem aeh{C:Cx}{E:Env}{s:TS}{g:Gs}{w:World}{R:Type}{r:R}(h:Rel C E s g w):∀(p:Pl){K:TS->Option R},xE s p K=some r->
  ∃J x,K J=some r/\Rel C E J {g with γ:=x} w/\FK (λq=>q=(gp p).1) g.γ x/\(iB (HV s p)=true->∀b i j y,64<=j->g.γ b=.at (gp (Bu p)).1 ((gp (Bu p)).2++(i,j)::y)->x b=.im)/\dL J s
 |.slot k,K,e=>by
  simp only[xE] at e;cases A:iB (s.slot k) with
  |true=>
   obtain⟨d,t,P,H⟩:=A5 A;have I:bw (cW (.slot k) []) g.γ w (kJ g.γ (.slot k) []) w:=VQ h.aC.new;refine⟨_,kJ g.γ (.slot k) [],e,?_,.kJ (by first|exact Dq|exact JQ),λ_ b i j y D a=>Hv D a,dL.Sp k (dL.fE _ _) (λp u=>by rw[H] at u;cases u)⟩;refine(h.fE (Pl.nc k)).ags I (λj _=>Qm I afs (λ_ hx=>by simp[cW] at hx) (λp u y hx=>agp j p u hx.1)) ?_;have h0:=h.eK k;rw[H] at h0⊢;exact h0.yW (λb a=>⟨Hu a,rfl⟩) (λb t a=>⟨Py a,rfl⟩) (λb i j y D a=>⟨Hv D a,rfl⟩)
  |false=>
   rw[(La A).2] at e;exact⟨_,g.γ,e,(h.fE (Pl.nc k)).QT (h.eK k),.refl _,(λF=>by simp only[HV] at F;rw[A] at F;simp at F),λi p u=>aft s k i p u⟩
 |.cell k c,K,e=>by
  simp only[xE] at e;split at e
  ·rename_i S a;cases A:iB (nth S c) with
   |true=>
    obtain⟨d,t,P,H⟩:=A5 A;have I:bw (cW (.box k) [(0,c)]) g.γ w (kJ g.γ (.box k) [(0,c)]) w:=VQ h.aC.new;refine⟨_,kJ g.γ (.box k) [(0,c)],e,?_,.kJ (by first|exact Dq|exact JQ),λ_ b i j y D a=>Hv D a,(dL.bx _ _ _).trans (dL.fE _ _)⟩;rw[H];refine(h.fE (Pl.gK k)).agt (π0:=[]) a I (λj=>Qm I afs (λ_ hx=>by simp[cW] at hx) (λp u y hx=>agq j p u hx.1)) rfl (λv U=>?_);have Y:fo C s (.cell k c)=some (.own d t P):=by simp[fo,a,H]
    rcases xd h Y with M|⟨Z,N,M,_⟩
    ·simp at M
    ·have:Z=v:=by
       simp only[Gs.rc,va] at N
       rw[U] at N;exact(gB N).symm
     subst this;exact Rd.yW M (λb a=>⟨Hu a,rfl⟩) (λb t a=>⟨Py a,rfl⟩) (λb i j y D a=>⟨Hv D a,rfl⟩)
   |false=>
    rw[(La A).2,acZ] at e;have Q:=h.boxes k;rw[a] at Q;exact⟨_,g.γ,e,(h.fE (Pl.gK k)).RC Q,.refl _,(λF=>by simp only[HV,a] at F;rw[A] at F;simp at F),(dL.bx _ _ _).trans (dL.fE _ _)⟩
  ·simp at e
 |.sub p _ _ _,K,e=>by
  simp only[xE] at e;exact aeh h p e
theorem WA{C:Cx}{E:Env}{s:TS}{g:Gs}{w:World}{R:Type}{r:R}(h:Rel C E s g w):∀(p:Pl){K:TS->Option R},vA s p K=some r->
  ∃N A,K N=some r/\Rel C E N {g with γ:=A} w/\FK (λq=>q=(gp p).1) g.γ A/\(∀a v,fo C s p=some a->iB a=true->Rd (g.rc C w) (some (gp p)) a v->Rd (Gs.rc C {g with γ:=A} w) none (kH a) v)/\dL N s
 |.slot k,K,u=>by
  simp only[vA] at u;cases D:iB (s.slot k) with
  |true=>
   obtain⟨d,t,Y,J⟩:=A5 D;have P:bw (cW (.slot k) []) g.γ w (mC g.γ (.slot k) []) w:=aeg h.aC.new;have hz:∀a v,bC a=true->Rd (g.rc C w) (some (.slot k,[])) a v->Rd (Gs.rc C {g with γ:=mC g.γ (.slot k) []} w) none (kH a) v:=λa v F y=>
    y.ku F (λb e=>⟨Ht e,rfl⟩) (λq p I b M e=>by
     simp only[aQ,cZ] at I
     obtain⟨rfl,rfl⟩:=I
     exact⟨QR e,rfl⟩)
   refine⟨_,mC g.γ (.slot k) [],u,?_,.ku (by first|exact Dq|exact JQ),λa v x H y=>?_,dL.Sp k (dL.fE _ _) (λp F=>by rw[J] at F;cases F)⟩
   ·refine(h.fE (Pl.nc k)).ags P (λj _=>Qm P afr (λ_ hx=>by simp[cW] at hx) (λp F M hx=>agp j p F hx.1)) ?_;exact(hz _ _ (by rw[J];rfl) (h.eK k)).lift _
   ·obtain⟨Z,t',M6,rfl⟩:=A5 H;exact hz _ v rfl y
  |false=>
   rw[(La D).1] at u;refine⟨_,g.γ,u,(h.fE (Pl.nc k)).QT (h.eK k),.refl _,λa v x H _=>?_,aft s k⟩;simp only[fo] at x;split at x
   ·simp only[aQ] at x;subst x;rw[D] at H;simp at H
   ·simp at x
 |.cell k c,K,u=>by
  simp only[vA] at u;split at u
  ·rename_i cs e;cases D:iB (nth cs c) with
   |true=>
    obtain⟨d,t,Y,J⟩:=A5 D;have P:bw (cW (.box k) [(0,c)]) g.γ w (mC g.γ (.box k) [(0,c)]) w:=aeg h.aC.new;have hz:∀a v,bC a=true->Rd (g.rc C w) (some (.box k,[(0,c)])) a v->Rd (Gs.rc C {g with γ:=mC g.γ (.box k) [(0,c)]} w) none (kH a) v:=λa v F y=>
     y.ku F (λb e=>⟨Ht e,rfl⟩) (λq p I b M e=>by
      simp only[aQ,cZ] at I
      obtain⟨rfl,rfl⟩:=I
      exact⟨QR e,rfl⟩)
    refine⟨_,mC g.γ (.box k) [(0,c)],u,?_,.ku (by first|exact Dq|exact JQ),λa v x H y=>?_,(dL.bx _ _ _).trans (dL.fE _ _)⟩
    ·refine(h.fE (Pl.gK k)).agt (π0:=[]) e P (λj=>Qm P afr (λ_ hx=>by simp[cW] at hx) (λp F M hx=>agq j p F hx.1)) (by rw[J];rfl) (λv y=>?_);have x:fo C s (.cell k c)=some (.own d t Y):=by simp[fo,e,J]
     rcases xd h x with Q|⟨v',S,Q,_⟩
     ·simp at Q
     ·have:v'=v:=by
        simp only[Gs.rc,va] at S
        rw[y] at S;exact(gB S).symm
      subst this;rw[J];exact(hz _ _ rfl Q).lift _
    ·obtain⟨Z,t',M6,rfl⟩:=A5 H;exact hz _ v rfl y
   |false=>
    rw[(La D).1,acZ] at u;have eF:=h.boxes k;rw[e] at eF;refine⟨_,g.γ,u,(h.fE (Pl.gK k)).RC eF,.refl _,λa v x H _=>?_,(dL.bx _ _ _).trans (dL.fE _ _)⟩;simp only[fo,e,aQ] at x;subst x;rw[D] at H;simp at H
  ·simp at u
 |.sub p t i c,K,u=>by
  simp only[vA] at u;obtain⟨N,A,Q,h2,h3,h4,h5⟩:=aeh h p u;refine⟨N,A,Q,h2,h3,λa v x D y=>?_,h5⟩;have Bv:=abY (p:=.sub p t i c) x D;obtain⟨i',j,M,hj,U⟩:=ac0 p t i c;rw[U] at y;obtain⟨Z,t',M6,rfl⟩:=A5 D;exact y.ku rfl (λb e=>⟨h3.im b e,rfl⟩) (λq2 p2 I b ρ e=>by
   simp only[aQ,cZ] at I
   obtain⟨rfl,rfl⟩:=I
   have dS:g.γ b=.at (gp (Bu p)).1 ((gp (Bu p)).2++(i',j)::M++ρ):=e
   exact⟨h4 Bv b i' j (M++ρ) hj (by simpa using dS),rfl⟩)
theorem abZ{C:Cx}{E:Env}{w:World}{R:Type}{r:R}:∀(ps:List Pl){s:TS}{g:Gs}{K:TS->Option R},Rel C E s g w->Rx ps s K=some r->
  ∃u e,K u=some r/\Rel C E u {g with γ:=e} w
 |[],s,g,K,h,a=>⟨s,g.γ,a,h⟩
 |p::ps,s,g,K,h,a=>by
  simp only[Rx] at a;obtain⟨H,x,y,A,_,_⟩:=WA h p a;obtain⟨s2,j,D,F⟩:=abZ ps A y;exact⟨s2,j,D,F⟩
theorem Rd.any{c:Rc}{m:Option Gp}{a:TV}{v:Value}(h:Rd c m a v)(y:bC a=true)(x:iB a=false)(A:Option Gp):Rd c A a v:=by
 cases h with
 |lE=>exact .lE _ _ _ _
 |pP _ _ _ _ _ _ f C e j u=>exact .pP _ _ _ _ _ _ f C e j u
 |sZ=>exact .sZ _ _ _
 |s7 _ _ _ _ _ f e j u=>exact .s7 _ _ _ _ _ f e j u
 |b=>exact .b _ _
 |i=>exact .i _ _ _
 |s=>exact .s _ _
 |nil=>exact .nil _
 |gU=>exact .gU _ _
 |j6=>simp[iB] at x
 |kY=>simp[iB] at x
 |_=>simp[bC] at y
theorem Rd.Lb{c:Rc}{m E:Option Gp}{t:Ty}{y:List (El t)}{a F:Option Addr}{len cap e:Nat}{lo hi:Int}(h:Rd c m (.bJ t y) (.slice a len cap))(S:0<=lo)(U:lo<=hi)(M:hi<=y.length)
  (H:e=0\/∃b o,a=some ⟨b,o,none⟩/\F=some ⟨b,o+lo.toNat*aA t,none⟩)(N:hi.toNat-lo.toNat<=e):Rd c E (.bJ t ((y.drop lo.toNat).take (hi.toNat-lo.toNat))) (.slice F (hi.toNat-lo.toNat) e):=by
 have u:((y.drop lo.toNat).take (hi.toNat-lo.toNat)).length=hi.toNat-lo.toNat:=by simp;omega
 rcases h.ub with⟨rfl,_⟩|⟨b,o,Y,f,I,Z,P,Q,R⟩
 ·simp at M;have:lo.toNat=0/\hi.toNat=0:=by omega
  simp only[List.drop_nil,List.take_nil,this.1,this.2];exact .lE _ _ _ _
 ·simp only[Value.slice.injEq] at I;obtain⟨rfl,rfl,rfl⟩:=I
  by_cases hz:hi.toNat-lo.toNat=0
  ·rw[hz];simp only[Fk];exact .lE _ _ _ _
  ·rcases H with H|⟨b',o',J,rfl⟩
   ·omega
   ·simp only[aQ,Addr.mk.injEq,jI] at J;obtain⟨rfl,rfl⟩:=J;have A:∀(r:Nat)(x:El t),((y.drop lo.toNat).take (hi.toNat-lo.toNat))[r]?=some x->y[lo.toNat+r]?=some x:=λr x hx=>by
     rw[q8] at hx
     split at hx
     ·rwa[An] at hx
     ·simp at hx
    have:=Rd.pP (c:=c) E t ((y.drop lo.toNat).take (hi.toNat-lo.toNat)) b (o+lo.toNat*aA t) e (λr j=>f (lo.toNat+r) j) (by rw[u];exact N) P (λr x j C hx D=>by
     have:=Q _ x j C (A r x hx) D
     rw[jY] at this
     rw[show o+lo.toNat*aA t+r*aA t+j=o+(lo.toNat*aA t+r*aA t)+j by omega]
     exact this) (λr x j C hx D=>R _ x j C (A r x hx) D);rw[u] at this;exact this
structure tw(c:Rc)(G:Gp)(tv:TV)(v:Value):Prop where
 vw:∀p t,tv=.vw p t->c.va p=some v
 sl:∀p t lo hi,tv=.sl p t lo hi->∃a len cap a' cap',c.va p=some (.slice a len cap)/\v=.slice a' (hi.toNat-lo.toNat) cap'/\0<=lo/\lo<=hi/\hi<=(len:Int)/\
  (cap'=0\/∃b o,a=some ⟨b,o,none⟩/\a'=some ⟨b,o+lo.toNat*aA t,none⟩)/\hi.toNat-lo.toNat<=cap'/\cap'+lo.toNat<=cap
 pl:bC tv=true->Rd c (some G) tv v
theorem Rd.M7{c:Rc}{G:Gp}{a:TV}{v:Value}(h:Rd c (some G) a v):tw c G a v where
 vw:=λp t e=>by subst e;cases h;assumption
 sl:=λp t lo hi e=>by subst e;cases h;exact⟨_,_,_,_,_,by assumption,rfl,by assumption,by assumption,by assumption,by assumption,by assumption,by assumption⟩
 pl:=λ_=>h
theorem tw.fk{C:Cx}{g:Gs}{w:World}{a:Nat->G}{Z:Rt->Prop}{n:Nat}{e:aZ}{j:TV}{v:Value}(h:tw (g.rc C w) (.aw n,e) j v)(k:FK Z g.γ a)(hz:X4 Z):tw (Gs.rc C {g with γ:=a} w) (.aw n,e) j v where
 vw:=h.vw
 sl:=h.sl
 pl:=λu=>(h.pl u).fk u k hz
def Zv(vs:List TV)(q:Rt):Prop:=∃a∈vs,∃p,MV p a/\(gp p).1=q
theorem ac2(vs:List TV):X4 (Zv vs):=λn⟨_,_,p,_,h⟩=>jo p n h
theorem R7{C:Cx}{E:Env}{s:TS}{g:Gs}{w:World}{R:Type}{r:R}{m:Bool->Pl->Bool}{n:Nat}{π0:aZ}{tv:TV}{v:Value}{K:TV->TS->Option R}(h:Rel C E s g w)(H:tw (g.rc C w) (.aw n,π0) tv v)
  (j:cv C m tv s K=some r):
  ∃bP A y,K bP A=some r/\Rel C E A {g with γ:=y} w/\Rd (Gs.rc C {g with γ:=y} w) (some (.aw n,π0)) bP v/\bC bP=true/\FK (λq=>∃p,MV p tv/\(gp p).1=q) g.γ y/\dL A s:=by
 unfold cv at j;split at j
 ·rename_i p t;obtain⟨x,I,j⟩:=ry j;have Z:=H.vw p t rfl;split at j
  ·rename_i d t' xs;rcases xd h I with J|⟨Q,D,J,_⟩
   ·simp at J
   have:Q=v:=by rw[Z] at D;exact(gB D).symm
   subst this;split at j
   ·obtain⟨A,y,h2,h3,S,M,h6⟩:=WA h p j;exact⟨_,A,y,h2,h3,(M _ _ I rfl J).lift _,rfl,S.mono (λq U=>⟨p,.vw _,U.symm⟩),h6⟩
   ·obtain⟨A,y,h2,h3,S,M,h6⟩:=QS (n:=n) (π0:=π0) h p I rfl J j;exact⟨_,A,y,h2,h3,S,rfl,M.mono (λq U=>⟨p,.vw _,U.symm⟩),h6⟩
  ·rename_i t' xs;rcases xd h I with J|⟨Q,D,J,_⟩
   ·simp at J
   have:Q=v:=by rw[Z] at D;exact(gB D).symm
   subst this;exact⟨_,s,g.γ,j,h,J.any rfl rfl _,rfl,.refl _,.refl _⟩
  ·simp at j
 ·rename_i p t0 lo hi;obtain⟨x,I,j⟩:=ry j;obtain⟨a,len,cap,a',N,Z,rfl,J,h2,h3,S,M,h6⟩:=H.sl p t0 lo hi rfl;split at j
  ·rename_i d t xs;obtain⟨Y,cB⟩:=bQ.1 j;have Y:t=t0:=ef Y;subst Y;rcases xd h I with P|⟨Q,D,P,_⟩
   ·simp at P
   have:Q=.slice a len cap:=by rw[Z] at D;exact(gB D).symm
   subst this;split at cB
   ·obtain⟨ys,ma,lG⟩:=dw.1 cB;obtain⟨⟨h8,h9,eg⟩,rfl⟩:=wW.1 ma;obtain⟨A,y,il,B6,Te,ab,ad⟩:=WA h p lG;have:=ab _ _ I rfl P;exact⟨_,A,y,il,B6,Rd.Lb this h8 h9 eg S M,rfl,Te.mono (λq U=>⟨p,.sl _ _ _,U.symm⟩),ad⟩
   ·obtain⟨u,hu,lG⟩:=dw.1 cB;have aa:=nG.1 hu;simp only[ur,bH] at aa;obtain⟨rfl,Tf⟩:=aa;obtain⟨A,y,h8,h9,eg,il,B6⟩:=QS (n:=n) (π0:=π0) h p I rfl P lG;refine⟨_,A,y,h8,h9,?_,rfl,il.mono (λq U=>⟨p,.sl _ _ _,U.symm⟩),B6⟩;have e0:hi.toNat-(0:Int).toNat=xs.length:=by simp;omega
    rw[e0] at M⊢;rcases eg.mR with⟨rfl,a0,F⟩|⟨q,p',b,o,Ml,cs,e,fr,f,hm,F,hl,am,hh,lH,hs,hc,hr⟩
    ·simp only[Value.slice.injEq] at F;obtain⟨_,_,rfl⟩:=F;have:N=0:=by omega
     subst this;exact .j6 _ _ _ _
    ·simp only[Value.slice.injEq] at F;obtain⟨rfl,rfl,rfl⟩:=F;rw[hm];rcases S with rfl|⟨b',o',hb,rfl⟩
     ·have:xs=[]:=Us (by omega);subst this;exact .j6 _ _ _ _
     ·simp only[aQ,Addr.mk.injEq,jI] at hb;obtain⟨rfl,rfl⟩:=hb;have ao:N*aA t<=cap*aA t:=od _ (by simpa using h6);simp only[Int.toNat_zero,Oh,uQ];exact .kY _ _ _ _ _ _ _ _ cs e fr f M am hh lH (by omega) hc hr
  ·rename_i t xs;obtain⟨Y,cB⟩:=bQ.1 j;have Y:t=t0:=ef Y;subst Y;obtain⟨ys,ma,lG⟩:=dw.1 cB;obtain⟨⟨h8,h9,eg⟩,rfl⟩:=wW.1 ma;rcases xd h I with P|⟨Q,D,P,_⟩
   ·simp at P
   have:Q=.slice a len cap:=by rw[Z] at D;exact(gB D).symm
   subst this;exact⟨_,s,g.γ,lG,h,Rd.Lb P h8 h9 eg S M,rfl,.refl _,.refl _⟩
  ·simp at j
 ·exact⟨_,s,g.γ,j,h,H.pl rfl,rfl,.refl _,.refl _⟩
 ·exact⟨_,s,g.γ,j,h,H.pl rfl,rfl,.refl _,.refl _⟩
 ·exact⟨_,s,g.γ,j,h,(H.pl rfl).DT,rfl,.refl _,.refl _⟩
 ·exact⟨_,s,g.γ,j,h,H.pl rfl,rfl,.refl _,.refl _⟩
 ·exact⟨_,s,g.γ,j,h,H.pl rfl,rfl,.refl _,.refl _⟩
 ·exact⟨_,s,g.γ,j,h,H.pl rfl,rfl,.refl _,.refl _⟩
 ·exact⟨_,s,g.γ,j,h,H.pl rfl,rfl,.refl _,.refl _⟩
 ·exact⟨_,s,g.γ,j,h,H.pl rfl,rfl,.refl _,.refl _⟩
 ·simp at j
theorem Xt{C:Cx}{E:Env}{w:World}{R:Type}{r:R}{m:Bool->Pl->Bool}{n:Nat}:∀(vs:List TV){s:TS}{g:Gs}{D:List Value}{j0:Nat}{K:List TV->TS->Option R},Rel C E s g w->D.length=vs.length->
  (∀(j:Nat)a v,vs[j]?=some a->D[j]?=some v->tw (g.rc C w) (.aw n,[(0,j0+j)]) a v)->rU C m vs s K=some r->
  ∃A M e,K A M=some r/\Rel C E M {g with γ:=e} w/\A.length=vs.length/\(∀a∈A,bC a=true)/\(∀(j:Nat)a v,A[j]?=some a->D[j]?=some v->Rd (Gs.rc C {g with γ:=e} w) (some (.aw n,[(0,j0+j)])) a v)/\FK (Zv vs) g.γ e/\dL M s
 |[],s,g,D,j0,K,h,I,J,F=>⟨[],s,g.γ,F,h,rfl,by simp,by simp,.refl _,.refl _⟩
 |v::vs,s,g,[],j0,K,h,I,J,F=>by simp at I
 |v::vs,s,g,x::D,j0,K,h,I,J,F=>by
  simp only[rU] at F;obtain⟨Y,s1,Z,h1,h2,h3,S,U,h6⟩:=R7 h (J 0 v x rfl rfl) F;obtain⟨A,s2,N,k1,k2,k3,k4,k5,k6,k7⟩:=Xt vs (j0:=j0+1) h2 (by simpa using I) (λj a u H y=>by
   have h0:=(J (j+1) a u (by simpa using H) (by simpa using y)).fk U (λn⟨p,_,h⟩=>jo p n h)
   rwa[show j0+(j+1)=j0+1+j by omega] at h0) h1;refine⟨Y::A,s2,N,k1,k2,by simp[k3],λa P=>?_,λj a u H y=>?_,(U.mono (λq⟨p,Q,hq⟩=>⟨v,by simp,p,Q,hq⟩)).trans (k6.mono (λq⟨u,y,Q⟩=>⟨u,by simp[y],Q⟩)),k7.trans h6⟩
  ·rcases cO.1 P with rfl|P
   ·exact S
   ·exact k4 a P
  ·cases j with
   |zero=>
    simp at H y;subst H;subst y;exact h3.fk S k6 (ac2 vs)
   |succ j=>
    rw[show j0+(j+1)=j0+1+j by omega];exact k5 j a u (by simpa using H) (by simpa using y)
end
def Gs.set(g:Gs)(d:Nat)(v:Value):Gs:={g with tm:=λj=>if j=d then v else g.tm j}
def Gs.put(g:Gs)(d:Option Nat)(v:Value):Gs:=
 match d with
 |some d=>g.set d v
 |none=>g
structure cD(nt:Nat)(g:Gs)(a:Act):Prop where
 df:a.defers=[]
 sz:a.tmps.size=nt
 tm:∀k,k<nt->a.tmps.getD k undef=g.tm k
def gN(a:Nat):Option Nat->Prop|some d=>d<a|none=>True
theorem cD.put{e:Nat}{g:Gs}{a:Act}{d:Option Nat}{v:Value}(h:cD e g a)(x:gN e d):cD e (g.put d v) (a.put d v):=by
 cases d with
 |none=>exact h
 |some d=>
  refine⟨h.df,by simpa[Act.put] using h.sz,λk u=>?_⟩;simp only[Act.put,Gs.put,Gs.set,yw]
  by_cases j:k=d
  ·subst j;rw[ayu (by rw[h.sz];exact u),aD rfl];rfl
  ·rw[akt (q7 j),aE j,<-yw];exact h.tm k u
theorem cD.same{e:Nat}{g g':Gs}{a:Act}(h:cD e g a)(j:g'.tm=g.tm):cD e g' a:=⟨h.df,h.sz,λk u=>by rw[j];exact h.tm k u⟩
def fJ:TV->Bool|.own _ _ _|.gJ _ _ _ _|.agg _|.dM _=>false|_=>true
theorem Rd.anyM{c:Rc}{m:Option Gp}{y:TV}{v:Value}(h:Rd c m y v)(x:fJ y=true)(E:Option Gp):Rd c E y v:=by
 cases h with
 |un=>exact .un _ _
 |b=>exact .b _ _
 |i=>exact .i _ _ _
 |s=>exact .s _ _
 |nil=>exact .nil _
 |gU=>exact .gU _ _
 |lE=>exact .lE _ _ _ _
 |pP _ _ _ _ _ _ f F A C D=>exact .pP _ _ _ _ _ _ f F A C D
 |sZ=>exact .sZ _ _ _
 |s7 _ _ _ _ _ f A C D=>exact .s7 _ _ _ _ _ f A C D
 |j6=>simp[fJ] at x
 |kY=>simp[fJ] at x
 |gJ=>simp[fJ] at x
 |vec _ _ _ H=>exact .vec _ _ _ H
 |vw _ _ _ _ a e=>exact .vw _ _ _ _ a e
 |pa _ _ _ _ _ _ a e j u=>exact .pa _ _ _ _ _ _ a e j u
 |sl _ _ _ _ _ _ _ _ _ _ a e j u I h6 J M=>exact .sl _ _ _ _ _ _ _ _ _ _ a e j u I h6 J M
 |ptr=>exact .ptr _ _ _
 |pe _ _ _ h0=>exact .pe _ _ _ h0
 |ep _ _ _ _ _ _ _ _ _ a e j u=>exact .ep _ _ _ _ _ _ _ _ _ a e j u
 |ip _ _ _ _ _ f a e j u=>exact .ip _ _ _ _ _ f a e j u
 |iv _ _ _ _ _ a e j=>exact .iv _ _ _ _ _ a e j
 |agg=>simp[fJ] at x
 |dM=>simp[fJ] at x
 |fn _ _ _ _ a e j=>exact .fn _ _ _ _ a e j
 |mY=>exact .mY _
 |np=>exact .np _
 |vP=>exact .vP _ _ _
 |vQ=>exact .vQ _
theorem Rd.R8{c:Rc}{m:Option Gp}{a:TV}{v:Value}(h:Rd c m a v){p:Pl}(x:MV p a):∃u,c.va p=some u:=by
 cases x with
 |vw=>cases h;exact⟨_,by assumption⟩
 |pa=>cases h;exact⟨_,by assumption⟩
 |sl=>cases h;exact⟨_,by assumption⟩
 |ep=>cases h;exact⟨_,by assumption⟩
 |agg E t y=>
  cases h with
  |agg _ _ vs F H I A=>
   obtain⟨j,C,D⟩:=q9 y;have e:=A j _ (vs[j]'(by omega)) (by rw[cT C,D]) (jX _);generalize lZ m 0 j=J at e;cases e;exact⟨_,by assumption⟩
theorem R9{vs:Nat->Bool}{tm:Nat->Value}{bx:Nat->Nat}{w:World}:∀{p:Pl}{u:Value}{d:Nat},va vs tm bx w p=some u->qv p=some d->vs d=true
 |.slot k,u,d,h,a=>by
  simp only[qv,aQ] at a;subst a;simp only[va] at h;split at h
  ·assumption
  ·simp at h
 |.cell _ _,u,d,h,a=>by simp[qv] at a
 |.sub p t r c,u,d,h,a=>by
  simp only[va] at h;split at h
  ·rename_i e;exact R9 e a
  ·simp at h
theorem VR{vs:Nat->Bool}{tm:Nat->Value}{bx:Nat->Nat}{w:World}:∀{p:Pl}{u:Value}{d:Nat},va vs tm bx w p=some u->qv p=some d->p.jP=true->∃a len cap,tm d=.slice a len cap
 |.slot k,u,d,h,e,x=>by simp[Pl.jP] at x
 |.cell _ _,u,d,h,e,x=>by simp[Pl.jP] at x
 |.sub p t r c,u,d,h,e,_=>by
  simp only[va] at h;split at h
  ·rename_i b o len cap j;cases p with
   |slot k=>
    simp only[qv,aQ] at e;subst e;simp only[va] at j;split at j
    ·exact⟨_,_,_,gB j⟩
    ·simp at j
   |cell _ _=>simp[qv] at e
   |sub y A C D=>exact VR j e rfl
  ·simp at h
theorem afu{c:Rc}{m:Option Gp}(v:Value):Rd c m (tq v) v:=by
 unfold tq;split
 ·exact .b _ _
 ·exact .i _ _ _
 ·rename_i x;have:(⟨⟨x.data.toList⟩⟩:ByteArray)=x:=by cases x;simp
  have h:=Rd.s (c:=c) m x.data.toList;rwa[this] at h
 ·exact .nil _
 ·exact .mY _
 ·exact .np _
 ·exact .un _ _
theorem aei(v:Value):fJ (tq v)=true:=by
 unfold tq;split<;>rfl
theorem Lr(v:Value)(h:∀a,v≠.agg a):B1 v=tq v:=by
 cases v<;>first|rfl|exact absurd rfl (h _)
def Zl:Value->Bool|.agg a=>a.all λv=>v.oneCell'&&lh (tq v)|_=>true
def dW(a:Nat):Operand->Bool|.tmp k=>Nat.blt k a|.const v=>Zl v|_=>true
theorem afv{c:Rc}{m:Option Gp}(v:Value)(u:Zl v=true):Rd c m (B1 v) v:=by
 cases v with
 |agg D=>
  simp only[B1];simp only[Zl,Array.all_eq_true_iff_forall_mem] at u;refine .agg _ _ _ (λy A=>?_) (by simp) (λj y v e x=>?_) (λj y v e x=>?_)
  ·simp only[gQ,Array.mem_toList_iff] at A;obtain⟨a,C,rfl⟩:=A;have:=u a C;simp at this;exact this.2
  ·have:=u v (aku x);simp at this;exact this.1
  ·rw[ir,ni,x] at e;simp only[jA,aQ] at e;subst e;exact afu v
 |_=>rw[Lr _ (by simp)];exact afu _
def iX:Operand->Option Gp|.tmp k=>some (.slot k,[])|_=>none
theorem aqY{C:Cx}{E:Env}{s:TS}{g:Gs}{w:World}(h:Rel C E s g w)(k:Nat):Rd (g.rc C w) (some (.slot k,[])) (o9 C k (s.slot k)) (g.tm k):=by
 have h0:=h.eK k;have a:∀t,Rd (g.rc C w) (some (.slot k,[])) (bif C.vs k then .vw (.slot k) t else .un) (g.tm k):=λt=>by
  cases e:C.vs k with
  |true=>exact .vw _ _ _ _ trivial (by simp only[Gs.rc,va];rw[aD e])
  |false=>exact .un _ _
 unfold o9;split
 ·exact a _
 ·exact a _
 ·exact h0
theorem iS{C:Cx}{E:Env}{s:TS}{g:Gs}{w:World}{e:Nat}{a:Act}(h:Rel C E s g w)(l:cD e g a){x:Operand}(hx:dW e x=true):Rd (g.rc C w) (iX x) (aU C s x) (a.eval x):=by
 cases x with
 |tmp k=>
  simp only[aU,Act.eval,iX];rw[l.tm k (by simpa[dW,wO] using hx)];exact aqY h k
 |const v=>exact afv v hx
 |global i=>exact h.gl i
 |func n=>exact .fn _ _ _ _ (by simp) (by simp) (by simp)
theorem Pz{C:Cx}{s:TS}(e:∀i,fJ (C.gl i)=true){x:Operand}:(∃a,aU C s x=.agg a)\/(∃a,aU C s x=.dM a)\/fJ (aU C s x)=true:=by
 cases x with
 |tmp k=>
  simp only[aU];cases j:s.slot k<;>simp[o9,fJ]<;>(try(cases C.vs k<;>simp))
 |const v=>
  cases v with
  |agg a=>exact .inl ⟨_,rfl⟩
  |_=>exact .inr (.inr (by simp only[aU];rw[Lr _ (by simp)];exact aei _))
 |global i=>exact .inr (.inr (e i))
 |func n=>exact .inr (.inr rfl)
theorem X5{C:Cx}{E:Env}{s:TS}{g:Gs}{w:World}{k:Nat}(h:Rel C E s g w)(x:∀a len cap,g.tm k≠.slice a len cap):∀j p,MV p (s.slot j)->(gp p).1=.slot k->p.jP=true->False:=λj p y A D=>by
 obtain⟨u,F⟩:=(h.eK j).R8 y;obtain⟨a,len,cap,e⟩:=VR F (A3.2 A) D;exact x _ _ _ e
theorem H9{C:Cx}{E:Env}{s:TS}{g:Gs}{w:World}{P n:Nat}{a:Act}(h:Rel C E s g w)(l:cD P g a)(U:∀i,fJ (C.gl i)=true){x:Operand}(hx:dW P x=true):
  ∃γ',Rel C E (iD s x) {g with γ:=γ'} w/\Rd (Gs.rc C {g with γ:=γ'} w) (some (.aw n,[])) (aU C s x) (a.eval x)/\FK (λq=>∃k,x=.tmp k/\q=.slot k) g.γ γ':=by
 have Y:=iS h l hx;have F:fJ (aU C s x)=true->iD s x=s->∃γ',Rel C E (iD s x) {g with γ:=γ'} w/\Rd (Gs.rc C {g with γ:=γ'} w) (some (.aw n,[])) (aU C s x) (a.eval x)/\FK (λq=>∃k,x=.tmp k/\q=.slot k) g.γ γ':=
  λZ I=>⟨g.γ,by rw[I];exact h,Y.anyM Z _,.refl _⟩;cases x with
 |tmp k=>
  have Q:(∀u,s.slot k=u->aU C s (.tmp k)=u->(∀a len cap,g.tm k≠.slice a len cap)->Rd (g.rc C w) (some (.slot k,[])) u (g.tm k)->fJ u=false->(∀p,¬ MP p u)->(∀i,¬ MB i u)->iD s (.tmp k)=s.raw k .un->
    ∃γ',Rel C E (iD s (.tmp k)) {g with γ:=γ'} w/\Rd (Gs.rc C {g with γ:=γ'} w) (some (.aw n,[])) (aU C s (.tmp k)) (a.eval (.tmp k))/\FK (λq=>∃R,Operand.tmp k=.tmp R/\q=.slot R) g.γ γ'):=by
   intro u j ho D y _ J M I
   have S:bw (cW (.slot k) []) g.γ w (bV g.γ (.slot k) [] (.aw n) []) w:=ri h.aC.new
   refine⟨bV g.γ (.slot k) [] (.aw n) [],?_,?_,(FK.bV Dq).mono (λq H=>⟨k,rfl,H⟩)⟩
   ·rw[I];exact h.R6 S (X5 h D) (.un _ _)
   ·rw[ho];have pg:a.eval (.tmp k)=g.tm k:=l.tm k (by simpa[dW,wO] using hx);rw[pg];refine y.mono _ (λb N=>⟨ua N,rfl⟩) (λq p H=>?_) (λi hi=>absurd hi (M i)) (λp A=>?_) (λp A=>absurd A (J p))
    ·simp only[aQ,cZ] at H;obtain⟨rfl,rfl⟩:=H;exact⟨_,_,rfl,λb π N=>⟨DH N,rfl⟩⟩
    ·have:=abt (γ':=bV g.γ (.slot k) [] (.aw n) []) h S (X5 h D) k;exact this.va p (by rw[j];exact A)
  cases j:s.slot k with
  |agg u=>
   have y:=h.eK k;rw[j] at y;have D:∀a len cap,g.tm k≠.slice a len cap:=λa len cap e=>by rw[e] at y;cases y
   exact Q _ j (by simp[aU,j,o9]) D y rfl (λp A=>by cases A) (λi hi=>by cases hi) (by simp[iD,j])
  |dM u=>
   have y:=h.eK k;rw[j] at y;have D:∀a len cap,g.tm k≠.slice a len cap:=λa len cap e=>by rw[e] at y;cases y
   exact Q _ j (by simp[aU,j,o9]) D y rfl (λp A=>by cases A) (λi hi=>by cases hi) (by simp[iD,j])
  |_=>exact F (by simp only[aU,j,o9];first|rfl|(cases C.vs k<;>rfl)) (by simp[iD,j])
 |const v=>
  cases v with
  |agg u=>
   refine⟨g.γ,h,?_,.refl _⟩;exact afv (.agg u) hx
  |_=>exact F (by simp only[aU];rw[Lr _ (by simp)];exact aei _) rfl
 |global i=>exact F (U i) rfl
 |func i=>exact F rfl rfl
theorem Rel.ag2{C:Cx}{E:Env}{s:TS}{g:Gs}{w:World}{n d:Nat}{y:TV}{v:Value}(h:Rel C E s g w)(N:Rd (g.rc C w) (some (.aw n,[])) y v)(a:∀j p,MV p (s.slot j)->(gp p).1≠.slot d)(P:∀p,MV p y->(gp p).1≠.slot d):
  Rel C E (s.raw d y) (Gs.set {g with γ:=bV g.γ (.aw n) [] (.slot d) []} d v) w:=by
 have D:bw (cW (.aw n) []) g.γ w (Gs.set {g with γ:=bV g.γ (.aw n) [] (.slot d) []} d v).γ w:=ri h.aC.new;have I:∀p,(gp p).1≠.slot d->(Gs.rc C (Gs.set {g with γ:=bV g.γ (.aw n) [] (.slot d) []} d v) w).va p=(g.rc C w).va p/\(VO (g.rc C w) p->VO (Gs.rc C (Gs.set {g with γ:=bV g.γ (.aw n) [] (.slot d) []} d v) w) p):=λp u=>by
  have J:∀k,qv p=some k->C.vs k=true->(Gs.set {g with γ:=bV g.γ (.aw n) [] (.slot d) []} d v).tm k=g.tm k:=λk a _=>by
   simp only[Gs.set]
   exact aE (λe=>u (by rw[<-e];exact A3.1 a))
  have F:va C.vs (Gs.set {g with γ:=bV g.γ (.aw n) [] (.slot d) []} d v).tm g.bx w p=va C.vs g.tm g.bx w p:=by
   have:∀q:Pl,qv q=qv p->va C.vs (Gs.set {g with γ:=bV g.γ (.aw n) [] (.slot d) []} d v).tm g.bx w q=va C.vs g.tm g.bx w q:=by
    intro q x
    induction q with
    |slot k=>
     simp only[va]
     by_cases a:C.vs k=true
     ·rw[aD a,aD a,J k (by rw[<-x];rfl) a]
     ·rw[aE a,aE a]
    |cell=>rfl
    |sub q t r c Q=>simp only[va];rw[Q x]
   exact this p rfl
  refine⟨F,λR=>?_⟩;exact(oU (C:=C) (g:=g) (g':=Gs.set {g with γ:=bV g.γ (.aw n) [] (.slot d) []} d v) D p R (qj D λq x _ hx=>jo q n hx.1) J (λk _=>⟨rfl,λhx=>by simp[cW] at hx⟩)).2
 refine h.pf D (λj=>?_) (λj=>.inr ⟨rfl,rfl,λp hx=>by simp[cW] at hx⟩)
 by_cases H:j=d
 ·subst H
  left
  have S:(Gs.set {g with γ:=bV g.γ (.aw n) [] (.slot j) []} j v).tm j=v:=by simp[Gs.set]
  rw[S];rcases AD s j y with e|e<;>rw[e]
  ·refine N.mono _ (λb A=>⟨ua A,rfl⟩) (λq p x=>?_) (λ_ _=>rfl) (λp u=>I p (P p u)) (λp u b M A=>⟨AS A (λhx=>jo p n hx.1),rfl⟩);simp only[aQ,cZ] at x;obtain⟨rfl,rfl⟩:=x;exact⟨_,_,rfl,λb M A=>⟨DH A,rfl⟩⟩
  ·exact .un _ _
 ·refine .inr ⟨uT s y H,by simp only[Gs.set];exact aE H,λp hx=>by simp[cW] at hx,?_⟩;exact⟨λ_ _=>rfl,λp u=>I p (a j p u),λp u M hx=>jo p n hx.1⟩
theorem Rel.put{C:Cx}{E:Env}{s:TS}{g:Gs}{w:World}{n:Nat}{d:Option Nat}{A:TV}{v:Value}(h:Rel C E s g w)(x:Rd (g.rc C w) (some (.aw n,[])) A v):
  ∃γ',Rel C E (cz C s d A) (Gs.put {g with γ:=γ'} d v) w/\FK (λq=>q=.aw n) g.γ γ':=by
 cases d with
 |none=>exact⟨g.γ,h,.refl _⟩
 |some d=>
  refine⟨bV g.γ (.aw n) [] (.slot d) [],?_,.bV Dw⟩;simp only[cz,TS.put,Gs.put];cases D:C.vs d with
  |true=>
   refine(h.kill (Pl.nc d)).ag2 (x.kill (Pl.nc d)) (λj p a e=>?_) (λp a e=>?_)
   ·rw[tY] at a;have:=(xc a).2;rw[Bd.2 e] at this;simp at this
   ·have:=(xc a).2;rw[Bd.2 e] at this;simp at this
  |false=>
   refine h.ag2 x (λj p a e=>?_) (λp a e=>?_)
   ·obtain⟨u,y⟩:=(h.eK j).R8 a;have:=R9 y (A3.2 e);rw[D] at this;simp at this
   ·obtain⟨u,y⟩:=x.R8 a;have:=R9 y (A3.2 e);rw[D] at this;simp at this
end Go.Sd
namespace Go.Sd
open Go Go.RowKit
open Go.Ev hiding World Event Rd
section
theorem Rd.rF{c:Rc}{m:Option Gp}{x:Bool}{v:Value}(h:Rd c m (.b x) v):v=.bool x:=by cases h;rfl
theorem Rd.kU{c:Rc}{m:Option Gp}{k:IntKind}{n:Int}{v:Value}(h:Rd c m (.i k n) v):v=.int k n:=by cases h;rfl
theorem Rd.pK{c:Rc}{m:Option Gp}{x:aj}{v:Value}(h:Rd c m (.s x) v):v=.string ⟨⟨x⟩⟩:=by cases h;rfl
def zC:TV->Value->Bool|.un,v=>v.oneCell'|.b x,.bool y=>x==y|.i k n,.int e j=>decide (k=e)&&decide (n=j)|.s x,.string y=>x==y.data.toList|.nil,.slice none 0 0=>true|.bJ _ [],.slice _ 0 0=>true|_,_=>false
def kN:List TV->List Value->Bool|[],[]=>true|t::e,v::vs=>zC t v&&kN e vs|_,_=>false
theorem agw{c:Rc}{m:Option Gp}{tv:TV}{v:Value}(h:zC tv v=true):Rd c m tv v/\v.oneCell'=true/\eE tv=true:=by
 unfold zC at h;split at h
 ·exact⟨.un _ _,h,rfl⟩
 ·simp at h;subst h;exact⟨.b _ _,rfl,rfl⟩
 ·simp at h;obtain⟨rfl,rfl⟩:=h;exact⟨.i _ _ _,rfl,rfl⟩
 ·rename_i x y;simp at h;have:(⟨⟨x⟩⟩:ByteArray)=y:=by cases y;rename_i d;cases d;simp at h;simp[h]
  rw[<-this];exact⟨.s _ _,rfl,rfl⟩
 ·exact⟨.nil _,rfl,rfl⟩
 ·exact⟨.lE _ _ _ _,rfl,rfl⟩
 ·simp at h
theorem HL{c:Rc}{m:Nat->Option Gp}:∀{e:List TV}{vs:List Value},kN e vs=true->vs.length=e.length/\∀(j:Nat)tv v,e[j]?=some tv->vs[j]?=some v->Rd c (m j) tv v/\v.oneCell'=true/\eE tv=true
 |[],[],_=>⟨rfl,by simp⟩
 |[],_::_,h=>by simp[kN] at h
 |_::_,[],h=>by simp[kN] at h
 |t::e,v::vs,h=>by
  simp only[kN,bo] at h;obtain⟨A,D⟩:=h;obtain⟨F,H⟩:=HL (m:=λj=>m (j+1)) D;refine⟨by simp[F],λj tv u x y=>?_⟩;cases j with
  |zero=>simp at x y;subst x;subst y;exact agw A
  |succ j=>exact H j tv u (by simpa using x) (by simpa using y)
def s9(P:Program)(t:TypeId):Bool:=
 match P.underlying t with
 |some (.struct _)|some (.array _ _)=>true
 |_=>false
def nJ(P:Program)(t:TypeId):List Value:=
 match P.info? t with
 |some i=>
  match i.zero with
  |some z=>z.cells.toList
  |none=>[]
 |none=>[]
def zq(P:Program)(t:TypeId):Bool:=
 match P.info? t with
 |some i=>i.zero.isSome
 |none=>false
def M8(P:Program)(e:Ty)(j:TypeId):Bool:=
 match e,P.underlying j with
 |.int k,some (.int u)=>decide (k=u)
 |.str,some .string=>true
 |.bool,some .bool=>true
 |e,some (.struct _)=>Ev.fP e
 |_,_=>false
def Eb(P:Program)(e:Ty)(j:TypeId):Bool:=(P.cellsOf j==aA e)&&zq P j&&kN (Ev.enc false e (rV e)) (nJ P j)&&M8 P e j
def qk:List (Nat×Nat)->List Field->Bool|[],[]=>true|(e,j)::r,f::fs=>(e==f.offset)&&(j==f.type)&&(f.name != "_")&&qk r fs|_,_=>false
def nW(P:Program)(C:Cx)(n:Nat)(y:TI)(u:Option TypeDesc):Bool:=
    match y,u with
    |.bool,some .bool=>kN (zero C 4 n) (nJ P n)
    |.int k,some (.int A)=>decide (k=A)&&kN (zero C 4 n) (nJ P n)
    |.str,some .string=>kN (zero C 4 n) (nJ P n)
    |.sl e sz D,some (.slice j)=>Eb P e j&&(sz==aA e)&&(P.bytesOf j==D)&&kN (zero C 4 n) (nJ P n)
    |.st _ _ fs,some (.struct F)=>qk fs F.toList&&kN (zero C 4 n) (nJ P n)&&fs.all λp=>(C.aR p.2).var
    |.ar len e,some (.array x j)=>(len==x)&&Eb P e j&&(aA e==1)&&!(s9 P j)&&!(Ev.fP e)&&kN (List.replicate len (nth (Ev.enc false e (rV e)) 0)) (nJ P n)
    |.ptr,some (.pointer _)=>kN (zero C 4 n) (nJ P n)
    |.vM,some (.interface _)=>kN (zero C 4 n) (nJ P n)
    |_,_=>false
def jr(P:Program)(C:Cx)(n:Nat)(ti:TI):Bool:=
 match ti with
 |.other=>true
 |.iG=>Nat.beq n LY&&(zq P n&&(P.cellsOf n==2)&&(match nJ P n with|[.pointer none,.slice none 0 0]=>true|_=>false))
 |ti=>(P.cellsOf n==ti.sz)&&(s9 P n==ti.ag)&&Nat.blt 0 ti.sz&&zq P n&&
  nW P C n ti (P.underlying n)
structure eW(P:Program)(C:Cx):Prop where
 ty:∀n,jr P C n (C.aR n)=true
 gl:∀i,fJ (C.gl i)=true
theorem asC{P:Program}{C:Cx}(h:C.ty.all (λp=>jr P C p.1 p.2)=true)(n:Nat):jr P C n (C.aR n)=true:=by
 have j:∀(l:List (Nat×TI)),l.all (λp=>jr P C p.1 p.2)=true->jr P C n (mV l n)=true:=by
  intro l
  induction l with
  |nil=>intro _;rfl
  |cons p r u=>
   intro h
   simp only[Oi,bo] at h
   simp only[mV,VP]
   split
   ·rename_i e;rw[<-e];exact h.1
   ·exact u h.2
 exact j _ h
section
variable{P:Program}{C:Cx}{w:World}{n:Nat}
theorem U4{t:TypeId}(h:0<P.cellsOf t):∃i,P.info? t=some i/\i.size=P.cellsOf t:=by
 unfold Program.cellsOf at*;cases hi:P.info? t with
 |none=>simp[hi] at h
 |some i=>exact⟨i,rfl,rfl⟩
theorem AE{t:TypeId}(h:0<P.cellsOf t):(sizeOf t).run P w=.ok (P.cellsOf t) w:=by
 obtain⟨i,hi,e⟩:=U4 h;simp[sizeOf,typeInfo,hi,e]
theorem sN(h:jr P C n (C.aR n)=true)(j:(C.aR n).var=true):P.cellsOf n=(C.aR n).sz/\0<(C.aR n).sz/\s9 P n=(C.aR n).ag/\(∃d,P.underlying n=some d)/\zq P n=true:=by
 unfold jr at h;split at h
 ·rename_i e;rw[e] at j;simp[TI.var] at j
 ·rename_i e;rw[e] at j;simp[TI.var] at j
 ·simp only[bo,sy,wO] at h;obtain⟨⟨⟨⟨x,y⟩,A⟩,D⟩,u⟩:=h;refine⟨x,A,y,?_,D⟩;cases F:P.underlying n with
  |none=>rw[F] at u;unfold nW at u;split at u<;>simp_all
  |some d=>exact⟨d,rfl⟩
theorem GG{d:TypeDesc}(h:P.underlying n=some d):(isAgg n).run P w=.ok (s9 P n) w:=by
 simp only[isAgg,underlying,s9,Sem.run_bind,run_program,Result.andThen,h,Sem.run_pure];cases d<;>rfl
theorem Sa(e:TI)(h:e.ag=false):e.sz=1:=by cases e<;>simp_all [TI.ag,TI.sz]
theorem Sb{t:Ty}{m:Nat}{fs:List (Nat×Nat)}(h:jr P C n (C.aR n)=true)(x:C.aR n=.st t m fs):∃j,P.underlying n=some (.struct j)/\qk fs j.toList=true/\kN (zero C 4 n) (nJ P n)=true/\∀p∈fs,(C.aR p.2).var=true:=by
 rw[x] at h;simp only[jr,bo] at h;obtain⟨_,e⟩:=h;cases u:P.underlying n with
 |none=>rw[u] at e;simp[nW] at e
 |some d=>?_
 rw[u] at e;cases d<;>simp only[nW,bo,sy,mL,jJ,bH,reduceCtorEq] at e;exact⟨_,rfl,e.1.1,e.1.2,e.2⟩
theorem zg{e:Ty}{sz cF:Nat}(h:jr P C n (C.aR n)=true)(y:C.aR n=.sl e sz cF):∃u,P.underlying n=some (.slice u)/\Eb P e u=true/\sz=aA e/\P.bytesOf u=cF:=by
 rw[y] at h;simp only[jr,bo] at h;obtain⟨_,j⟩:=h;cases x:P.underlying n with
 |none=>rw[x] at j;simp[nW] at j
 |some d=>?_
 rw[x] at j;cases d<;>simp only[nW,bo,sy,mL,jJ,bH,reduceCtorEq] at j;exact⟨_,rfl,j.1.1.1,j.1.1.2,j.1.2⟩
theorem LZ{e:Ty}{len:Nat}(h:jr P C n (C.aR n)=true)(y:C.aR n=.ar len e):∃u,P.underlying n=some (.array len u)/\Eb P e u=true/\aA e=1/\s9 P u=false/\Ev.fP e=false/\kN (List.replicate len (nth (Ev.enc false e (rV e)) 0)) (nJ P n)=true:=by
 rw[y] at h;simp only[jr,bo] at h;obtain⟨_,j⟩:=h;cases x:P.underlying n with
 |none=>rw[x] at j;simp[nW] at j
 |some d=>?_
 rw[x] at j;cases d<;>simp only[nW,bo,sy,mL,jJ,bH,reduceCtorEq] at j;obtain⟨⟨⟨⟨⟨rfl,A⟩,D⟩,F⟩,H⟩,h6⟩:=j;exact⟨_,rfl,A,D,F,H,h6⟩
theorem apt(h:jr P C n (C.aR n)=true)(u:(C.aR n).var=true)(A:∀len e,C.aR n≠.ar len e):kN (zero C 4 n) (nJ P n)=true:=by
 cases x:C.aR n with
 |other=>rw[x] at u;simp[TI.var] at u
 |iG=>rw[x] at u;simp[TI.var] at u
 |ar len e=>exact absurd x (A len e)
 |_=>
  rw[x] at h;simp only[jr,bo] at h;obtain⟨_,j⟩:=h;cases y:P.underlying n with
  |none=>rw[y] at j;simp[nW] at j
  |some d=>
   rw[y] at j;cases d<;>simp only[nW,bo,reduceCtorEq,iJ] at j
   first|exact j|exact j.2|exact j.1.2
theorem yZ(h:jr P C n (C.aR n)=true)(u:C.aR n=.str):P.underlying n=some .string:=by
 rw[u] at h;simp only[jr,bo] at h;obtain⟨_,e⟩:=h;cases j:P.underlying n with
 |none=>rw[j] at e;simp[nW] at e
 |some d=>?_
 rw[j] at e;cases d<;>simp only[nW,bo,sy,mL,jJ,bH,reduceCtorEq] at e;rfl
theorem aej(h:jr P C n (C.aR n)=true)(u:C.aR n=.bool):P.underlying n=some .bool:=by
 rw[u] at h;simp only[jr,bo] at h;obtain⟨_,e⟩:=h;cases j:P.underlying n with
 |none=>rw[j] at e;simp[nW] at e
 |some d=>?_
 rw[j] at e;cases d<;>simp only[nW,bo,sy,mL,jJ,bH,reduceCtorEq] at e;rfl
theorem afw{k:IntKind}(h:jr P C n (C.aR n)=true)(u:C.aR n=.int k):P.underlying n=some (.int k):=by
 rw[u] at h;simp only[jr,bo] at h;obtain⟨_,e⟩:=h;cases j:P.underlying n with
 |none=>rw[j] at e;simp[nW] at e
 |some d=>?_
 rw[j] at e;cases d<;>simp only[nW,bo,sy,mL,jJ,bH,reduceCtorEq] at e;rw[e.1]
theorem aqZ(h:jr P C n (C.aR n)=true)(u:C.aR n=.vM):∃x,P.underlying n=some (.interface x):=by
 rw[u] at h;simp only[jr,bo] at h;obtain⟨_,e⟩:=h;cases j:P.underlying n with
 |none=>rw[j] at e;simp[nW] at e
 |some d=>?_
 rw[j] at e;cases d<;>simp only[nW,bo,sy,mL,jJ,bH,reduceCtorEq] at e;exact⟨_,rfl⟩
end
structure Out(C:Cx)(E:Env)(nt:Nat)(X:Rt->aZ->Prop)(d:Option Nat)(nb:Nat->Prop)(g:Gs)(w:World)(s':TS)(a':Act)(w':World)(g':Gs):Prop where
 rel:Rel C E s' g' w'
 Iy:cD nt g' a'
 fK:bw X g.γ w g'.γ w'
 tm:∀k,d≠some k->g'.tm k=g.tm k
 bx:∀k,¬ nb k->g'.bx k=g.bx k
def zt(P:Program)(o:Oper)(a:Act)(w:World)(u:Act->World->Prop):Prop:=∀(next:Act->World->Prop)(Q:Exit->Act->World->Prop),(∀e j,u e j->next e j)->o.wp P a w next Q
def XZ(Z:Rt->Prop)(q:Rt)(p:aZ):Prop:=(Z q\/∃n,q=.aw n)/\¬ lU q p
def gv{R:Type}(P:Program)(C:Cx)(E:Env)(nt:Nat)(o:Oper)(g:Gs)(a:Act)(w:World)(K:TS->Option R)(r:R)(Z:Rt->Prop):Prop:=∃e,K e=some r/\zt P o a w (λj u=>∃x,Out C E nt (XZ Z) o.dst (λ_=>False) g w e j u x)
theorem Ls(g:Gs)(d:Option Nat)(v:Value):(g.put d v).γ=g.γ:=by cases d<;>rfl
theorem Lt(g:Gs)(d:Option Nat)(v:Value):(g.put d v).bx=g.bx:=by cases d<;>rfl
theorem RD(g:Gs)(d:Option Nat)(v:Value)(k:Nat)(h:d≠some k):(g.put d v).tm k=g.tm k:=by
 cases d with
 |none=>rfl
 |some d=>simp only[Gs.put,Gs.set];exact aE (λe=>h (by rw[e]))
theorem FK.xz{Z:Rt->Prop}{γ e:Nat->G}{w:World}(h:FK (λq=>Z q\/∃n,q=.aw n) γ e)(j:∀b,w.heap.size<=b->γ b=.fr):bw (XZ Z) γ w e w:=h.fK j
section
variable{P:Program}{C:Cx}{E:Env}{nt n:Nat}{o:Oper}{s s1:TS}{g:Gs}{a:Act}{w:World}{R:Type}{r:R}{K:TS->Option R}{Z:Rt->Prop}{γ1:Nat->G}{tv:TV}{v:Value}
theorem uc(x:Rel C E s1 {g with γ:=γ1} w)(y:FK Z g.γ γ1)(A:∀b,w.heap.size<=b->g.γ b=.fr)(l:cD nt g a)(D:gN nt o.dst)(F:Rd (Gs.rc C {g with γ:=γ1} w) (some (.aw n,[])) tv v)
  (H:(execOp a.eval o).run P w=.ok (.value v) w)(e:K (cz C s1 o.dst tv)=some r):gv P C E nt o g a w K r Z:=by
 obtain⟨j,I,f2⟩:=x.put (d:=o.dst) F;refine⟨_,e,λnext Q J=>?_⟩;simp only[Oper.wp,H,Oper.upon];refine J _ _ ⟨_,I,(l.same (g':={g with γ:=j}) rfl).put D,?_,λk e=>RD _ _ _ _ e,λk _=>by rw[Lt]⟩;rw[Ls];exact FK.xz ((y.mono (λq u=>.inl u)).trans (f2.mono (λq u=>.inr ⟨n,u⟩))) A
theorem kS(h:Rel C E s g w)(l:cD nt g a)(e:gN nt o.dst){m:Option Gp}(j:Rd (g.rc C w) m tv v)(u:fJ tv=true)(x:(execOp a.eval o).run P w=.ok (.value v) w)(y:K (cz C s o.dst tv)=some r):gv P C E nt o g a w K r Z:=uc (n:=0) (γ1:=g.γ) h (.refl _) h.aC.new l e (j.anyM u _) x y
theorem gv.mono{Z':Rt->Prop}(h:gv P C E nt o g a w K r Z)(hz:∀q,Z q->Z' q):gv P C E nt o g a w K r Z':=by
 obtain⟨j,u,x⟩:=h;refine⟨j,u,λnext Q y=>x next Q (λA D⟨F,e⟩=>y A D ⟨F,{e with fK:=e.fK.mono (λq p hx=>⟨hx.1.imp (hz q) id,hx.2⟩)}⟩)⟩
def uC(x:Operand)(q:Rt):Prop:=∃k,x=.tmp k/\q=.slot k
theorem QU(hC:eW P C)(h:Rel C E s g w)(l:cD nt g a)(u:gN nt o.dst){x:Operand}(e:o.op=.move x)(hx:dW nt x=true)(j:Ev.step C o s K=some r):gv P C E nt o g a w K r (uC x):=by
 simp only[Ev.step,e] at j;obtain⟨γ1,y,A,D⟩:=H9 (n:=0) h l hC.gl hx;exact uc y D h.aC.new l u A (by simp[execOp,e]) j
theorem WB(hC:eW P C)(h:Rel C E s g w)(l:cD nt g a)(J:gN nt o.dst){c x y:Operand}(A:o.op=.pick c x y)(M:dW nt c=true)(hx:dW nt x=true)(N:dW nt y=true)(e:Ev.step C o s K=some r):
  gv P C E nt o g a w K r (λq=>uC x q\/uC y q):=by
 simp only[Ev.step,A] at e;split at e
 ·rename_i b Q;have j:=iS h l M;rw[Q] at j;have u:=j.rF;rcases G5.1 e with⟨rfl,e⟩|⟨rfl,e⟩
  ·obtain⟨γ1,D,F,H⟩:=H9 (n:=0) h l hC.gl hx;exact uc D (H.mono λq I=>.inl I) h.aC.new l J F (by simp[execOp,A,u,asBool]) e
  ·obtain⟨γ1,D,F,H⟩:=H9 (n:=0) h l hC.gl N;exact uc D (H.mono λq I=>.inr I) h.aC.new l J F (by simp[execOp,A,u,asBool]) e
 ·simp at e
theorem aek{R:Type}{r:R}{c:Rc}{m:Option Gp}{p:TV}{u:Value}{n:Nat}{K:TV->Option R}(h:Rd c m p u)(e:uv p n K=some r):∃b F H,u=.pointer (some ⟨b,F,none⟩)/\K H=some r/\Rd c m H (.pointer (some ⟨b,F+n,none⟩))/\fJ H=true:=by
 have I:∀x y:Nat,x+Nat.add y n=x+y+n:=λx y=>(ra x y n).symm;cases p with
 |ptr k j=>
  simp only[uv] at e;cases h;exact⟨_,_,_,rfl,e,.ptr _ _ _,rfl⟩
 |ep p t i j=>
  simp only[uv] at e;cases h;rename_i J M A D;refine⟨_,_,_,rfl,e,?_,rfl⟩;rw[<-I];exact Rd.ep m p t i (Nat.add j n) _ _ _ _ J M A D
 |ip N j=>
  simp only[uv] at e;cases h with
  |ip _ _ _ b o f Q S A D=>?_
  refine⟨_,_,_,rfl,e,?_,rfl⟩;rw[<-I];exact Rd.ip m N (Nat.add j n) _ _ f Q S A D
 |pe k i=>
  simp only[uv] at e;obtain⟨A,D⟩:=bQ.1 e;have:n=0:=gr A;subst this;cases h;exact⟨_,_,_,rfl,D,.pe _ _ _ (by assumption),rfl⟩
 |iv t U=>
  simp only[uv] at e;obtain⟨A,D⟩:=bQ.1 e;have:n=0:=gr A;subst this;cases h;exact⟨_,_,_,rfl,D,.iv _ _ _ _ _ (by assumption) (by assumption) (by assumption),rfl⟩
 |_=>simp[uv] at e
theorem PA(a:Addr)(h:a.spot=none)(n:Nat):a.add n=⟨a.block,a.off+n,none⟩:=by
 cases a;simp_all [Addr.add]
theorem aa6(h:Rel C E s g w)(l:cD nt g a)(u:gN nt o.dst){x:Operand}(e:o.op=.nilCheck x)(hx:dW nt x=true)(j:Ev.step C o s K=some r):gv P C E nt o g a w K r Z:=by
 simp only[Ev.step,e] at j;obtain⟨b,y,I,A,D,F,H⟩:=aek (iS h l hx) j;exact kS h l u F H (by simp[execOp,e,A]) D
theorem UR:∀{fs:List (Nat×Nat)}{x:List Field}{j e u:Nat},qk fs x=true->pN fs j=some (e,u)->∃f,x[j]?=some f/\f.offset=e/\f.type=u/\(e,u)∈fs
 |[],_,_,_,_,_,h=>by simp[pN] at h
 |_::_,[],_,_,_,h,_=>by simp[qk] at h
 |(o',A)::fs,f::x,0,e,u,h,y=>by
  simp only[qk,bo,sy] at h;simp only[pN,aQ,cZ] at y;obtain⟨rfl,rfl⟩:=y;exact⟨f,rfl,h.1.1.1.symm,h.1.1.2.symm,by simp⟩
 |(o',A)::fs,f::x,j+1,e,u,h,y=>by
  simp only[qk,bo,sy] at h;obtain⟨D,F,H,I,J⟩:=UR h.2 (by simpa[pN] using y);exact⟨D,by simpa using F,H,I,by simp[J]⟩
theorem aaZ(hC:eW P C)(h:Rel C E s g w)(l:cD nt g a)(A:gN nt o.dst){t:Nat}{x:Operand}{j:Nat}(u:o.op=.fieldAddr t x j)(hx:dW nt x=true)(e:Ev.step C o s K=some r):gv P C E nt o g a w K r Z:=by
 simp only[Ev.step,u] at e;split at e
 ·rename_i t' m fs D;split at e
  ·rename_i F ft H;obtain⟨gs,I,J,_,M⟩:=Sb (hC.ty t) D;obtain⟨f,y,rfl,rfl,N⟩:=UR J H;obtain⟨b,Q,p',S,U,Y,ha⟩:=aek (iS h l hx) e;obtain⟨iY,iM,_⟩:=sN (hC.ty f.type) (M _ N);have hs:=AE (P:=P) (w:=w) (t:=f.type) (by omega);have bS:¬ P.cellsOf f.type=0:=by omega
   rw[ni] at y;refine kS h l A Y ha ?_ U;simp[execOp,u,Instr.fieldAt,underlying,I,y,S,Instr.sureAddr,Go.fieldPlace,hs,bS,PA]
  ·simp at e
 ·simp at e
theorem ael(h:Rel C E s g w)(l:cD nt g a)(D:gN nt o.dst){op:UnOp}{t:Nat}{x:Operand}(A:o.op=.unOp op t x)(hx:dW nt x=true)(e:Ev.step C o s K=some r):gv P C E nt o g a w K r Z:=by
 simp only[Ev.step,A] at e;have j:=iS h l hx;unfold Tb at e;split at e
 ·rename_i k n u;rw[u] at j;have y:=j.kU;exact kS h l D (.i none k _) rfl (by simp[execOp,A,y,Op.unary,Op.intArith,fO]) e
 ·rename_i b u;rw[u] at j;have y:=j.rF;exact kS h l D (.b none _) rfl (by simp[execOp,A,y,Op.unary,ay]) e
 ·rename_i k n u;rw[u] at j;have y:=j.kU;exact kS h l D (.i none k _) rfl (by simp[execOp,A,y,Op.unary,Op.intBits,xC,dA]) e
 ·simp at e
theorem aaW(hC:eW P C)(h:Rel C E s g w)(l:cD nt g a)(H:gN nt o.dst){t:Nat}{x:Operand}(A:o.op=.makeInterface t x)(j:Ev.step C o s K=some r)(I:C.aR t≠.iG):gv P C E nt o g a w K r Z:=by
 simp only[Ev.step,A] at j;have J:(C.aR t).var=true->C.aR t≠.vM->K (cz C s o.dst (.er true))=some r->gv P C E nt o g a w K r Z:=λu hi j=>by
  obtain⟨_,_,_,⟨d,D⟩,_⟩:=sN (hC.ty t) u
  refine kS h l H (.vP none t (a.eval x)) rfl ?_ j
  simp only[execOp,A,Instr.makeInterface,underlying,Sem.run_bind,run_program,Result.andThen,D,Sem.run_pure]
  cases d<;>first|rfl|skip
  exfalso
  have:=hC.ty t
  unfold jr at this
  split at this
  ·rename_i e;rw[e] at u;simp[TI.var] at u
  ·rename_i e;rw[e] at u;simp[TI.var] at u
  ·simp only[bo] at this;obtain⟨_,F⟩:=this;rw[D] at F;generalize C.aR t=y at*;cases y<;>simp[nW] at F hi
 split at j
 ·simp at j
 ·simp at j
 ·rename_i M N;refine J ?_ (λe=>M e) j;generalize C.aR t=y at*;cases y<;>first|rfl|exact absurd rfl I|exact absurd rfl N
theorem Vm:∀{vs:List TV},R2 vs=true->∀tv∈vs,∃k j,tv=.ptr k j
 |[],_,tv,h=>by simp at h
 |v::vs,e,tv,h=>by
  cases v<;>simp only[R2] at e<;>first|(simp at e;done)|skip
  rcases cO.1 h with rfl|h
  ·exact⟨_,_,rfl⟩
  ·exact Vm e tv h
theorem aa7(h:Rel C E s g w)(l:cD nt g a)(J:gN nt o.dst){D:FuncId}{x y:Array Operand}(F:o.op=.makeFunc (.func D) x y)(hx:x=#[])(M:∀z∈y.toList,dW nt z=true)(H:Ev.step C o s K=some r):gv P C E nt o g a w K r Z:=by
 subst hx;simp only[Ev.step,F] at H;obtain⟨I,N⟩:=bQ.1 H;refine kS (v:=.func (.func D) #[] (y.map a.eval)) (m:=none) h l J ?_ rfl (by simp[execOp,F,Instr.makeFunc]) N;refine .fn _ _ _ _ (λtv Q=>?_) (by simp) (λj tv v u A=>?_)
 ·obtain⟨k,j,rfl⟩:=Vm I tv Q;rfl
 ·rw[ir] at u;rw[ayv] at A;cases hz:y[j]? with
  |none=>simp[hz] at A
  |some z=>
   simp only[hz,jA,aQ] at A;rw[ni,hz] at u;simp only[jA,aQ] at u;subst u;subst A;have S:aU C s z∈y.toList.map (aU C s):=gQ.2 ⟨z,by simpa using aku hz,rfl⟩;obtain⟨k,i,e⟩:=Vm I _ S;exact(iS h l (M z (by simpa using aku hz))).anyM (by rw[e];rfl) _
end
end
section
section
variable{P:Program}{C:Cx}{w:World}{op:BinOp}{t:TypeId}{x y:Operand}{R:Type}{r:R}{K:TV->Option R}
def Tg(P:Program)(w:World)(op:BinOp)(t:TypeId)(x y:Operand)(e j:Value)(K:TV->Option R)(r:R):Prop:=
 ∃v tv,K tv=some r/\((do eqGuard op t x y e j;binOp op t e j):Sem Value).run P w=.ok v w/\(∀c m,Rd c m tv v)/\fJ tv=true
theorem vq{e j:Value}{k:IntKind}{n:Int}(u:K (.i k n)=some r)(A:((do eqGuard op t x y e j;binOp op t e j):Sem Value).run P w=.ok (.int k n) w):Tg P w op t x y e j K r:=⟨_,_,u,A,λ_ _=>.i _ _ _,rfl⟩
theorem oV{e j:Value}{b:Bool}(u:K (.b b)=some r)(A:((do eqGuard op t x y e j;binOp op t e j):Sem Value).run P w=.ok (.bool b) w):Tg P w op t x y e j K r:=⟨_,_,u,A,λ_ _=>.b _ _,rfl⟩
theorem afx{k u:IntKind}{a c:Int}(A:Ta op=true\/u=k)(e:EH op k a c K=some r):Tg P w op t x y (.int k a) (.int u c) K r:=by
 have D:(eqGuard op t x y (.int k a) (.int u c)).run P w=.ok () w:=by
  unfold eqGuard
  cases op<;>simp
 have go:∀v,(binOp op t (.int k a) (.int u c)).run P w=.ok v w->((do eqGuard op t x y (.int k a) (.int u c);binOp op t (.int k a) (.int u c)):Sem Value).run P w=.ok v w:=λv F=>by
  simp only[Sem.run_bind,D,Result.andThen,F]
 cases op<;>simp only[EH,Ta,iJ,false_or,dw] at e A
 case shl=>
  obtain⟨n,j,e⟩:=e;unfold rJ at j;split at j
  ·simp at j
  ·rename_i h0;simp only[aQ] at j;subst j;exact vq e (go _ (by simp[binOp,Op.shift,h0]))
 case shr=>
  obtain⟨n,j,e⟩:=e;unfold lB at j;split at j
  ·simp at j
  ·rename_i h0;simp only[aQ] at j;subst j;exact vq e (go _ (by simp[binOp,Op.shift,h0]))
 case quo=>
  subst A;obtain⟨n,j,e⟩:=e;unfold j5 at j;split at j
  ·simp at j
  ·rename_i h0;simp only[aQ] at j;subst j;exact vq e (go _ (by simp[binOp,Op.intDiv,h0]))
 case rem=>
  subst A;obtain⟨n,j,e⟩:=e;unfold kG at j;split at j
  ·simp at j
  ·rename_i h0;simp only[aQ] at j;subst j;exact vq e (go _ (by simp[binOp,Op.intDiv,h0]))
 all_goals subst A
 case add=>exact vq e (go _ (by simp[binOp,Op.intArith,aq]))
 case sub=>exact vq e (go _ (by simp[binOp,Op.intArith,aL]))
 case mul=>exact vq e (go _ (by simp[binOp,Op.intArith,cR]))
 case and=>exact vq e (go _ (by simp[binOp,Op.intBits,ig]))
 case or=>exact vq e (go _ (by simp[binOp,Op.intBits,na]))
 case xor=>exact vq e (go _ (by simp[binOp,Op.intBits,dA]))
 case andNot=>exact vq e (go _ (by simp[binOp,Op.intBits,agZ]))
 case eql=>exact oV e (go _ (by simp[binOp,Op.intCmp,ai];rfl))
 case neq=>exact oV e (go _ (by simp[binOp,Op.intCmp,ai,ay];rfl))
 case lss=>exact oV e (go _ (by simp[binOp,Op.intCmp,av]))
 case leq=>exact oV e (go _ (by simp[binOp,Op.intCmp,bE]))
 case gtr=>exact oV e (go _ (by simp[binOp,Op.intCmp,av]))
 case geq=>exact oV e (go _ (by simp[binOp,Op.intCmp,bE]))
theorem ag4(a b:List UInt8):(a==b)=decide (a=b):=by by_cases h:a=b<;>simp[h]
theorem Qo(l:List UInt8):(ByteArray.mk ⟨l⟩).toList=l:=by rw[ByteArray.toList_eq]
theorem asD{k F:IntKind}{a c:Int}{j u:List TV}{q:Bool}(h:jS (.i k a::j) (.i F c::u)=some q):∃A,jS j u=some A/\q=(ai a c&&A):=by
 cases j with
 |nil=>
  cases u with
  |nil=>simp only[jS,aQ] at h;exact⟨true,rfl,by simp[h]⟩
  |cons d u=>simp[jS] at h
 |cons e j=>
  cases D:jS (e::j) u with
  |none=>simp[jS,D] at h
  |some A=>simp only[jS,D,aQ] at h;exact⟨A,rfl,h.symm⟩
theorem asE{a c:aj}{j u:List TV}{q:Bool}(h:jS (.s a::j) (.s c::u)=some q):∃A,jS j u=some A/\q=(bf a c&&A):=by
 cases j with
 |nil=>
  cases u with
  |nil=>simp only[jS,aQ] at h;exact⟨true,rfl,by simp[h]⟩
  |cons d u=>simp[jS] at h
 |cons e j=>
  cases D:jS (e::j) u with
  |none=>simp[jS,D] at h
  |some A=>simp only[jS,D,aQ] at h;exact⟨A,rfl,h.symm⟩
theorem asF{a c:Bool}{j u:List TV}{q:Bool}(h:jS (.b a::j) (.b c::u)=some q):∃A,jS j u=some A/\q=(lC a c&&A):=by
 cases j with
 |nil=>
  cases u with
  |nil=>simp only[jS,aQ] at h;exact⟨true,rfl,by simp[h]⟩
  |cons d u=>simp[jS] at h
 |cons e j=>
  cases D:jS (e::j) u with
  |none=>simp[jS,D] at h
  |some A=>simp only[jS,D,aQ] at h;exact⟨A,rfl,h.symm⟩
theorem aem(hC:eW P C)(F H:Array Value)(d:Nat):∀(fs:List (Nat×Nat))(gs:List Field)(n:Nat)(J M:List TV)(q:Bool),qk fs gs=true->xF C fs n J M=true->
  (∀(j:Nat)tv,J[j]?=some tv->∃v c m,F[n+j]?=some v/\Rd c m tv v)->(∀(j:Nat)tv,M[j]?=some tv->∃v c m,H[n+j]?=some v/\Rd c m tv v)->jS J M=some q->
  (Op.eqFields (d+1) F H gs).run P w=.ok q w
 |[],[],n,[],[],q,_,_,_,_,h=>by simp only[jS,aQ] at h;subst h;simp[Op.eqFields]
 |[],_::_,_,_,_,_,h,_,_,_,_=>by simp[qk] at h
 |_::_,[],_,_,_,_,h,_,_,_,_=>by simp[qk] at h
 |[],[],_,_::_,_,_,_,h,_,_,_=>by simp[xF] at h
 |[],[],_,[],_::_,_,_,h,_,_,_=>by simp[xF] at h
 |_::_,_::_,_,[],_,_,_,h,_,_,_=>by simp[xF] at h
 |_::_,_::_,_,_::_,[],_,_,h,_,_,_=>by simp[xF] at h
 |(aa,ft)::fs,f::gs,n,c::J,e::M,q,hp,A,hx,hy,h=>by
  simp only[qk,bo,sy,bne_iff_ne] at hp;obtain⟨⟨⟨rfl,rfl⟩,L0⟩,hp⟩:=hp;simp only[xF] at A;cases Q:Nat.beq f.offset n with
  |false=>rw[Q] at A;simp at A
  |true=>
   rw[Q,aF] at A;have Q:=gr Q;obtain⟨vx,cx,mx,Zm,nX⟩:=hx 0 c rfl;obtain⟨vy,cy,my,Zn,IA⟩:=hy 0 e rfl;have jx:∀(j:Nat)tv,J[j]?=some tv->∃v c m,F[n+1+j]?=some v/\Rd c m tv v:=λj tv hj=>by
    rw[show n+1+j=n+(j+1) by omega];exact hx (j+1) tv (by simpa using hj)
   have uD:∀(j:Nat)tv,M[j]?=some tv->∃v c m,H[n+1+j]?=some v/\Rd c m tv v:=λj tv hj=>by
    rw[show n+1+j=n+(j+1) by omega];exact hy (j+1) tv (by simpa using hj)
   have ih:=λA I hq=>aem hC F H d fs gs (n+1) J M I hp A jx uD hq;have N:∀(zs:Array Value)(v:Value)(dd:TypeDesc),P.underlying f.type=some dd->s9 P f.type=false->zs[n]?=some v->(part f.type zs f.offset).run P w=.ok v w:=λzs v dd u vT hz=>by
    simp[part,GG u,vT,Q,hz]
   split at A
   ·rename_i k k1 a k2 b S;cases gV:decide (k1=k)<;>rw[gV] at A<;>simp only[aF,aH] at A
    ·simp at A
    cases cB:decide (k2=k)<;>rw[cB] at A<;>simp only[aF,aH] at A
    ·simp at A
    have gV:=ef gV;have cB:=ef cB;subst gV;subst cB;have u:=afw (hC.ty f.type) S;have U:=nX.kU;have Y:=IA.kU;subst U;subst Y;obtain⟨I,vU,rfl⟩:=asD h;simp only[Op.eqFields,aD L0,Sem.run_bind,N F _ _ u (by simp[s9,u]) Zm,N H _ _ u (by simp[s9,u]) Zn,Result.andThen];rw[show(Op.equalIn (d+1) f.type (.int k2 a) (.int k2 b)).run P w=.ok (a==b) w by simp[Op.equalIn,run_underlying u]];have:=ih A I vU;simp only[ai]
    by_cases D:a=b
    ·simp[D,this]
    ·simp[D]
   ·rename_i a b S;have u:=yZ (hC.ty f.type) S;have U:=nX.pK;have Y:=IA.pK;subst U;subst Y;obtain⟨I,vU,rfl⟩:=asE h;simp only[Op.eqFields,aD L0,Sem.run_bind,N F _ _ u (by simp[s9,u]) Zm,N H _ _ u (by simp[s9,u]) Zn,Result.andThen];rw[run_equalIn_string w d f.type _ _ u];have:=ih A I vU;simp only[Qo,bf]
    by_cases D:a=b
    ·simp[D,this]
    ·simp[D]
   ·rename_i a b S;have u:=aej (hC.ty f.type) S;have U:=nX.rF;have Y:=IA.rF;subst U;subst Y;obtain⟨I,vU,rfl⟩:=asF h;simp only[Op.eqFields,aD L0,Sem.run_bind,N F _ _ u (by simp[s9,u]) Zm,N H _ _ u (by simp[s9,u]) Zn,Result.andThen];rw[run_equalIn_bool' w d f.type _ _ u];have:=ih A I vU;simp only[lC]
    by_cases D:a=b
    ·simp[D,this]
    ·simp[D]
   ·simp at A
def Mn(P:Program)(C:Cx)(t:TypeId)(y:Operand):Bool:=
 match C.aR t with
 |.st _ _ _=>!P.stoodInHeld t&&!P.eqGuardType P.depth t
 |.vM=>match y with|.const _=>true|_=>false
 |_=>true
theorem ak7(d:Nat){e:Array (String×TypeId)}{j:TypeId}{v:Value}(h:P.underlying t=some (.interface e)):(Op.equalIn (d+1) t (.iface j v) .nilIface).run P w=.ok false w:=by simp[Op.equalIn,run_underlying h]
theorem ak8(d:Nat){e:Array (String×TypeId)}(h:P.underlying t=some (.interface e)):(Op.equalIn (d+1) t .nilIface .nilIface).run P w=.ok true w:=by simp[Op.equalIn,run_underlying h]
theorem aq0(hC:eW P C){vx vy:Value}{H ty:TV}{c:Rc}{m m':Option Gp}(hx:Rd c m H vx)(I:Rd c m' ty vy)(A:Mn P C t y=true)(F:MZ C (C.aR t) H ty=true)(e:Iv op H ty K=some r):Tg P w op t x y vx vy K r:=by
 unfold Iv at e;split at e
 ·rename_i k a k' c';have D:=hx.kU;have J:=I.kU;subst D;subst J;cases U:Ta op with
  |true=>rw[U] at e;exact afx (.inl U) e
  |false=>
   rw[U,aH] at e;obtain⟨D,J⟩:=bQ.1 e;exact afx (.inr (ef D)) J
 ·rename_i a b;have D:=hx.pK;have J:=I.pK;subst D;subst J;have hg:(eqGuard op t x y (.string ⟨⟨a⟩⟩) (.string ⟨⟨b⟩⟩)).run P w=.ok () w:=by
   unfold eqGuard
   cases op<;>simp
  have go:∀v,(binOp op t (.string ⟨⟨a⟩⟩) (.string ⟨⟨b⟩⟩)).run P w=.ok v w->((do eqGuard op t x y (.string ⟨⟨a⟩⟩) (.string ⟨⟨b⟩⟩);binOp op t (.string ⟨⟨a⟩⟩) (.string ⟨⟨b⟩⟩)):Sem Value).run P w=.ok v w:=λv M=>by
   simp only[Sem.run_bind,hg,Result.andThen,M]
  split at e
  ·obtain⟨z,hz,e⟩:=dw.1 e;unfold aO at hz;split at hz
   ·simp at hz
   ·rename_i h0;simp only[aQ] at hz;subst hz;refine⟨_,_,e,go (.string ⟨⟨a++b⟩⟩) ?_,λ_ _=>.s _ _,rfl⟩;have U:∀l:List UInt8,(ByteArray.mk ⟨l⟩).size=l.length:=λl=>rfl;have D:¬ ((((ByteArray.mk ⟨a⟩).size+(ByteArray.mk ⟨b⟩).size:Nat):Int)>IntKind.i64.max):=by simpa only[U] using h0
    have ab:(ByteArray.mk ⟨a⟩++ByteArray.mk ⟨b⟩)=ByteArray.mk ⟨a++b⟩:=by
     apply ByteArray.ext
     simp
    simp only[binOp,Op.stringOp,aE D,ab];rfl
  ·exact oV e (go _ (by simp[binOp,Op.stringOp,Qo,bf,ag4]))
  ·exact oV e (go _ (by simp[binOp,Op.stringOp,Qo,bf,ay,bne,ag4]))
  ·exact oV e (go _ (by simp[binOp,Op.stringOp,Qo,YC]))
  ·simp at e
 ·rename_i a b;have D:=hx.rF;have J:=I.rF;subst D;subst J;have hb:C.aR t=.bool:=by
   cases eJ:C.aR t<;>rw[eJ] at F<;>first|rfl|(simp[MZ,jD] at F)
  have N:=aej (hC.ty t) hb;have A:(Op.equal t (.bool a) (.bool b)).run P w=.ok (a==b) w:=run_equalIn_bool' w 9999 t a b N;split at e
  ·exact oV e (by simp[eqGuard,binOp,A,lC];rfl)
  ·exact oV e (by simp[eqGuard,binOp,A,lC,ay];rfl)
  ·simp at e
 ·rename_i a;have hi:C.aR t=.vM:=by
   cases eJ:C.aR t<;>rw[eJ] at F<;>first|rfl|(simp[MZ,jD] at F)
  obtain⟨ms,N⟩:=aqZ (hC.ty t) hi;have zM:vy=.nilIface:=by cases I;rfl
  subst zM;have ad:∃v,y=.const v:=by
   simp only[Mn,hi] at A
   split at A
   ·exact⟨_,rfl⟩
   ·simp at A
  obtain⟨v,rfl⟩:=ad;cases a with
  |true=>
   obtain⟨H,u,rfl⟩:∃H u,vx=.iface H u:=by cases hx;exact⟨_,_,rfl⟩
   have A:(Op.equal t (.iface H u) .nilIface).run P w=.ok false w:=ak7 9999 N;split at e
   ·exact oV e (by simp[eqGuard,binOp,A,ay])
   ·exact oV e (by simp[eqGuard,binOp,A])
   ·simp at e
  |false=>
   obtain rfl:vx=.nilIface:=by cases hx;rfl
   have A:(Op.equal t .nilIface .nilIface).run P w=.ok true w:=ak8 9999 N;split at e
   ·exact oV e (by simp[eqGuard,binOp,A,ay])
   ·exact oV e (by simp[eqGuard,binOp,A])
   ·simp at e
 ·rename_i cs ds;simp only[MZ] at F;split at F
  ·rename_i t' m' fs a7;obtain⟨gs,N,hp,_,_⟩:=Sb (hC.ty t) a7;simp only[Mn,a7,bo,mL] at A;have Y:P.fieldsOf t=gs:=by simp[Program.fieldsOf,N]
   cases hx with
   |agg _ _ Q ji tE _ hx=>
   cases I with
   |agg _ _ S gj jT _ I=>
   have aa:∀q,jS cs ds=some q->(Op.equalIn 10000 t (.agg Q) (.agg S)).run P w=.ok q w:=λq hq=>by
    rw[run_equalIn_struct w 9999 t Q S (by rw[Y];exact N) A.1,Y]
    refine aem hC Q S 9998 fs gs.toList 0 cs ds q hp F (λj tv hj=>?_) (λj tv hj=>?_) hq
    ·have am:=(da.1 hj).1;have M:Q[j]?=some (Q[j]'(by omega)):=jX _;exact⟨_,_,_,by rw[iu];exact M,hx j tv _ hj M⟩
    ·have am:=(da.1 hj).1;have M:S[j]?=some (S[j]'(by omega)):=jX _;exact⟨_,_,_,by rw[iu];exact M,I j tv _ hj M⟩
   split at e
   ·rename_i q hq;exact oV e (by simp only[Sem.run_bind,run_eqGuard_agg w _ t x y Q S A.2,Result.andThen,run_eql_struct,aa q hq])
   ·rename_i q hq;exact oV e (by simp only[Sem.run_bind,run_eqGuard_agg w _ t x y Q S A.2,Result.andThen,run_neq_struct,aa q hq,ay])
   ·simp at e
  ·simp at F
 ·simp at e
end
section
variable{P:Program}{C:Cx}{E:Env}{nt n:Nat}{o:Oper}{s s1:TS}{g:Gs}{a:Act}{w:World}{R:Type}{r:R}{K:TS->Option R}{Z:Rt->Prop}{γ1:Nat->G}{tv:TV}{v:Value}
theorem ac3(hC:eW P C)(h:Rel C E s g w)(l:cD nt g a)(u:gN nt o.dst){op:BinOp}{t A:Nat}{x y:Operand}(e:o.op=.binOp op t x y A)(hx:dW nt x=true)(D:dW nt y=true)(F:Mn P C t y=true)(j:Ev.step C o s K=some r):
  gv P C E nt o g a w K r Z:=by
 simp only[Ev.step,e] at j;obtain⟨H,I⟩:=bQ.1 j;have J:=iS h l hx;have M:=iS h l D;obtain⟨v,tv,N,Q,S,U⟩:=aq0 (P:=P) (w:=w) (x:=x) (y:=y) hC J M F H I;refine kS h l u (S _ none) U ?_ N;simp only[execOp,e];have:=Q;simp only[Sem.run_bind] at this⊢;rw[this];rfl
end
end
section
theorem sJ{C:Cx}{E:Env}{s:TS}{g:Gs}{w:World}{p:Pl}{tv:TV}{v:Value}(h:Rel C E s g w)(j:(g.rc C w).va p=some v)(u:fo C s p=some tv):tv=.un\/Rd (g.rc C w) (some (gp p)) tv v:=by
 rcases xd h u with e|⟨y,e,x,_⟩
 ·exact .inl e
 ·rw[j] at e;cases e;exact .inr x
theorem uW{P:Program}{e:Ty}{et:TypeId}(h:Eb P e et=true):P.cellsOf et=aA e/\0<P.cellsOf et/\zq P et=true/\kN (Ev.enc false e (rV e)) (nJ P et)=true/\M8 P e et=true:=by
 simp only[Eb,bo,sy] at h;exact⟨h.1.1.1,by rw[h.1.1.1];exact QM e,h.1.1.2,h.1.2,h.2⟩
section
variable{P:Program}{C:Cx}{w:World}{t et:TypeId}
theorem ak6(e:P.underlying t=some (.slice et))(j:0<P.cellsOf et){b off len cap:Nat}{n:Int}{k:IntKind}(h0:0<=n)(u:n<len):
  (Instr.indexAt t (.slice (some ⟨b,off,none⟩) len cap) (.int k n)).run P w=.ok (.pointer (some ⟨b,off+n.toNat*P.cellsOf et,none⟩)) w:=by
 have x:=AE (P:=P) (w:=w) j;simp[Instr.indexAt,asIntOf,run_underlying e,h0,u,x,PA]
theorem aaX{len:Nat}(e:P.underlying t=some (.array len et))(j:0<P.cellsOf et){b off:Nat}{n:Int}{k:IntKind}(h0:0<=n)(u:n<len):
  (Instr.indexAt t (.pointer (some ⟨b,off,none⟩)) (.int k n)).run P w=.ok (.pointer (some ⟨b,off+n.toNat*P.cellsOf et,none⟩)) w:=by
 have x:=AE (P:=P) (w:=w) j;simp[Instr.indexAt,asIntOf,run_underlying e,Instr.sureAddr,h0,u,x,PA]
theorem DY{t:Ty}(h:Ev.fP t=false)(d:Bool)(x:El t):∃tv,Ev.enc d t x=[tv]/\(∀c m,Rd c m tv (ka t x))/\bC tv=true/\fJ tv=true/\(ka t x).oneCell'=true:=by
 cases t<;>simp[Ev.fP] at h
 ·exact⟨_,rfl,λ_ _=>.b _ _,rfl,rfl,rfl⟩
 ·exact⟨_,rfl,λ_ _=>.i _ _ _,rfl,rfl,rfl⟩
 ·exact⟨_,rfl,λ_ _=>.s _ _,rfl,rfl,rfl⟩
theorem Rd.RE{c:Rc}{m:Option Gp}{t:Ty}{u:List (El t)}{x:El t}{b e n:Nat}{f:Nat->Nat->Value}(y:c.γ b=.im)(hx:u[n]?=some x)(A:∀(r:Nat)x(j:Nat)tv,u[r]?=some x->(enc false t x)[j]?=some tv->cellAt c.w b (e+r*aA t+j)=some (f r j)/\(f r j).oneCell'=true)(D:∀(r:Nat)x(j:Nat)tv,u[r]?=some x->(enc false t x)[j]?=some tv->Rd c none tv (f r j)):Rd c m (.ip (enc false t x) 0) (.pointer (some ⟨b,e+n*aA t,none⟩)):=.ip m _ 0 b _ (λj=>f n j) (Dv false t x) y (λi tv hi=>A n x i tv hx hi) (λi tv hi=>D n x i tv hx hi)
end
section
variable{P:Program}{C:Cx}{E:Env}{nt n:Nat}{o:Oper}{s s1:TS}{g:Gs}{a:Act}{w:World}{R:Type}{r:R}{K:TS->Option R}{Z:Rt->Prop}{γ1:Nat->G}{tv:TV}{v:Value}
theorem aa0(hC:eW P C)(h:Rel C E s g w)(l:cD nt g a)(hd:gN nt o.dst){t:Nat}{x i:Operand}(ho:o.op=.indexAddr t x i)(hx:dW nt x=true)(hi:dW nt i=true)(j:Ev.step C o s K=some r):gv P C E nt o g a w K r Z:=by
 simp only[Ev.step,ho] at j;obtain⟨y,j⟩:=bQ.1 j;have F:=iS h l hx;have EJ:=iS h l hi;unfold xT at j;split at j
 ·rename_i k n ad;rw[ad] at EJ;have zN:=EJ.kU;have p6:∀e sz cF,C.aR t=.sl e sz cF->∀{b off len cap:Nat}{p':TV},a.eval x=.slice (some ⟨b,off,none⟩) len cap->0<=n->n<len->(∃m,Rd (g.rc C w) m p' (.pointer (some ⟨b,off+n.toNat*aA e,none⟩)))->fJ p'=true->K (cz C s o.dst p')=some r->gv P C E nt o g a w K r Z:=by
   intro e sz cF A b off len cap p' bL h0 h1 ⟨m,U⟩ ha j
   obtain⟨et,hu,fX,_,_⟩:=zg (hC.ty t) A
   obtain⟨iY,iM,_⟩:=uW fX
   refine kS h l hd U ha ?_ j
   simp only[execOp,ho,bL,zN]
   have:=ak6 (w:=w) (k:=k) (cap:=cap) (b:=b) (off:=off) hu iM h0 h1
   rw[iY] at this
   simp[this]
  split at j
  ·rename_i p t1 Q;rw[Q] at F y;obtain⟨e,sz,cF,A⟩:∃e sz cF,C.aR t=.sl e sz cF:=by
    cases S:C.aR t<;>rw[S] at y<;>first|exact⟨_,_,_,rfl⟩|simp[jD] at y
   simp only[A,TI.elm] at j;obtain⟨tv,hg,j⟩:=ry j;have cI:VO (g.rc C w) p/\(g.rc C w).va p=some (a.eval x):=by generalize iX x=m at F;cases F;exact⟨by assumption,by assumption⟩
   have D:=sJ h cI.2 hg;split at j
   ·rename_i d t2 N;obtain⟨H,j⟩:=bQ.1 j;have H:=ef H;subst H;obtain⟨z,hz,j⟩:=dw.1 j;obtain⟨h0,hz⟩:=mO.1 hz;have J:=(da.1 hz).1;rcases D with D|D
    ·simp at D
    rcases D.mR with⟨rfl,_⟩|⟨q,π,b,off,cap,cs,ee,fr,f,hm,I,_⟩
    ·simp at hz
    ·exact p6 _ _ _ A I h0 (by omega) ⟨none,by have:=Rd.ep (c:=g.rc C w) none p e n 0 b off N.length cap cI.1 (by rw[cI.2,I]) h0 (by omega);simpa using this⟩ rfl j
   ·rename_i t2 N r0 c0;obtain⟨H,j⟩:=bQ.1 j;have H:=ef H;subst H;obtain⟨z,hz,j⟩:=dw.1 j;obtain⟨h0,hz⟩:=mO.1 hz;have J:=(da.1 hz).1;rcases D with D|D
    ·simp at D
    obtain⟨q,π,b,off,cap,cs,ee,fr,f,hm,I,_⟩:=D.Ww;exact p6 _ _ _ A I h0 (by omega) ⟨none,by have:=Rd.ep (c:=g.rc C w) none p e n 0 b off N.length cap cI.1 (by rw[cI.2,I]) h0 (by omega);simpa using this⟩ rfl j
   ·rename_i t2 N;obtain⟨H,j⟩:=bQ.1 j;have H:=ef H;subst H;obtain⟨z,hz,j⟩:=dw.1 j;obtain⟨h0,hz⟩:=mO.1 hz;have J:=(da.1 hz).1;rcases D with D|D
    ·simp at D
    rcases D.ub with⟨rfl,_⟩|⟨b,off,cap,f,I,_,Y,hc,U⟩
    ·simp at hz
    ·exact p6 _ _ _ A I h0 (by omega) ⟨none,Rd.RE Y hz hc U⟩ rfl j
   ·simp at j
  ·rename_i p t1 lo jE Q;rw[Q] at F y;obtain⟨e,sz,cF,A⟩:∃e sz cF,C.aR t=.sl e sz cF:=by
    cases S:C.aR t<;>rw[S] at y<;>first|exact⟨_,_,_,rfl⟩|simp[jD] at y
   rw[A] at y;simp only[jD,bH] at y;subst y;obtain⟨tv,hg,j⟩:=ry j;obtain⟨aa,len,cap,a',M,cI,bL,pg,h1,h2,h3,h4,h5,h6⟩:∃aa len cap a' M,VO (g.rc C w) p/\(g.rc C w).va p=some (.slice aa len cap)/\a.eval x=.slice a' (jE.toNat-lo.toNat) M/\0<=lo/\lo<=jE/\jE<=(len:Int)/\
     (M=0\/∃b o,aa=some ⟨b,o,none⟩/\a'=some ⟨b,o+lo.toNat*aA e,none⟩)/\jE.toNat-lo.toNat<=M/\M+lo.toNat<=cap:=by
    generalize iX x=m at F
    generalize a.eval x=u at F
    cases F;exact⟨_,_,_,_,_,by assumption,by assumption,rfl,by assumption,by assumption,by assumption,by assumption,by assumption,by assumption⟩
   have D:=sJ h bL hg;split at j
   ·rename_i d t2 N;obtain⟨H,cB⟩:=bQ.1 j;have H:=ef H;clear j;subst H;obtain⟨ys,ma,j⟩:=dw.1 cB;obtain⟨⟨_,_,h9⟩,rfl⟩:=wW.1 ma;obtain⟨z,hz,j⟩:=dw.1 j;obtain⟨h0,hz⟩:=mO.1 hz;have J:=(da.1 hz).1;simp only[lv,oN] at J;rcases h4 with h4|⟨b,off,rfl,rfl⟩
    ·omega
    refine p6 _ _ _ A pg h0 (by omega) ⟨none,?_⟩ rfl j;have:=Rd.ep (c:=g.rc C w) none p t2 (lo+n) 0 b off len cap cI bL (by omega) (by omega);rw[show(lo+n).toNat=lo.toNat+n.toNat by omega,jY] at this;simpa[rK,ra] using this
   ·rename_i t2 N;obtain⟨H,cB⟩:=bQ.1 j;have H:=ef H;clear j;subst H;obtain⟨ys,ma,j⟩:=dw.1 cB;obtain⟨⟨_,_,h9⟩,rfl⟩:=wW.1 ma;obtain⟨z,hz,j⟩:=dw.1 j;obtain⟨h0,hz⟩:=mO.1 hz;have J:=(da.1 hz).1;simp only[lv,oN] at J;rcases h4 with h4|⟨b,off,rfl,rfl⟩
    ·omega
    rcases D with D|D
    ·simp at D
    rcases D.ub with⟨rfl,_⟩|⟨b',Sr,Mo,f,I,_,Y,hc,U⟩
    ·simp at hz
    ·simp only[Value.slice.injEq,aQ,Addr.mk.injEq,jI] at I;obtain⟨⟨rfl,rfl⟩,rfl,rfl⟩:=I;have zO:N[lo.toNat+n.toNat]?=some z:=by
      rw[q8] at hz
      split at hz
      ·rwa[An] at hz
      ·simp at hz
     refine p6 _ _ _ A pg h0 (by omega) ⟨none,?_⟩ rfl j;have:=Rd.RE (m:=none) Y zO hc U;rwa[jY,<-ra] at this
   ·simp at j
  ·rename_i t2 N Q;rw[Q] at F y;obtain⟨e,sz,cF,A⟩:∃e sz cF,C.aR t=.sl e sz cF:=by
    cases S:C.aR t<;>rw[S] at y<;>first|exact⟨_,_,_,rfl⟩|simp[jD] at y
   rw[A] at y;simp only[jD,bH] at y;subst y;obtain⟨z,hz,j⟩:=dw.1 j;obtain⟨h0,hz⟩:=mO.1 hz;have J:=(da.1 hz).1;rcases F.ub with⟨rfl,_⟩|⟨b,off,cap,f,I,_,Y,hc,U⟩
   ·simp at hz
   ·exact p6 _ _ _ A I h0 (by omega) ⟨none,Rd.RE Y hz hc U⟩ rfl j
  ·rename_i t2 N Q;rw[Q] at F y;obtain⟨e,sz,cF,A⟩:∃e sz cF,C.aR t=.sl e sz cF:=by
    cases S:C.aR t<;>rw[S] at y<;>first|exact⟨_,_,_,rfl⟩|simp[jD] at y
   rw[A] at y;simp only[jD,bH] at y;subst y;obtain⟨z,hz,j⟩:=dw.1 j;obtain⟨h0,hz⟩:=mO.1 hz;have J:=(da.1 hz).1;rcases F.QP with⟨rfl,_⟩|⟨b,off,f,I,Y,hc,U⟩
   ·simp at hz
   ·exact p6 _ _ _ A I h0 (by omega) ⟨none,Rd.RE Y hz hc U⟩ rfl j
  ·rename_i k1 c1 Q;rw[Q] at F y;obtain⟨len,e,A⟩:∃len e,C.aR t=.ar len e:=by
    cases S:C.aR t<;>rw[S] at y<;>first|exact⟨_,_,rfl⟩|simp[jD] at y
   obtain⟨et,hu,fX,h1,_,_,_⟩:=LZ (hC.ty t) A;obtain⟨iY,iM,_⟩:=uW fX;split at j
   ·rename_i t2 N hb;obtain⟨_,j⟩:=bQ.1 j;obtain⟨ab,j⟩:=bQ.1 j;have ab:=gr ab;subst ab;obtain⟨_,dv,j⟩:=dw.1 j;have dv:=nG.1 dv;simp only[av,A,TI.len,bH] at dv;obtain⟨z,hz,j⟩:=dw.1 j;obtain⟨h0,_⟩:=mO.1 hz;have I:a.eval x=.pointer (some ⟨g.bx k1,0,none⟩):=by generalize iX x=m at F;generalize a.eval x=u at F;cases F;rfl
    refine kS h l hd (Rd.pe none k1 n h0) rfl ?_ j;have:=aaX (P:=P) (w:=w) (k:=k) (b:=g.bx k1) (off:=0) hu iM h0 dv;rw[iY,h1] at this;simp only[execOp,ho,I,zN];simp at this;simp[this,Gs.rc]
   ·simp at j
  ·rename_i t2 N Q;rw[Q] at F y;obtain⟨len,e,A⟩:∃len e,C.aR t=.ar len e:=by
    cases S:C.aR t<;>rw[S] at y<;>first|exact⟨_,_,rfl⟩|simp[jD] at y
   obtain⟨et,hu,fX,h1,_,_,_⟩:=LZ (hC.ty t) A;obtain⟨iY,iM,_⟩:=uW fX;obtain⟨_,dv,j⟩:=dw.1 j;have dv:=nG.1 dv;simp only[av,A,TI.len,bH] at dv;obtain⟨z,hz,j⟩:=dw.1 j;obtain⟨h0,hz⟩:=mO.1 hz;obtain⟨b,off,I,Y,cH,am⟩:∃b off,a.eval x=.pointer (some ⟨b,off,none⟩)/\(g.rc C w).γ b=.im/\Ev.fP t2=false/\(∀(r:Nat)x,N[r]?=some x->cellAt (g.rc C w).w b (off+r)=some (ka t2 x)):=by
    generalize iX x=m at F
    generalize a.eval x=u at F
    cases F;exact⟨_,_,rfl,by assumption,by assumption,by assumption⟩
   obtain⟨tv,a8,gk,dx,_,xU⟩:=DY cH false z;refine kS h l hd (Rd.ip none (enc false t2 z) 0 b (off+n.toNat) (λ_=>ka t2 z) (Dv false t2 z) Y (λi bP hi=>?_) (λi bP hi=>?_)) rfl ?_ j
   ·rw[a8] at hi;cases i with
    |zero=>exact⟨am _ _ hz,xU⟩
    |succ i=>simp at hi
   ·rw[a8] at hi;cases i with
    |zero=>simp at hi;subst hi;exact gk _ _
    |succ i=>simp at hi
   ·have:=aaX (P:=P) (w:=w) (k:=k) (b:=b) (off:=off) hu iM h0 dv;rw[iY,h1] at this;simp only[execOp,ho,I,zN];simp at this;simp[this]
  ·simp at j
 ·simp at j
end
end
section
section
variable{P:Program}{C:Cx}{w:World}{t:TypeId}
theorem run_load(hC:eW P C)(u:(C.aR t).var=true){b e:Nat}{vs:List Value}(x:vs.length=(C.aR t).sz)(A:∀(j:Nat)v,vs[j]?=some v->cellAt w b (e+j)=some v):
  (loadVar t ⟨b,e,none⟩).run P w=.ok (if(C.aR t).ag=true then .agg vs.toArray else vs[0]?.getD undef) w:=by
 obtain⟨H,M,D,⟨d,F⟩,_⟩:=sN (hC.ty t) u;have I:∀j,(⟨b,e,none⟩:Addr).add j=⟨b,e+j,none⟩:=λj=>by unfold Addr.add;split<;>simp_all
 cases y:(C.aR t).ag with
 |true=>
  have:=run_loadCells_list (P:=P) w ⟨b,e,none⟩ vs (λj v u=>by rw[I];exact A j v u);rw[x,<-H] at this;simp[loadVar,GG F,D,y,AE (P:=P) (w:=w) (t:=t) (by omega),this]
 |false=>
  have J:=Sa _ y;rw[J] at x
  match vs,x with
  |[v],_=>
   have:=A 0 v rfl;simp at this;simp[loadVar,GG F,D,y,this]
theorem Rd.vm{c:Rc}{ag:Bool}{e:List TV}{vs:List Value}(x:vs.length=e.length)(D:ag=false->e.length=1)(F:∀tv∈e,lh tv=true)(H:∀v∈vs,v.oneCell'=true)
  (y:∀(j:Nat)tv v,e[j]?=some tv->vs[j]?=some v->∀m,Rd c m tv v)(m:Option Gp):Rd c m (Ev.vm ag e) (if ag=true then .agg vs.toArray else vs[0]?.getD undef):=by
 cases ag with
 |true=>
  simp only[Ev.vm,aF,fM];refine .agg _ _ _ F (by simpa using x) (λj tv v A u=>?_) (λj tv v A u=>?_)
  ·exact H v (ayr (by simpa using u))
  ·exact y j tv v A (by simpa using u) _
 |false=>
  have:=D rfl
  match e,vs,this,x with
  |[tv],[v],_,_=>exact y 0 tv v rfl rfl m
theorem Kh(f:Nat->Pl):∀(e:List TV)(j i:Nat),(vl f j e)[i]?=(e[i]?).map (Ev.viewAt (f (j+i)))
 |[],_,_=>by simp[vl]
 |c::e,j,0=>by simp[vl]
 |c::e,j,i+1=>by
  simp only[vl,akv];rw[Kh f e (j.succ) i,show j.succ+i=j+(i+1) by omega]
theorem Ki(f:Nat->Pl):∀(e:List TV)(j:Nat),(vl f j e).length=e.length
 |[],_=>rfl
 |c::e,j=>by simp[vl,Ki f e]
theorem abu{p:Pl}{tv:TV}(h:j1 tv=true):lh (Ev.viewAt p tv)=true:=by
 cases tv<;>simp_all [j1,Ev.viewAt,lh,eE,bC]
theorem ab0{c:Rc}{m:Option Gp}{p:Pl}{tv:TV}{v:Value}(h:Rd c m tv v)(j:j1 tv=true)(u:VO c p)(x:c.va p=some v)(e:Option Gp):Rd c e (Ev.viewAt p tv) v:=by
 cases tv<;>first
  |exact .vw _ _ _ _ u x
  |(exact h.anyM rfl e)
  |(simp[j1,eE,bC] at j)
theorem uU{tv:TV}(h:bC tv=true):j1 tv=true:=by simp[j1,eE,h]
theorem GW{tv:TV}(h:bC tv=true):lh tv=true:=by simp[lh,eE,h]
theorem rk{e:Type}{l:List e}{c n j:Nat}{x:e}(h:((l.drop c).take n)[j]?=some x):l[c+j]?=some x/\j<n:=by
 rw[q8] at h;split at h
 ·rw[An] at h;exact⟨h,by assumption⟩
 ·simp at h
end
section
variable{P:Program}{C:Cx}{E:Env}{nt n:Nat}{o:Oper}{s s1:TS}{g:Gs}{a:Act}{w:World}{R:Type}{r:R}{K:TS->Option R}{Z:Rt->Prop}{γ1:Nat->G}{tv:TV}{v:Value}
theorem aq1(hC:eW P C)(h:Rel C E s g w){t:Nat}(oD:(C.aR t).var=true){p:TV}{u:Value}{m:Option Gp}{K:TV->Option R}(hp:Rd (g.rc C w) m p u)(A:xS C s (C.aR t).sz (C.aR t).ag p K=some r):
  ∃b D v tv,u=.pointer (some ⟨b,D,none⟩)/\K tv=some r/\(loadVar t ⟨b,D,none⟩).run P w=.ok v w/\∀m,Rd (g.rc C w) m tv v:=by
 have a0:=(sN (hC.ty t) oD).2.1;have S:∀{b D:Nat}{cs:List TV}{vs:List Value},cs.length=(C.aR t).sz->vs.length=cs.length->(∀tv∈cs,lh tv=true)->(∀v∈vs,v.oneCell'=true)->(∀(j:Nat)tv v,cs[j]?=some tv->vs[j]?=some v->∀m,Rd (g.rc C w) m tv v)->
   (∀(j:Nat)v,vs[j]?=some v->cellAt w b (D+j)=some v)->K (Ev.vm (C.aR t).ag cs)=some r->u=.pointer (some ⟨b,D,none⟩)->
   ∃b D v tv,u=.pointer (some ⟨b,D,none⟩)/\K tv=some r/\(loadVar t ⟨b,D,none⟩).run P w=.ok v w/\∀m,Rd (g.rc C w) m tv v:=λH jU hT ho hr J A M=>
  ⟨_,_,_,_,M,A,run_load hC oD (by rw[jU,H]) J,λm=>Rd.vm jU (λQ=>by rw[H];exact Sa _ Q) hT ho hr m⟩
 have vec:∀{b D:Nat}{t':Ty}{I:List (El t')},Ev.fP t'=false->(C.aR t).ag=true->(I.length:Int)=(C.aR t).sz->(∀(j:Nat)x,I[j]?=some x->cellAt w b (D+j)=some (ka t' x))->K (.vec t' I)=some r->u=.pointer (some ⟨b,D,none⟩)->
   ∃b D v tv,u=.pointer (some ⟨b,D,none⟩)/\K tv=some r/\(loadVar t ⟨b,D,none⟩).run P w=.ok v w/\∀m,Rd (g.rc C w) m tv v:=λ{b D t' I}cH Q H J A M=>by
  refine⟨_,_,_,_,M,A,run_load hC oD (vs:=I.map (ka t')) (by simp;omega) (λj v y=>?_),λm=>?_⟩
  ·rw[ir] at y;cases hx:I[j]? with
   |none=>simp[hx] at y
   |some x=>simp only[hx,jA,aQ] at y;subst y;exact J j x hx
  ·rw[aD Q];exact .vec _ _ _ cH
 unfold xS at A;split at A
 ·rename_i k c;have M:u=.pointer (some ⟨g.bx k,c,none⟩):=by cases hp;rfl
  have eF:=h.boxes k;split at A
  ·rename_i cs hb;obtain⟨U,A⟩:=bQ.1 A;have U:=yM.1 U;rw[hb] at eF;obtain⟨vs,e,fr,hh,lH,hg,H,hT,hr⟩:=eF;have cQ:w.heap[g.bx k]?=some (.cells vs e fr):=hh;have gf:∀j v,vs[j]?=some v->cellAt w (g.bx k) j=some v:=λj v y=>by simp[cellAt,World.cell?,cQ,y]
   rw[DF,DG] at A;refine S (cs:=vl (λj=>.cell k (Nat.add c j)) 0 ((cs.drop c).take (C.aR t).sz)) (vs:=(vs.toList.drop c).take (C.aR t).sz) ?_ ?_ ?_ ?_ ?_ ?_ A M
   ·rw[Ki];simp;omega
   ·rw[Ki];simp;omega
   ·intro tv a8;obtain⟨i,hi⟩:=tT a8;rw[Kh] at hi;simp only[CG] at hi;obtain⟨bP,hi,rfl⟩:=hi;exact abu (hT bP (dH (rk hi).1))
   ·intro v F;obtain⟨i,hi⟩:=tT F;have:=(rk hi).1;have aa:c+i<cs.length:=by have:=(da.1 this).1;simp at this;omega
    exact(hr (c+i) _ v (cT aa) (by simpa using this)).1
   ·intro j tv v y F m;rw[Kh] at y;simp only[CG] at y;obtain⟨bP,y,rfl⟩:=y;have N:=(rk y).1;have h2:vs[c+j]?=some v:=by simpa using(rk F).1
    refine ab0 (p:=.cell k (Nat.add c (0+j))) (hr _ _ _ N h2).2 (hT _ (dH N)) hg ?_ m;simp only[Gs.rc,va,iu];exact gf _ _ h2
   ·intro j v y;exact gf _ _ (by simpa using(rk y).1)
  ·rename_i t' I hb;obtain⟨Q,A⟩:=bQ.1 A;obtain⟨ab,A⟩:=bQ.1 A;have ab:=gr ab;subst ab;obtain⟨_,dv,A⟩:=dw.1 A;have dv:(I.length:Int)=(C.aR t).sz:=ef (nG.1 dv);rw[hb] at eF;obtain⟨vs,e,fr,hh,lH,hg,cH,H⟩:=eF;have cQ:w.heap[g.bx k]?=some (.cells vs e fr):=hh;refine vec cH Q dv (λj x y=>?_) A M;have:vs[j]?=some (ka t' x):=by rw[<-ni,H,ir,y];rfl
   simp[cellAt,World.cell?,cQ,this]
  ·simp at A
 ·rename_i k i;have eF:=h.boxes k;split at A
  ·rename_i t' I hb;obtain⟨x,hx,A⟩:=dw.1 A;obtain⟨h0,hx⟩:=mO.1 hx;have M:u=.pointer (some ⟨g.bx k,i.toNat,none⟩):=by cases hp;rfl
   cases Q:(C.aR t).ag with
   |true=>rw[Q] at A;simp at A
   |false=>
    rw[Q,aH] at A;rw[hb] at eF;obtain⟨vs,e,fr,hh,lH,hg,cH,H⟩:=eF;have cQ:w.heap[g.bx k]?=some (.cells vs e fr):=hh;obtain⟨tv,a8,gk,dx,_,xU⟩:=DY cH false x;have F:vs[i.toNat]?=some (ka t' x):=by rw[<-ni,H,ir,hx];rfl
    refine S (cs:=[tv]) (vs:=[ka t' x]) (by simp[Sa _ Q]) rfl (by simp[GW dx]) (by simp[xU]) (λj bP v y F=>?_) (λj v y=>?_) (by rw[a8] at A;simpa[Q,Ev.vm] using A) M
    ·cases j with
     |zero=>simp at y F;subst y;subst F;exactλm=>gk _ m
     |succ j=>simp at y
    ·cases j with
     |zero=>simp at y;subst y;simp[cellAt,World.cell?,cQ,F]
     |succ j=>simp at y
  ·simp at A
 ·rename_i p t0 i c;obtain⟨tv,hg,A⟩:=ry A;obtain⟨b,o,len,cap,cI,bL,h0,aa,M⟩:∃b o len cap,VO (g.rc C w) p/\(g.rc C w).va p=some (.slice (some ⟨b,o,none⟩) len cap)/\0<=i/\i<(len:Int)/\u=.pointer (some ⟨b,o+i.toNat*aA t0+c,none⟩):=by
   cases hp;exact⟨_,_,_,_,by assumption,by assumption,by assumption,by assumption,rfl⟩
  have H:=sJ h bL hg;split at A
  ·rename_i d t' I;obtain⟨ht,cB⟩:=bQ.1 A;have ht:=ef ht;clear A;subst ht;obtain⟨x,hx,A⟩:=dw.1 cB;obtain⟨_,hx⟩:=mO.1 hx;obtain⟨U,A⟩:=bQ.1 A;have U:=yM.1 U;rw[DF,DG] at A;rcases H with H|H
   ·simp at H
   rcases H.mR with⟨rfl,_⟩|⟨q,π,b',o',am,cs,e,fr,f,hm,F,Zo,eO,hh,lH,hs,J,hr⟩
   ·simp at hx
   simp only[Value.slice.injEq,aQ,Addr.mk.injEq,jI] at F;obtain⟨⟨rfl,rfl⟩,rfl,rfl⟩:=F;have fX:=ic d t' x;refine S (cs:=vl (λj=>.sub p t' i (Nat.add c j)) 0 (((enc d t' x).drop c).take (C.aR t).sz)) (vs:=(List.range (C.aR t).sz).map λj=>f i.toNat (c+j)) ?_ ?_ ?_ ?_ ?_ ?_ A M
   ·rw[Ki];simp;omega
   ·rw[Ki];simp;omega
   ·intro tv a8;obtain⟨j,y⟩:=tT a8;rw[Kh] at y;simp only[CG] at y;obtain⟨bP,y,rfl⟩:=y;exact abu (uU (fg (rk y).1))
   ·intro v F;simp only[gQ,CH] at F;obtain⟨j,y,rfl⟩:=F;exact(J _ x (c+j) _ hx (cT (by omega))).2
   ·intro j tv v y F m;rw[Kh] at y;simp only[CG] at y;obtain⟨bP,y,rfl⟩:=y;obtain⟨N,h2⟩:=rk y;rw[ir,Fm h2] at F;simp only[jA,aQ] at F;subst F;have M4:=J _ x (c+j) _ hx N;have ao:c+j<aA t':=by have:=(da.1 N).1;rwa[fX] at this
    refine ab0 (p:=.sub p t' i (Nat.add c (0+j))) (hr _ x (c+j) _ hx N) (uU (fg N)) ⟨cI,λb2 o2 a1 Ia ad=>?_⟩ ?_ m
    ·rw[bL] at ad;simp only[aQ,Value.slice.injEq,Addr.mk.injEq,jI] at ad;obtain⟨⟨rfl,_⟩,_⟩:=ad;simp only[aQ] at hm;rw[hm];exact .inr eO
    ·have ap:va C.vs g.tm g.bx w p=some (.slice (some ⟨b,o,none⟩) I.length cap):=bL;simp only[Gs.rc,va,ap];rw[aD ⟨h0,aa,by simpa using ao⟩];have:=M4.1;simp only[iu];exact this
   ·intro j v y;rw[ir] at y;cases Y:(List.range (C.aR t).sz)[j]? with
    |none=>simp[Y] at y
    |some j'=>
     obtain⟨zu,B8⟩:=da.1 Y;simp at zu B8;subst B8;rw[Y] at y;simp only[jA,aQ] at y;subst y;have:=(J _ x (c+j) _ hx (cT (by omega))).1;rw[ra];exact this
  ·rename_i t' I;obtain⟨ht,cB⟩:=bQ.1 A;have ht:=ef ht;clear A;subst ht;obtain⟨x,hx,A⟩:=dw.1 cB;obtain⟨_,hx⟩:=mO.1 hx;obtain⟨U,A⟩:=bQ.1 A;have U:=yM.1 U;rw[DF,DG] at A;rcases H with H|H
   ·simp at H
   rcases H.ub with⟨rfl,_⟩|⟨b',o',am,f,F,Zo,eO,J,hr⟩
   ·simp at hx
   simp only[Value.slice.injEq,aQ,Addr.mk.injEq,jI] at F;obtain⟨⟨rfl,rfl⟩,rfl,rfl⟩:=F;have fX:=ic false t' x;refine S (cs:=((enc false t' x).drop c).take (C.aR t).sz) (vs:=(List.range (C.aR t).sz).map λj=>f i.toNat (c+j)) ?_ ?_ ?_ ?_ ?_ ?_ A M
   ·simp;omega
   ·simp;omega
   ·intro tv a8;obtain⟨j,y⟩:=tT a8;exact GW (fg (rk y).1)
   ·intro v F;simp only[gQ,CH] at F;obtain⟨j,y,rfl⟩:=F;exact(J _ x (c+j) _ hx (cT (by omega))).2
   ·intro j tv v y F m;obtain⟨N,h2⟩:=rk y;rw[ir,Fm h2] at F;simp only[jA,aQ] at F;subst F;exact(hr _ x (c+j) _ hx N).lift m
   ·intro j v y;rw[ir] at y;cases Y:(List.range (C.aR t).sz)[j]? with
    |none=>simp[Y] at y
    |some j'=>
     obtain⟨zu,B8⟩:=da.1 Y;simp at zu B8;subst B8;rw[Y] at y;simp only[jA,aQ] at y;subst y;have:=(J _ x (c+j) _ hx (cT (by omega))).1;rw[ra];exact this
  ·simp at A
 ·rename_i cs c;obtain⟨U,A⟩:=bQ.1 A;have U:=yM.1 U;rw[DF,DG] at A;obtain⟨b,o,f,M,dx,eO,J,hr⟩:∃b o,∃f:Nat->Value,u=.pointer (some ⟨b,o+c,none⟩)/\(∀tv∈cs,bC tv=true)/\(g.rc C w).γ b=.im/\(∀(i:Nat)tv,cs[i]?=some tv->cellAt (g.rc C w).w b (o+i)=some (f i)/\(f i).oneCell'=true)/\(∀(i:Nat)tv,cs[i]?=some tv->Rd (g.rc C w) none tv (f i)):=by
   cases hp with
   |ip _ _ _ b o f N h2 h3 h4=>exact⟨b,o,f,rfl,N,h2,h3,h4⟩
  refine S (cs:=(cs.drop c).take (C.aR t).sz) (vs:=(List.range (C.aR t).sz).map λj=>f (c+j)) ?_ ?_ ?_ ?_ ?_ ?_ A M
  ·simp;omega
  ·simp;omega
  ·intro tv a8;obtain⟨j,y⟩:=tT a8;exact GW (dx tv (dH (rk y).1))
  ·intro v F;simp only[gQ,CH] at F;obtain⟨j,y,rfl⟩:=F;exact(J (c+j) _ (cT (by omega))).2
  ·intro j tv v y F m;obtain⟨N,h2⟩:=rk y;rw[ir,Fm h2] at F;simp only[jA,aQ] at F;subst F;exact(hr (c+j) _ N).lift m
  ·intro j v y;rw[ir] at y;cases Y:(List.range (C.aR t).sz)[j]? with
   |none=>simp[Y] at y
   |some j'=>
    obtain⟨zu,B8⟩:=da.1 Y;simp at zu B8;subst B8;rw[Y] at y;simp only[jA,aQ] at y;subst y;have:=(J (c+j) _ (cT (by omega))).1;rw[ra];exact this
 ·rename_i t' I;obtain⟨Q,A⟩:=bQ.1 A;obtain⟨_,dv,A⟩:=dw.1 A;have dv:(I.length:Int)=(C.aR t).sz:=ef (nG.1 dv);obtain⟨b,D,F,ln,cH,aM⟩:∃b D,u=.pointer (some ⟨b,D,none⟩)/\(g.rc C w).γ b=.im/\Ev.fP t'=false/\(∀(r:Nat)x,I[r]?=some x->cellAt (g.rc C w).w b (D+r)=some (ka t' x)):=by
   cases hp;exact⟨_,_,rfl,by assumption,by assumption,by assumption⟩
  exact vec cH Q dv aM A F
 ·simp at A
theorem aen(hC:eW P C)(h:Rel C E s g w)(l:cD nt g a)(u:gN nt o.dst){t:Nat}{x:Operand}(j:o.op=.load t x)(hx:dW nt x=true)(e:Ev.step C o s K=some r):gv P C E nt o g a w K r Z:=by
 simp only[Ev.step,j] at e;obtain⟨y,e⟩:=bQ.1 e;obtain⟨b,A,v,tv,D,F,H,I⟩:=aq1 (P:=P) hC h y (iS h l hx) e;exact uc (n:=0) (γ1:=g.γ) h (.refl _) h.aC.new l u (I _) (by simp[execOp,j,Instr.loadAt,D,Instr.sureAddr,H]) F
end
end
section
section
variable{P:Program}{C:Cx}{E:Env}{nt n:Nat}{o:Oper}{s s1:TS}{g:Gs}{a:Act}{w:World}{R:Type}{r:R}{K:TS->Option R}{Z:Rt->Prop}{γ1:Nat->G}{tv:TV}{v:Value}
theorem apu{ft:Nat}(hC:eW P C)(x:(C.aR ft).var=true){j:Array Value}{e:Nat}{u:Value}(y:(C.aR ft).ag=false)(A:j[e]?=some u):(part ft j e).run P w=.ok u w:=by
 obtain⟨H,I,D,⟨d,F⟩,_⟩:=sN (hC.ty ft) x;simp[part,GG F,D,y,A]
theorem ac4(hC:eW P C)(h:Rel C E s g w)(l:cD nt g a)(hd:gN nt o.dst){t:Nat}{x i:Operand}(M:o.op=.index t x i)(hx:dW nt x=true)(hi:dW nt i=true)(j:Ev.step C o s K=some r):gv P C E nt o g a w K r Z:=by
 simp only[Ev.step,M] at j;obtain⟨F,j⟩:=bQ.1 j;have H:=iS h l hx;have I:=iS h l hi;split at j
 ·rename_i b k n N Q;rw[N] at H F;rw[Q] at I;have S:=H.pK;have U:=I.kU;have a7:C.aR t=.str:=by cases Y:C.aR t<;>rw[Y] at F<;>first|rfl|(simp[jD] at F)
  have hu:=yZ (hC.ty t) a7;obtain⟨c,D,j⟩:=dw.1 j;unfold iC at D;split at D
  ·rename_i h0;simp only[CG] at D;obtain⟨c,D,rfl⟩:=D;obtain⟨aa,vR⟩:=da.1 D;have vD:(ByteArray.mk ⟨b⟩)[n.toNat]?=some c:=by
    have y:n.toNat<(ByteArray.mk ⟨b⟩).size:=aa
    rw[getElem?_pos (ByteArray.mk ⟨b⟩) n.toNat y,<-vR]
    rfl
   exact kS h l hd (.i none _ _) rfl (by simp[execOp,M,S,U,Instr.index,asIntOf,run_underlying hu,h0,vD]) j
  ·simp at D
 ·rename_i A J k n N Q;rw[N] at H F;rw[Q] at I;have U:=I.kU;obtain⟨len,e,bY⟩:∃len e,C.aR t=.ar len e:=by
   cases Y:C.aR t<;>rw[Y] at F<;>first|exact⟨_,_,rfl⟩|simp[jD] at F
  obtain⟨et,hu,fX,h3,cH,_,_⟩:=LZ (hC.ty t) bY;obtain⟨iY,iM,_⟩:=uW fX;obtain⟨_,dv,j⟩:=dw.1 j;have dv:n<(len:Int):=by have:=ef (nG.1 dv);rwa[bY] at this
  obtain⟨z,hz,j⟩:=dw.1 j;obtain⟨h0,hz⟩:=mO.1 hz;cases ha:Ev.fP A with
  |true=>rw[ha] at j;simp at j
  |false=>
   rw[ha,aH] at j;obtain⟨tv,a8,gk,dx,ab,xU⟩:=DY ha false z;have S:a.eval x=.agg (J.map (ka A)).toArray:=by generalize iX x=m at H;generalize a.eval x=u at H;cases H;rfl
   have hv:(J.map (ka A)).toArray[n.toNat]?=some (ka A z):=by simp[hz]
   have y:=AE (P:=P) (w:=w) iM;rw[iY,h3] at y;rw[a8] at j;have Bx:(part et (J.map (ka A)).toArray n.toNat).run P w=.ok (ka A z) w:=by
    have M9:∃d,P.underlying et=some d:=by
     simp only[Eb,bo] at fX
     have:=fX.2
     unfold M8 at this
     split at this<;>first|exact⟨_,by assumption⟩|simp at this
    obtain⟨d,M9⟩:=M9
    have cG:(Array.map (ka A) J.toArray)[n.toNat]?=some (ka A z):=by simpa using hv
    simp[part,GG M9,cH,hz]
   refine kS h l hd (gk _ none) ab ?_ j;simp only[execOp,M,S,U];simp[Instr.index,asIntOf,run_underlying hu,h0,dv,y];rw[Bx];rfl
 ·simp at j
theorem afy(h:Rel C E s g w)(l:cD nt g a)(D:gN nt o.dst){F:Array TypeId}{x y:Operand}(j:o.op=.call ⟨.builtin .min,#[x,y],F⟩)(hx:dW nt x=true)(H:dW nt y=true)(e:Ev.step C o s K=some r):
  gv P C E nt o g a w K r Z:=by
 have u:=iS h l hx;have A:=iS h l H;simp only[Ev.step,j] at e;split at e
 ·rename_i k n Q m I J;rw[I] at u;rw[J] at A;have M:=u.kU;have N:=A.kU;exact kS (v:=.int k (if m<n then m else n)) h l D (.i none k (En n m)) rfl (by simp[execOp,j,resolve,invoke,builtin,Builtin.min_,Builtin.min2,M,N]) e
 ·simp at e
theorem afz(h:Rel C E s g w)(l:cD nt g a)(D:gN nt o.dst){F:Array TypeId}{x y:Operand}(j:o.op=.call ⟨.builtin .max,#[x,y],F⟩)(hx:dW nt x=true)(H:dW nt y=true)(e:Ev.step C o s K=some r):
  gv P C E nt o g a w K r Z:=by
 have u:=iS h l hx;have A:=iS h l H;simp only[Ev.step,j] at e;split at e
 ·rename_i k n Q m I J;rw[I] at u;rw[J] at A;have M:=u.kU;have N:=A.kU;exact kS (v:=.int k (if m>n then m else n)) h l D (.i none k (imax n m)) rfl (by simp[execOp,j,resolve,invoke,builtin,Builtin.max_,Builtin.max2,M,N]) e
 ·simp at e
theorem afA(hC:eW P C)(h:Rel C E s g w)(l:cD nt g a)(hd:gN nt o.dst){t:Nat}{Y:List Nat}{x:Operand}(I:o.op=.call ⟨.builtin .len,#[x],⟨t::Y⟩⟩)(hx:dW nt x=true)(y:Ev.step C o s K=some r):gv P C E nt o g a w K r Z:=by
 simp only[Ev.step,I] at y;obtain⟨M,y⟩:=bQ.1 y;have A:=iS h l hx;have N:∀n,K (cz C s o.dst (.i .i64 n))=some r->(Builtin.len_ ⟨t::Y⟩ o.type #[a.eval x]).run P w=.ok (.int .i64 n) w->gv P C E nt o g a w K r Z:=λn y hr=>
  kS h l hd (.i none .i64 n) rfl (by simp[execOp,I,resolve,invoke,builtin,hr]) y
 have J:∀{va:Option Addr}{len cap:Nat},(∃e sz cF,C.aR t=.sl e sz cF)->a.eval x=.slice va len cap->K (cz C s o.dst (.i .i64 (len:Int)))=some r->gv P C E nt o g a w K r Z:=λ{va len cap}⟨e,sz,cF,F⟩D y=>by
  obtain⟨et,hu,_⟩:=zg (hC.ty t) F
  exact N _ y (by simp[Builtin.len_,run_underlying hu,D,goInt])
 have sl:(∀b,aU C s x≠.s b)->(∀b,aU C s x≠.b b)->(∀k n,aU C s x≠.i k n)->(∀cs,aU C s x≠.agg cs)->(∀q,aU C s x≠.er q)->(aU C s x≠.mY)->(∀t Q,aU C s x≠.vec t Q)->(∀t Q,aU C s x≠.iv t Q)->(∀k c,aU C s x≠.ptr k c)->∃e sz cF,C.aR t=.sl e sz cF:=by
  intro j h2 h3 h4 h5 h6 h7 h8 h9
  cases S:C.aR t<;>rw[S] at M<;>first
   |exact⟨_,_,_,rfl⟩
   |(exfalso;cases I:aU C s x<;>rw[I] at M<;>first|(simp[jD] at M;done)|exact j _ I|exact h2 _ I|exact h3 _ _ I|exact h4 _ I|exact h5 _ I|exact h6 I|exact h7 _ _ I|exact h8 _ _ I|exact h9 _ _ I)
 unfold Mg at y;split at y
 ·rename_i b j;rw[j] at A M;have a7:C.aR t=.str:=by cases S:C.aR t<;>rw[S] at M<;>first|rfl|(simp[jD] at M)
  exact N _ y (by simp[Builtin.len_,run_underlying (yZ (hC.ty t) a7),A.pK,goInt];rfl)
 ·rename_i U Q j;have F:=sl (by simp[j]) (by simp[j]) (by simp[j]) (by simp[j]) (by simp[j]) (by simp[j]) (by simp[j]) (by simp[j]) (by simp[j]);rw[j] at A;obtain⟨va,cap,D,_⟩:=A.Hr;exact J F D y
 ·rename_i U Q j;have F:=sl (by simp[j]) (by simp[j]) (by simp[j]) (by simp[j]) (by simp[j]) (by simp[j]) (by simp[j]) (by simp[j]) (by simp[j]);rw[j] at A;obtain⟨va,cap,D,_⟩:=A.DT.Hr;exact J F D y
 ·rename_i j;have F:=sl (by simp[j]) (by simp[j]) (by simp[j]) (by simp[j]) (by simp[j]) (by simp[j]) (by simp[j]) (by simp[j]) (by simp[j]);rw[j] at A;have D:a.eval x=.slice none 0 0:=by generalize iX x=m at A;generalize a.eval x=u at A;cases A;rfl
  exact J F D y
 ·rename_i j;have F:=sl (by simp[j]) (by simp[j]) (by simp[j]) (by simp[j]) (by simp[j]) (by simp[j]) (by simp[j]) (by simp[j]) (by simp[j]);rw[j] at A;obtain⟨va,D⟩:∃va,a.eval x=.slice va 0 0:=by generalize iX x=m at A;generalize a.eval x=u at A;cases A;exact⟨_,rfl⟩
  exact J F D y
 ·rename_i p U j;have F:=sl (by simp[j]) (by simp[j]) (by simp[j]) (by simp[j]) (by simp[j]) (by simp[j]) (by simp[j]) (by simp[j]) (by simp[j]);rw[j] at A;obtain⟨tv,hg,y⟩:=ry y;have bL:(g.rc C w).va p=some (a.eval x):=by generalize iX x=m at A;cases A;assumption
  have H:=sJ h bL hg;split at y
  ·rcases H with H|H
   ·simp at H
   obtain⟨va,cap,D,_⟩:=H.QQ;exact J F D y
  ·rcases H with H|H
   ·simp at H
   obtain⟨q,π,b,aa,cap,cs,ee,fr,f,hm,D,_⟩:=H.Ww;exact J F D y
  ·rcases H with H|H
   ·simp at H
   obtain⟨va,cap,D,_⟩:=H.Hr;exact J F D y
  ·simp at y
 ·rename_i p U lo hi j;have F:=sl (by simp[j]) (by simp[j]) (by simp[j]) (by simp[j]) (by simp[j]) (by simp[j]) (by simp[j]) (by simp[j]) (by simp[j]);rw[j] at A;obtain⟨va,cap,D,h2,h3⟩:∃va cap,a.eval x=.slice va (hi.toNat-lo.toNat) cap/\0<=lo/\lo<=hi:=by
   generalize iX x=m at A;generalize a.eval x=u at A;cases A;exact⟨_,_,rfl,by assumption,by assumption⟩
  refine J F D ?_;have:BM hi lo=((hi.toNat-lo.toNat:Nat):Int):=by simp only[BM];omega
  rw[<-this];exact y
 ·simp at y
def mn(γ:Nat->G)(n e j:Nat):Nat->G:=λb=>
 match γ b with
 |.at (.aw i) ((x,c)::p)=>if i=n/\x=0/\e<=c then .at (.aw j) ((0,c-e)::p) else .at (.aw i) ((x,c)::p)
 |x=>x
theorem ams{γ:Nat->G}{n e u b j:Nat}{p:aZ}(h:γ b=.at (.aw n) ((0,e+j)::p)):mn γ n e u b=.at (.aw u) ((0,j)::p):=by
 simp[mn,h]
theorem Dx{γ:Nat->G}{n e n':Nat}:FK (λq=>q=.aw n) γ (mn γ n e n') where
 im:=λb h=>by simp[mn,h]
 at':=λb q p h hz=>by
  by_cases j:q=.aw n
  ·have:=hz j;simp[lU,j] at this
  ·unfold mn;rw[h];split
   ·rename_i i x c A u;simp only[G.at.injEq] at u;obtain⟨rfl,rfl⟩:=u;rw[aE (λy=>j (by rw[y.1]))]
   ·rfl
 fr:=λb h=>by simp[mn,h]
theorem anG(hC:eW P C)(h:Rel C E s g w)(l:cD nt g a)(hd:gN nt o.dst){t:Nat}{x:Operand}{j:Nat}(H:o.op=.field t x j)(hx:dW nt x=true)(A:Ev.step C o s K=some r):gv P C E nt o g a w K r (uC x):=by
 simp only[Ev.step,H] at A;split at A
 ·rename_i cs t' m fs cH ht;split at A
  ·rename_i a1 ft hf;obtain⟨gn,A⟩:=bQ.1 A;have gn:=yM.1 gn;rw[DF,DG] at A;obtain⟨gs,hu,F,_,oD⟩:=Sb (hC.ty t) ht;obtain⟨f,Iz,rfl,rfl,hm⟩:=UR F hf;have D:=oD _ hm;obtain⟨iY,iM,ad,⟨d,M9⟩,_⟩:=sN (hC.ty f.type) D;obtain⟨γ1,U,gk,Zp⟩:=H9 (n:=0) h l hC.gl hx;rw[cH] at gk;generalize jj:a.eval x=u at gk;cases gk with
   |agg _ _ vs xV hl xU hr=>
    rw[ni] at Iz;have jk:FK (uC x) g.γ (mn γ1 0 f.offset 1)\/True:=.inr trivial;have aa:FK (λq=>uC x q\/∃n,q=.aw n) g.γ (mn γ1 0 f.offset 1):=(Zp.mono (λq y=>.inl y)).trans (Dx.mono (λq y=>.inr ⟨0,y⟩));have e:Rel C E (iD s x) {g with γ:=mn γ1 0 f.offset 1} w:=by
     refine U.pf (g':={g with γ:=mn γ1 0 f.offset 1}) (X:=λq p=>(∃n,q=.aw n)/\¬ lU q p) ((Dx.mono (Z':=λq=>∃n,q=.aw n) (λq y=>⟨0,y⟩)).fK U.aC.new) (λk=>.inr ⟨rfl,rfl,λp hx=>by obtain⟨⟨n,I⟩,_⟩:=hx;simp at I,?_⟩) (λk=>.inr ⟨rfl,rfl,λp hx=>by obtain⟨⟨n,I⟩,_⟩:=hx;simp at I⟩)
     refine⟨λ_ _=>rfl,λp F=>⟨rfl,λM=>?_⟩,λp F π hx=>by obtain⟨⟨n,I⟩,_⟩:=hx;exact jo p n I⟩
     exact(oU (C:=C) (g:={g with γ:=γ1}) (g':={g with γ:=mn γ1 0 f.offset 1}) ((Dx (n':=1)).fK U.aC.new) p M (qj ((Dx (n':=1)).fK U.aC.new) λq y _ hx=>jo q 0 hx.1) (λ_ _ _=>rfl) (λk _=>⟨rfl,λhx=>by have:=hx.1;simp at this⟩)).2
    have IB:∀(j:Nat)tv v,cs[f.offset+j]?=some tv->vs[f.offset+j]?=some v->Rd (Gs.rc C {g with γ:=mn γ1 0 f.offset 1} w) (some (.aw 1,[(0,j)])) tv v:=λj tv v Y D=>by
     have h0:=hr _ _ _ Y D
     refine h0.mono _ (λb N=>⟨Dx.im b N,rfl⟩) (λq p y=>?_) (λ_ _=>rfl) (λp F=>⟨rfl,λM=>?_⟩) (λp F=>absurd F (Wu (xV tv (dH Y)) p))
     ·simp only[lZ,jA,aQ,cZ] at y;obtain⟨rfl,rfl⟩:=y;exact⟨_,_,rfl,λb π N=>⟨ams (p:=π) (by have dS:γ1 b=_:=N;simpa using dS),rfl⟩⟩
     ·exact(oU (C:=C) (g:={g with γ:=γ1}) (g':={g with γ:=mn γ1 0 f.offset 1}) ((Dx (n':=1)).fK U.aC.new) p M (qj ((Dx (n':=1)).fK U.aC.new) λq y _ hx=>jo q 0 hx.1) (λ_ _ _=>rfl) (λk _=>⟨rfl,λhx=>by have:=hx.1;simp at this⟩)).2
    cases ha:(C.aR f.type).ag with
    |true=>
     rw[ha] at A;have uw:(part f.type vs f.offset).run P w=.ok (.agg (vs.extract f.offset (f.offset+(C.aR f.type).sz))) w:=by
      simp[part,GG M9,ad,ha,AE (P:=P) (w:=w) (t:=f.type) (by omega),iY]
     have ab:∀(j:Nat)v,(vs.extract f.offset (f.offset+(C.aR f.type).sz))[j]?=some v->vs[f.offset+j]?=some v:=λj v D=>by
      rw[Array.getElem?_extract] at D
      split at D
      ·exact D
      ·simp at D
     have am:Rd (Gs.rc C {g with γ:=mn γ1 0 f.offset 1} w) (some (.aw 1,[])) (.agg ((cs.drop f.offset).take (C.aR f.type).sz)) (.agg (vs.extract f.offset (f.offset+(C.aR f.type).sz))):=by
      refine .agg _ _ _ (λtv a8=>?_) (by simp;omega) (λj tv v Y D=>?_) (λj tv v Y D=>?_)
      ·obtain⟨i,hi⟩:=tT a8;exact xV tv (dH (rk hi).1)
      ·exact xU _ _ _ (rk Y).1 (ab _ _ D)
      ·exact IB j tv v (rk Y).1 (ab _ _ D)
     have hh:=uc (P:=P) (o:=o) (n:=1) e aa h.aC.new l hd am (by simp[execOp,H,Instr.field,run_underlying hu,Iz,jj,asAgg,uw]) A;obtain⟨s',h3,h4⟩:=hh;exact⟨s',h3,λnext Q I=>h4 next Q (λa' w'⟨g',H⟩=>I a' w' ⟨g',{H with fK:=H.fK.mono (λq p hx=>⟨by rcases hx.1 with(J|J)|J<;>first|exact .inl J|exact .inr J,hx.2⟩)}⟩)⟩
    |false=>
     rw[ha] at A;have ao:=Sa _ ha;rw[ao] at gn A;have S:f.offset<cs.length:=by omega
     have EK:f.offset<vs.size:=by omega
     have zP:(cs.drop f.offset).take 1=[cs[f.offset]]:=by
      rw[lx S];rfl
     rw[zP] at A;have ap:=IB 0 cs[f.offset] vs[f.offset] (by simp[S]) (by simp[EK]);have uw:=apu (ft:=f.type) (w:=w) hC D ha (jX EK);have L1:Rel C E (iD s x) {g with γ:=bV (mn γ1 0 f.offset 1) (.aw 1) [(0,0)] (.aw 2) []} w:=by
      refine e.pf (g':={g with γ:=bV (mn γ1 0 f.offset 1) (.aw 1) [(0,0)] (.aw 2) []}) (ri (q1:=.aw 1) (p1:=[(0,0)]) (q2:=.aw 2) (p2:=[]) e.aC.new) (λk=>.inr ⟨rfl,rfl,λp hx=>by simp[cW] at hx,?_⟩) (λk=>.inr ⟨rfl,rfl,λp hx=>by simp[cW] at hx⟩)
      refine⟨λ_ _=>rfl,λp F=>⟨rfl,λM=>?_⟩,λp F π hx=>jo p 1 hx.1⟩
      exact(oU (C:=C) (g:={g with γ:=mn γ1 0 f.offset 1}) (g':={g with γ:=bV (mn γ1 0 f.offset 1) (.aw 1) [(0,0)] (.aw 2) []}) (ri e.aC.new) p M (qj (ri e.aC.new) λq y _ hx=>jo q 1 hx.1) (λ_ _ _=>rfl) (λk _=>⟨rfl,λhx=>by simp[cW] at hx⟩)).2
     have aM:Rd (Gs.rc C {g with γ:=bV (mn γ1 0 f.offset 1) (.aw 1) [(0,0)] (.aw 2) []} w) (some (.aw 2,[])) cs[f.offset] vs[f.offset]:=by
      refine ap.mono _ (λb N=>⟨ua N,rfl⟩) (λq p y=>?_) (λ_ _=>rfl) (λp F=>⟨rfl,λM=>?_⟩) (λp F=>absurd F (Wu (xV _ (bI S)) p))
      ·simp only[aQ,cZ] at y;obtain⟨rfl,rfl⟩:=y;exact⟨_,_,rfl,λb π N=>⟨DH N,rfl⟩⟩
      ·exact(oU (C:=C) (g:={g with γ:=mn γ1 0 f.offset 1}) (g':={g with γ:=bV (mn γ1 0 f.offset 1) (.aw 1) [(0,0)] (.aw 2) []}) (ri e.aC.new) p M (qj (ri e.aC.new) λq y _ hx=>jo q 1 hx.1) (λ_ _ _=>rfl) (λk _=>⟨rfl,λhx=>by simp[cW] at hx⟩)).2
     have a0:FK (λq=>uC x q\/∃n,q=.aw n) g.γ (bV (mn γ1 0 f.offset 1) (.aw 1) [(0,0)] (.aw 2) []):=aa.trans ((FK.bV Dw).mono (λq y=>.inr ⟨1,y⟩));have hh:=uc (P:=P) (o:=o) (n:=2) (v:=vs[f.offset]) L1 a0 h.aC.new l hd aM (by simp[execOp,H,Instr.field,run_underlying hu,Iz,jj,asAgg,uw]) A;obtain⟨s',h3,h4⟩:=hh;exact⟨s',h3,λnext Q I=>h4 next Q (λa' w'⟨g',H⟩=>I a' w' ⟨g',{H with fK:=H.fK.mono (λq p hx=>⟨by rcases hx.1 with(J|J)|J<;>first|exact .inl J|exact .inr J,hx.2⟩)}⟩)⟩
  ·simp at A
 ·simp at A
end
end
section
theorem ab1:∀{cs:List TV},LR cs=false->∀tv∈cs,iB tv=false/\tv≠.un
 |[],_,tv,h=>by simp at h
 |c::cs,j,tv,h=>by
  have e:LR cs=false/\iB c=false/\c≠.un:=by cases c<;>simp_all [LR,iB]
  rcases cO.1 h with rfl|h
  ·exact e.2
  ·exact ab1 e.1 tv h
theorem apv{tv:TV}(h:eE tv=true)(e:iB tv=false):fJ tv=true:=by
 cases tv<;>simp_all [eE,bC,fJ,iB]
theorem Rd.R1{c:Rc}{m:Option Gp}{tv:TV}{v:Value}(h:Rd c m tv v)(x:ik tv=true)(e:BP tv=false)(y:Option Gp):Rd c y tv v:=by
 cases tv with
 |agg cs=>
  cases h with
  |agg _ _ vs A D F H=>
   have I:=ab1 (cs:=cs) (by simpa[BP] using e);have J:cs.all eE=true:=x;refine .agg _ _ _ A D F (λj tv v u M=>(H j tv v u M).anyM ?_ _);exact apv (jJ.1 J tv (dH u)) (I tv (dH u)).1
 |own=>simp[BP] at e
 |gJ=>simp[BP] at e
 |dM=>simp[ik,eE,bC] at x
 |_=>exact h.anyM rfl y
section
variable{P:Program}{C:Cx}{E:Env}{nt n:Nat}{o:Oper}{s s1:TS}{g:Gs}{a:Act}{w:World}{R:Type}{r:R}{K:TS->Option R}{Z:Rt->Prop}{γ1:Nat->G}{tv:TV}{v:Value}
theorem abv(h:Rel C E s g w)(l:cD nt g a)(hd:gN nt o.dst){k i:Nat}(ho:o.op=.extract (.tmp k) i)(hx:dW nt (.tmp k)=true)(y:Ev.step C o s K=some r):
  gv P C E nt o g a w K r (λq=>uC (.tmp k) q/\∃vs,s.slot k=.dM vs/\BP (nth vs i)=true):=by
 simp only[Ev.step,ho] at y;have pg:a.eval (.tmp k)=g.tm k:=l.tm k (by simpa[dW,wO] using hx);split at y
 ·rename_i cs hs;obtain⟨gn,y⟩:=bQ.1 y;have gn:=yM.1 gn;have I:=h.eK k;rw[hs] at I;have tC:∀a len cap,g.tm k≠.slice a len cap:=λa len cap e=>by rw[e] at I;cases I
  generalize J:g.tm k=u at I;cases I with
  |dM _ _ vs S hl pZ=>
   have A:i<cs.length:=by omega
   have EK:i<vs.size:=by omega
   have hn:nth cs i=cs[i]:=by rw[yY,cT A];rfl
   have Zq:=pZ i _ _ (cT A) (jX EK);have Q:=S _ (bI A);have gh:(execOp a.eval o).run P w=.ok (.value vs[i]) w:=by simp[execOp,ho,pg,J,Instr.extract,EK]
   split at y
   ·rename_i x;rw[hn] at y;have a7:bw (cW (.slot k) [(0,i)]) g.γ w (bV g.γ (.slot k) [(0,i)] (.aw 0) []) w:=ri h.aC.new;have M:Rel C E (s.raw k (.dM (lY cs i .un))) {g with γ:=bV g.γ (.slot k) [(0,i)] (.aw 0) []} w:=by
     refine h.R6 a7 (X5 h tC) ?_
     rw[J,vc]
     refine .dM _ _ _ (λtv a8=>?_) (by simpa using hl) (λj tv v N hv=>?_)
     ·rcases Fj a8 with h1|rfl
      ·exact S tv h1
      ·rfl
     ·by_cases U:i=j
      ·subst U;rw[Oj A] at N;cases N;exact .un _ _
      ·rw[Ja U] at N;have Y:=S tv (dH N);refine(pZ j tv v N hv).same (λb D=>⟨ua D,rfl⟩) (λq p F b π D=>?_) (λi hi=>absurd hi (Hq Y i)) (λp H=>absurd H (u9 Y p)) (λp H=>absurd H.mv (u9 Y p));simp only[lZ,jA,aQ,cZ] at F;obtain⟨rfl,rfl⟩:=F;exact⟨AS D λ⟨_,t,ht⟩=>by simp at ht;exact U ht.1,rfl⟩
    have gk:Rd (Gs.rc C {g with γ:=bV g.γ (.slot k) [(0,i)] (.aw 0) []} w) (some (.aw 0,[])) cs[i] vs[i]:=by
     refine Zq.mono _ (λb D=>⟨ua D,rfl⟩) (λq p F=>?_) (λi hi=>absurd hi (Hq Q i)) (λp H=>absurd H (u9 Q p)) (λp H=>absurd H.mv (u9 Q p))
     simp only[lZ,jA,aQ,cZ] at F
     obtain⟨rfl,rfl⟩:=F
     exact⟨_,_,rfl,λb π D=>⟨DH D,rfl⟩⟩
    exact uc M ((FK.bV Dq).mono (λq F=>⟨⟨k,rfl,F⟩,cs,hs,x⟩)) h.aC.new l hd gk gh y
   ·rename_i x;rw[hn] at y x;exact uc (n:=0) (γ1:=g.γ) h (.refl _) h.aC.new l hd (Zq.R1 Q x _) gh y
 ·simp at y
def Sc(v:Option Value)(d n:Int):Prop:=(v=none/\n=d)\/∃k,v=some (.int k n)
def Ib(nt:Nat):Option Operand->Bool|some x=>dW nt x|none=>true
theorem DI(h:Rel C E s g w)(l:cD nt g a){x:Option Operand}{d n:Int}(hx:Ib nt x=true)(e:ij C s d x=some n):Sc (x.map a.eval) d n:=by
 cases x with
 |none=>simp only[ij,aQ] at e;exact .inl ⟨rfl,e.symm⟩
 |some x=>
  simp only[ij] at e;split at e
  ·rename_i k m j;simp only[aQ] at e;subst e;have:=iS h l hx;rw[j] at this;exact .inr ⟨k,by simp[this.kU]⟩
  ·simp at e
theorem abw{P:Program}(sl:Bool){len cap:Nat}{lo hi:Option Value}{l h:Int}(e:Sc lo 0 l)(j:Sc hi len h)(h0:0<=l)(x:l<=h)(y:h<=cap):
  (Instr.sliceBounds sl len cap lo hi none).run P w=.ok (l.toNat,h.toNat,cap) w:=by
 have u:((h.toNat:Nat):Int)=h:=by omega
 rcases e with⟨rfl,rfl⟩|⟨k,rfl⟩<;>rcases j with⟨rfl,rfl⟩|⟨A,rfl⟩<;>simp[Instr.sliceBounds,Instr.sliceBound,asIntOf]<;>(try rw[u])<;>(try simp)<;>(try(repeat' split))<;>(try simp_all)<;>(try omega)
theorem alm{P:Program}{len cap:Nat}{lo hi:Option Value}{l h m:Int}{k:IntKind}(u:Sc lo 0 l)(x:∃k,hi=some (.int k h))(h0:0<=l)(D:l<=h)(F:h<=m)(y:m<=cap):
  (Instr.sliceBounds true len cap lo hi (some (.int k m))).run P w=.ok (l.toNat,h.toNat,m.toNat) w:=by
 have H:((h.toNat:Nat):Int)=h:=by omega
 have I:((m.toNat:Nat):Int)=m:=by omega
 obtain⟨J,rfl⟩:=x;have j:0<=m/\m<=(cap:Int):=⟨by omega,y⟩;have e:0<=h/\h<=((m.toNat:Nat):Int):=by omega
 rcases u with⟨rfl,rfl⟩|⟨k,rfl⟩
 ·simp[Instr.sliceBounds,Instr.sliceBound,asIntOf,j,e];intro M;omega
 ·have A:0<=l/\l<=((h.toNat:Nat):Int):=by omega
  simp[Instr.sliceBounds,Instr.sliceBound,asIntOf,j,e,A];rw[aD (by omega),aD (by omega)]
theorem aa1{P:Program}{t:TypeId}{x:Value}{lo hi mx:Option Value}(h:∀n e,P.underlying t≠some (.array n e)){d:TypeDesc}(j:P.underlying t=some d):(Instr.sliceAt t x lo hi mx).run P w=(Instr.slice t x lo hi mx).run P w:=by
 simp only[Instr.sliceAt,Sem.run_bind,run_underlying j,Result.andThen];cases d<;>first|rfl|exact absurd j (h _ _)
theorem ale{P:Program}{t e:TypeId}{lo hi mx:Option Value}{va:Option Addr}{len cap:Nat}{l h m:Nat}(j:P.underlying t=some (.slice e))(u:0<P.cellsOf e)
  (x:(Instr.sliceBounds true len cap lo hi mx).run P w=.ok (l,h,m) w):
  (Instr.sliceAt t (.slice va len cap) lo hi mx).run P w=.ok (.slice (if m=l then va else va.map (·.add (l*P.cellsOf e))) (h-l) (m-l)) w:=by
 rw[aa1 (by rw[j];simp) j];simp[Instr.slice,run_underlying j,x,AE u]
theorem anH{va:Option Addr}{b e:Nat}(n:Nat)(h:va=some ⟨b,e,none⟩):va.map (·.add n)=some ⟨b,e+n,none⟩:=by
 subst h;simp[PA]
inductive Cut(P:Program)(w:World)(lo hi mx:Option Value)(len cap:Nat)(l h:Int)(m:Nat):Prop where
 |mk:(Instr.sliceBounds true len cap lo hi mx).run P w=.ok (l.toNat,h.toNat,m) w->0<=l->l<=h->h<=m->m<=cap->Cut P w lo hi mx len cap l h m
theorem Rd.ac5{c:Rc}{m m':Option Gp}{t:Ty}{j:List (El t)}{a u:Option Addr}{len cap e:Nat}{lo hi:Int}(h:Rd c m (.bJ t j) (.slice a len cap))(A:0<=lo)(D:lo<=hi)(x:hi<=j.length)
  (F:∀b o,a=some ⟨b,o,none⟩->lo<hi->u=some ⟨b,o+lo.toNat*aA t,none⟩)(H:hi.toNat-lo.toNat<=e):Rd c m' (.bJ t ((j.drop lo.toNat).take (hi.toNat-lo.toNat))) (.slice u (hi.toNat-lo.toNat) e):=by
 by_cases hz:lo=hi
 ·subst hz;simp only[Ao,Fk];exact .lE _ _ _ _
 ·rcases h.ub with⟨rfl,_⟩|⟨b,o,I,f,y,_⟩
  ·simp at x;omega
  ·simp only[Value.slice.injEq] at y;obtain⟨rfl,_⟩:=y;exact h.Lb A D x (.inr ⟨b,o,rfl,F b o rfl (by omega)⟩) H
theorem Rd.apw{c:Rc}{m x:Option Gp}{t:Ty}{j:List (El t)}{a:Option Addr}{n:Nat}(h:Rd c m (.bJ t j) (.slice a n n)):Rd c x (.eM t j) (.slice a n n):=by
 rcases h.ub with⟨rfl,F,u,e⟩|⟨b,o,cap,f,e,H,y,A,D⟩
 ·simp only[Value.slice.injEq] at e;obtain⟨rfl,rfl,rfl⟩:=e;exact .sZ _ _ _
 ·simp only[Value.slice.injEq] at e;obtain⟨rfl,rfl,rfl⟩:=e;exact .s7 _ _ _ _ _ f y A D
theorem ac6(hC:eW P C)(h:Rel C E s g w)(l:cD nt g a)(hd:gN nt o.dst){t:Nat}{x:Operand}{lo hi mx:Option Operand}(ho:o.op=.slice t x lo hi mx)(hx:dW nt x=true)(p7:Ib nt lo=true)(Tf:Ib nt hi=true)(a1:Ib nt mx=true)
  (j:Ev.step C o s K=some r):gv P C E nt o g a w K r Z:=by
 simp only[Ev.step,ho] at j;obtain⟨S,j⟩:=bQ.1 j;have F:=iS h l hx;have sl:(∀b,aU C s x≠.s b)->(∀b,aU C s x≠.b b)->(∀k n,aU C s x≠.i k n)->(∀cs,aU C s x≠.agg cs)->(∀q,aU C s x≠.er q)->(aU C s x≠.mY)->(∀t xs,aU C s x≠.vec t xs)->(∀t xs,aU C s x≠.iv t xs)->(∀k c,aU C s x≠.ptr k c)->∃e sz cF,C.aR t=.sl e sz cF:=by
  intro A h2 h3 h4 h5 h6 h7 h8 h9
  cases eJ:C.aR t<;>rw[eJ] at S<;>first
   |exact⟨_,_,_,rfl⟩
   |(exfalso;cases ho:aU C s x<;>rw[ho] at S<;>first|(simp[jD] at S;done)|exact A _ ho|exact h2 _ ho|exact h3 _ _ ho|exact h4 _ ho|exact h5 _ ho|exact h6 ho|exact h7 _ _ ho|exact h8 _ _ ho|exact h9 _ _ ho)
 have part:∀{e sz cF}{va:Option Addr}{len cap m:Nat}{l' h':Int}{tv:TV},C.aR t=.sl e sz cF->a.eval x=.slice va len cap->Cut P w (lo.map a.eval) (hi.map a.eval) (mx.map a.eval) len cap l' h' m->
   (∀a',(∀b o,va=some ⟨b,o,none⟩->l'.toNat<m->a'=some ⟨b,o+l'.toNat*aA e,none⟩)->(m=l'.toNat->a'=va)->∃mm,Rd (g.rc C w) mm tv (.slice a' (h'.toNat-l'.toNat) (m-l'.toNat)))->fJ tv=true->K (cz C s o.dst tv)=some r->gv P C E nt o g a w K r Z:=by
  intro e sz cF va len cap m l' h' tv I H hc gk ha j
  obtain⟨et,hu,fX,_,_⟩:=zg (hC.ty t) I
  obtain⟨iY,iM,_⟩:=uW fX
  obtain⟨hb,h0,A,h2,h3⟩:=hc
  have gh:=ale (va:=va) hu iM hb
  rw[iY] at gh
  obtain⟨mm,gk⟩:=gk (if m=l'.toNat then va else va.map (·.add (l'.toNat*aA e))) (λb o bL be=>by rw[aE (by omega)];exact anH _ bL) (λxW=>by rw[aD xW])
  exact kS h l hd gk ha (by simp only[execOp,ho,H];simp[gh]) j
 have two:∀{len cap:Nat}{l' h':Int},ij C s 0 lo=some l'->ij C s len hi=some h'->0<=l'->l'<=h'->h'<=cap->mx=none->Cut P w (lo.map a.eval) (hi.map a.eval) (mx.map a.eval) len cap l' h' cap:=by
  intro len cap l' h' A h2 h3 h4 h5 h6
  subst h6
  exact⟨abw true (DI h l p7 A) (DI h l Tf h2) h3 h4 h5,h3,h4,h5,iI _⟩
 have three:∀{len cap:Nat}{l' h':Int}{y:Operand}{z:Operand}{m:Int},ij C s 0 lo=some l'->ij C s len hi=some h'->hi=some y->mx=some z->ij C s 0 (some z)=some m->0<=l'->l'<=h'->m=h'->h'<=cap->Cut P w (lo.map a.eval) (hi.map a.eval) (mx.map a.eval) len cap l' h' h'.toNat:=by
  intro len cap l' h' y z m A h2 h3 h4 h5 h6 h7 h8 h9
  subst h8
  have ap:=DI h l p7 A
  have am:=DI h l Tf h2
  have a3:=DI h l (x:=some z) (by rw[<-h4];exact a1) h5
  rw[h3] at am
  rw[h4]
  rw[h3]
  obtain⟨k,hz⟩:∃k,(some z).map a.eval=some (.int k m):=by
   rcases a3 with⟨eg,_⟩|eg
   ·simp at eg
   ·exact eg
  have hy:∃k,(some y).map a.eval=some (.int k m):=by
   rcases am with⟨eg,_⟩|eg
   ·simp at eg
   ·exact eg
  rw[hz];refine⟨?_,h6,h7,by omega,by omega⟩;exact alm ap hy h6 h7 (akw _) h9
 have YG:∀{e sz cF}{va:Option Addr}{len cap:Nat}{xs:List (El e)},C.aR t=.sl e sz cF->a.eval x=.slice va len cap->(∃mm,Rd (g.rc C w) mm (.bJ e xs) (.slice va len cap))->len=xs.length->len<=cap->∀{l' h'},ij C s 0 lo=some l'->ij C s (au xs) hi=some h'->mx=none->
   ∀{ys},dF xs l' h'=some ys->K (cz C s o.dst (.bJ e ys))=some r->gv P C E nt o g a w K r Z:=by
  intro e sz cF va len cap xs I H ⟨mm,hr⟩ ad D l' h' A h2 h3 ys ma j
  obtain⟨⟨h4,h5,h6⟩,rfl⟩:=wW.1 ma
  have gW:ij C s (len:Nat) hi=some h':=by rw[ad];exact h2
  refine part I H (two (cap:=cap) A gW h4 h5 (by omega) h3) (λa' tF vW=>⟨none,?_⟩) rfl j
  exact hr.ac5 h4 h5 h6 (λb o hb a4=>tF b o hb (by omega)) (by omega)
 have aM:∀{e sz cF}{va:Option Addr}{len cap:Nat}{xs:List (El e)},C.aR t=.sl e sz cF->a.eval x=.slice va len cap->(∃mm,Rd (g.rc C w) mm (.bJ e xs) (.slice va len cap))->len=xs.length->len<=cap->∀{l' h' m y z},ij C s 0 lo=some l'->ij C s (au xs) hi=some h'->hi=some y->mx=some z->ij C s 0 (some z)=some m->
   Eo xs l' h' m (λv=>K (cz C s o.dst v))=some r->gv P C E nt o g a w K r Z:=by
  intro e sz cF va len cap xs I H ⟨mm,hr⟩ ad D l' h' m y z A h2 hy hz hm j
  unfold Eo at j
  obtain⟨_,J,j⟩:=dw.1 j
  have J:m=h':=ef (nG.1 J)
  obtain⟨ys,ma,j⟩:=dw.1 j
  obtain⟨⟨h4,h5,h6⟩,rfl⟩:=wW.1 ma
  have gW:ij C s (len:Nat) hi=some h':=by rw[ad];exact h2
  refine part I H (three (cap:=cap) A gW hy hz hm h4 h5 J (by omega)) (λa' tF vW=>⟨none,?_⟩) rfl j
  exact(hr.ac5 (m':=none) h4 h5 h6 (λb o hb a4=>tF b o hb (by omega)) (iI _)).apw
 unfold vN at j;split at j
 ·rename_i b A;rw[A] at F S;have a7:C.aR t=.str:=by cases eJ:C.aR t<;>rw[eJ] at S<;>first|rfl|(simp[jD] at S)
  have hu:=yZ (hC.ty t) a7;split at j
  ·rename_i l' h' M hh hm;obtain⟨z,hz,j⟩:=dw.1 j;unfold dZ at hz;split at hz
   ·rename_i hc;obtain⟨h0,Zr,a5⟩:=hc;simp only[aQ] at hz;subst hz;have hb:=abw (w:=w) (P:=P) false (len:=b.length) (cap:=b.length) (DI h l p7 M) (DI h l Tf hh) h0 Zr a5;have a6:(ByteArray.mk ⟨b⟩).size=b.length:=rfl;have a8:(ByteArray.mk ⟨b⟩).extract l'.toNat h'.toNat=ByteArray.mk ⟨(b.drop l'.toNat).take (h'.toNat-l'.toNat)⟩:=by
     apply ByteArray.ext
     rw[ByteArray.data_extract]
     simp
    refine kS h l hd (.s none _) rfl ?_ j;simp only[execOp,ho,Option.map_none,Sem.run_bind,aa1 (P:=P) (w:=w) (t:=t) (by rw[hu];simp) hu];simp[Instr.slice,run_underlying hu,F.pK,a6,hb,a8]
   ·simp at hz
  ·simp at j
 ·rename_i t' xs A;obtain⟨e,sz,cF,I⟩:=sl (by simp[A]) (by simp[A]) (by simp[A]) (by simp[A]) (by simp[A]) (by simp[A]) (by simp[A]) (by simp[A]) (by simp[A]);rw[A] at F S;rw[I] at S;simp only[jD,bH] at S;subst S;obtain⟨va,cap,H,D⟩:=F.Hr;rw[H] at F;split at j
  ·rename_i l' h' M hh hm;obtain⟨ys,ma,j⟩:=dw.1 j;exact YG I H ⟨_,F⟩ rfl D M hh rfl ma j
  ·rename_i l' h' z M hh hm;split at j
   ·rename_i y m vX;exact aM I H ⟨_,F⟩ rfl D M hh rfl rfl vX j
   ·simp at j
  ·simp at j
 ·rename_i t' xs A;obtain⟨e,sz,cF,I⟩:=sl (by simp[A]) (by simp[A]) (by simp[A]) (by simp[A]) (by simp[A]) (by simp[A]) (by simp[A]) (by simp[A]) (by simp[A]);rw[A] at F S;rw[I] at S;simp only[jD,bH] at S;subst S;have F:=F.DT;obtain⟨va,cap,H,D⟩:=F.Hr;rw[H] at F;split at j
  ·rename_i l' h' M hh hm;obtain⟨ys,ma,j⟩:=dw.1 j;exact YG I H ⟨_,F⟩ rfl D M hh rfl ma j
  ·rename_i l' h' z M hh hm;split at j
   ·rename_i y m vX;exact aM I H ⟨_,F⟩ rfl D M hh rfl rfl vX j
   ·simp at j
  ·simp at j
 ·rename_i p t' A;obtain⟨e,sz,cF,I⟩:=sl (by simp[A]) (by simp[A]) (by simp[A]) (by simp[A]) (by simp[A]) (by simp[A]) (by simp[A]) (by simp[A]) (by simp[A]);rw[A] at F S;rw[I] at S;simp only[jD,bH] at S;subst S;obtain⟨tv,hg,j⟩:=ry j;have cI:VO (g.rc C w) p/\(g.rc C w).va p=some (a.eval x):=by generalize iX x=m at F;cases F;exact⟨by assumption,by assumption⟩
  have M:=sJ h cI.2 hg;split at j
  ·rename_i d t2 xs;obtain⟨ng,cB⟩:=bQ.1 j;have ng:=ef ng;clear j;subst ng;rcases M with M|M
   ·simp at M
   obtain⟨va,cap,H,D⟩:=M.QQ;have X6:∀n:Nat,n<cap->∃b o,va=some ⟨b,o,none⟩:=λn hn=>by
    rcases M.mR with⟨rfl,a0,ab⟩|⟨q,π,b,a9,Ml,cs,ee,fr,f,hm,ab,_⟩
    ·rw[H] at ab;simp only[Value.slice.injEq] at ab;omega
    ·rw[H] at ab;simp only[Value.slice.injEq] at ab;exact⟨b,a9,ab.1⟩
   have ao:∀{l' h':Int}{m:Nat},Cut P w (lo.map a.eval) (hi.map a.eval) (mx.map a.eval) xs.length cap l' h' m->h'<=xs.length->K (cz C s o.dst (.sl p t2 l' h'))=some r->gv P C E nt o g a w K r Z:=by
    intro l' h' m hc hh j
    refine part I H hc (λa' tF vW=>⟨none,?_⟩) rfl j
    obtain⟨_,h0,ph,h2,h3⟩:=hc
    refine .sl _ _ _ _ _ va xs.length cap _ _ cI.1 (by rw[cI.2,H]) h0 ph hh ?_ (by omega) (by omega)
    by_cases xW:m=l'.toNat
    ·left;omega
    ·right
     obtain⟨b,o,hb⟩:=X6 l'.toNat (by omega);exact⟨b,o,hb,tF b o hb (by omega)⟩
   split at cB
   ·rename_i l' h' lI Y hm;obtain⟨_,J,j⟩:=dw.1 cB;have J:0<=l'/\l'<=h'/\h'<=au xs:=ef (nG.1 J);simp only[au] at J;exact ao (two (cap:=cap) lI Y J.1 J.2.1 (by omega) rfl) J.2.2 j
   ·rename_i l' h' z lI Y hm;split at cB
    ·rename_i y m vX;obtain⟨_,J,j⟩:=dw.1 cB;obtain⟨U,N⟩:=(bo _ _).mp (nG.1 J);have U:0<=l'/\l'<=h'/\h'<=(xs.length:Int):=ef U;have N:m=h':=ef N;exact ao (three (cap:=cap) lI Y rfl rfl vX U.1 U.2.1 N (by omega)) U.2.2 j
    ·simp at cB
   ·simp at cB
  ·rename_i t2 xs;obtain⟨ng,cB⟩:=bQ.1 j;have ng:=ef ng;clear j;subst ng;rcases M with M|M
   ·simp at M
   obtain⟨va,cap,H,D⟩:=M.Hr;rw[H] at M;split at cB
   ·rename_i l' h' lI Y hm;obtain⟨ys,ma,j⟩:=dw.1 cB;exact YG I H ⟨_,M⟩ rfl D lI Y rfl ma j
   ·simp at cB
  ·simp at j
 ·rename_i p t' b1 b2 A;obtain⟨e,sz,cF,I⟩:=sl (by simp[A]) (by simp[A]) (by simp[A]) (by simp[A]) (by simp[A]) (by simp[A]) (by simp[A]) (by simp[A]) (by simp[A]);rw[A] at F S;rw[I] at S;simp only[jD,bH] at S;subst S;obtain⟨aa,len,cap,a',Q,cI,bL,pg,h2,h3,h4,h5,h6,h7⟩:∃aa len cap a' Q,VO (g.rc C w) p/\(g.rc C w).va p=some (.slice aa len cap)/\a.eval x=.slice a' (b2.toNat-b1.toNat) Q/\0<=b1/\b1<=b2/\b2<=(len:Int)/\
    (Q=0\/∃b o,aa=some ⟨b,o,none⟩/\a'=some ⟨b,o+b1.toNat*aA e,none⟩)/\b2.toNat-b1.toNat<=Q/\Q+b1.toNat<=cap:=by
   generalize iX x=m at F
   generalize a.eval x=u at F
   cases F;exact⟨_,_,_,_,_,by assumption,by assumption,rfl,by assumption,by assumption,by assumption,by assumption,by assumption,by assumption⟩
  split at j
  ·rename_i l' h' lI Y hm;obtain⟨_,J,j⟩:=dw.1 j;have J:0<=l'/\l'<=h'/\h'<=BM b2 b1:=ef (nG.1 J);have Tj:BM b2 b1=((b2.toNat-b1.toNat:Nat):Int):=by simp only[BM];omega
   rw[Tj] at J Y;refine part I pg (two (cap:=Q) lI Y J.1 J.2.1 (by omega) rfl) (λa2 tF vW=>⟨none,?_⟩) rfl j;have zP:((rK b1 h').toNat-(rK b1 l').toNat)=h'.toNat-l'.toNat:=by simp only[rK];omega
   rw[<-zP];refine .sl _ _ _ _ _ aa len cap _ _ cI bL (by simp only[rK];omega) (by simp only[rK];omega) (by simp only[rK];omega) ?_ (by simp only[rK];omega) (by simp only[rK];omega)
   by_cases xW:Q=l'.toNat
   ·left;omega
   ·right
    rcases h5 with h5|⟨b,o,ap,am⟩
    ·omega
    ·refine⟨b,o,ap,?_⟩;rw[tF _ _ am (by omega),show(rK b1 l').toNat=b1.toNat+l'.toNat by simp only[rK];omega,jY,<-ra]
  ·simp at j
 ·rename_i A;obtain⟨e,sz,cF,I⟩:=sl (by simp[A]) (by simp[A]) (by simp[A]) (by simp[A]) (by simp[A]) (by simp[A]) (by simp[A]) (by simp[A]) (by simp[A]);rw[A] at F;have H:a.eval x=.slice none 0 0:=by generalize iX x=m at F;generalize a.eval x=u at F;cases F;rfl
  split at j
  ·rename_i l' h' lI Y hm;obtain⟨_,J,j⟩:=dw.1 j;obtain⟨U,N⟩:=(bo _ _).mp (nG.1 J);have U:l'=0:=ef U;have N:h'=0:=ef N;subst U;subst N;refine part I H (two (cap:=0) lI Y (by omega) (by omega) (by omega) rfl) (λa2 tF vW=>⟨none,?_⟩) rfl j;rw[vW rfl];exact .nil _
  ·rename_i l' h' z lI Y hm;split at j
   ·rename_i y m vX;obtain⟨_,J,j⟩:=dw.1 j;obtain⟨U,N⟩:=(bo _ _).mp (nG.1 J);obtain⟨N,fT⟩:=(bo _ _).mp N;have U:l'=0:=ef U;have N:h'=0:=ef N;have fT:m=0:=ef fT;subst U;subst N;subst fT;refine part I H (three (cap:=0) lI Y rfl rfl vX (by omega) (by omega) rfl (by omega)) (λa2 tF vW=>⟨none,?_⟩) rfl j;rw[vW rfl];exact .nil _
   ·simp at j
  ·simp at j
 ·rename_i A;obtain⟨e,sz,cF,I⟩:=sl (by simp[A]) (by simp[A]) (by simp[A]) (by simp[A]) (by simp[A]) (by simp[A]) (by simp[A]) (by simp[A]) (by simp[A]);rw[A] at F;obtain⟨va,H⟩:∃va,a.eval x=.slice va 0 0:=by generalize iX x=m at F;generalize a.eval x=u at F;cases F;exact⟨_,rfl⟩
  split at j
  ·rename_i l' h' lI Y hm;obtain⟨_,J,j⟩:=dw.1 j;obtain⟨U,N⟩:=(bo _ _).mp (nG.1 J);have U:l'=0:=ef U;have N:h'=0:=ef N;subst U;subst N;refine part I H (two (cap:=0) lI Y (by omega) (by omega) (by omega) rfl) (λa2 tF vW=>⟨none,?_⟩) rfl j;exact .gU _ _
  ·rename_i l' h' z lI Y hm;split at j
   ·rename_i y m vX;obtain⟨_,J,j⟩:=dw.1 j;obtain⟨U,N⟩:=(bo _ _).mp (nG.1 J);obtain⟨N,fT⟩:=(bo _ _).mp N;have U:l'=0:=ef U;have N:h'=0:=ef N;have fT:m=0:=ef fT;subst U;subst N;subst fT;refine part I H (three (cap:=0) lI Y rfl rfl vX (by omega) (by omega) rfl (by omega)) (λa2 tF vW=>⟨none,?_⟩) rfl j;exact .gU _ _
   ·simp at j
  ·simp at j
 ·simp at j
end
end
section
def Cd(d:Bool)(a b:TV):Prop:=a=b\/∃t,∃e:List (El t),dN t a=some e/\b=sc d t e
def F2(d:Bool):List TV->List TV->Prop|[],[]=>True|a::as,b::e=>Cd d a b/\F2 d as e|_,_=>False
theorem F2.get{d:Bool}:∀{as e:List TV},F2 d as e->as.length=e.length/\∀(j:Nat)a b,as[j]?=some a->e[j]?=some b->Cd d a b
 |[],[],_=>⟨rfl,by simp⟩
 |[],_::_,h=>by simp[F2] at h
 |_::_,[],h=>by simp[F2] at h
 |a::as,b::e,h=>by
  simp only[F2] at h;obtain⟨A,D⟩:=h;obtain⟨F,H⟩:=F2.get D;refine⟨by simp[F],λj x y hx u=>?_⟩;cases j with
  |zero=>simp at hx u;subst hx;subst u;exact A
  |succ j=>exact H j x y (by simpa using hx) (by simpa using u)
theorem Cd.sl{d:Bool}{t:Ty}{a:TV}{e:List (El t)}(h:dN t a=some e):Cd d a (sc d t e):=.inr ⟨t,e,h,rfl⟩
theorem w7(d:Bool):∀{t:Ty}{a:List TV}{x:El t},dec t a=some x->F2 d a (enc d t x):=by
 intro t a
 fun_cases dec t a<;>intro x h
 all_goals first
  |(exfalso;simp_all [dec];done)
  |skip
 all_goals(simp only[dec,fM,aQ, *] at h)
 all_goals(have h:=gB h;subst h;simp only[enc,F2,ah.op,ah.num,ah.name,ah.kids,ah.marks])
 all_goals(repeat' (first|exact trivial|exact Or.inl rfl|exact Cd.sl (by assumption)|apply And.intro))
theorem uY{t:Ty}{a:TV}{j:List (El t)}(h:dN t a=some j):a=.bJ t j\/a=.eM t j\/(∃d,a=.own d t j)\/(a=.nil/\j=[])\/(a=.gU/\j=[]):=by
 cases a with
 |bJ u x=>simp only[dN] at h;split at h<;>first|(rename_i e;subst e;simp[ki] at h;subst h;exact .inl rfl)|simp at h
 |eM u x=>simp only[dN] at h;split at h<;>first|(rename_i e;subst e;simp[ki] at h;subst h;exact .inr (.inl rfl))|simp at h
 |own d u x=>simp only[dN] at h;split at h<;>first|(rename_i e;subst e;simp[ki] at h;subst h;exact .inr (.inr (.inl ⟨d,rfl⟩)))|simp at h
 |nil=>simp[dN] at h;exact .inr (.inr (.inr (.inl ⟨rfl,h⟩)))
 |gU=>simp[dN] at h;exact .inr (.inr (.inr (.inr ⟨rfl,h⟩)))
 |_=>simp[dN] at h
theorem Rd.G6{c:Rc}{m:Option Gp}{d a:Bool}{t:Ty}{y:List (El t)}{v:Value}(h:Rd c m (.own d t y) v)(A:flat t=true):Rd c m (.own a t y) v:=by
 cases h with
 |j6=>exact .j6 _ _ _ _
 |kY _ _ _ _ _ b o cap D e fr f F H I J M N P=>
  exact .kY _ _ _ _ _ _ _ _ D e fr f F H I J M (λr x j u hx Q=>N r x j u hx (by rwa[oS A d a])) (λr x j u hx Q=>P r x j u hx (by rwa[oS A d a]))
theorem Cd.deep{a b:TV}(h:Cd true a b)(j:sL a=true){c:Rc}{m:Option Gp}{v:Value}(e:Rd c m a v):Rd c m b v:=by
 rcases h with rfl|⟨t,x,h,rfl⟩
 ·exact e
 ·rcases uY h with rfl|rfl|⟨d,rfl⟩|⟨rfl,rfl⟩|⟨rfl,rfl⟩
  ·simp[sL] at j
  ·simp[sL] at j
  ·simp only[sc];cases u:flat t with
   |true=>exact e.G6 u
   |false=>simp[sL,u] at j;subst j;exact e
  ·cases e;exact .j6 _ _ _ _
  ·cases e;exact .j6 _ _ _ _
theorem Cd.frozen{a b:TV}(h:Cd false a b)(j:iB a=false){c:Rc}{m:Option Gp}{v:Value}(e:Rd c m a v):Rd c m b v:=by
 rcases h with rfl|⟨t,u,h,rfl⟩
 ·exact e
 ·rcases uY h with rfl|rfl|⟨d,rfl⟩|⟨rfl,rfl⟩|⟨rfl,rfl⟩
  ·exact e
  ·exact e.DT
  ·simp[iB] at j
  ·cases e;exact .lE _ _ _ _
  ·cases e;exact .lE _ _ _ _
theorem aeo{t:Ty}(xs:List (El t)):dN t (.bJ t xs)=some xs:=by show(if h:t=t then some (ki h xs) else none)=some xs;rw[Ut rfl];rfl
theorem apx{t:Ty}(xs:List (El t)):dN t (.eM t xs)=some xs:=by show(if h:t=t then some (ki h xs) else none)=some xs;rw[Ut rfl];rfl
theorem Cd.ku{a b:TV}(h:Cd false a b)(e:iB b=false):Cd false (kH a) b:=by
 rcases h with rfl|⟨t,j,h,rfl⟩
 ·rw[(La e).1];exact .inl rfl
 ·rcases uY h with rfl|rfl|⟨d,rfl⟩|⟨rfl,rfl⟩|⟨rfl,rfl⟩
  ·exact .inr ⟨_,_,aeo _,rfl⟩
  ·exact .inr ⟨_,_,apx _,rfl⟩
  ·exact .inr ⟨_,_,aeo _,rfl⟩
  ·exact .inr ⟨t,[],rfl,rfl⟩
  ·exact .inr ⟨t,[],rfl,rfl⟩
theorem afB{e:Ty}{x:El e}{vs:List Value}(h:kN (enc false e x) vs=true)(d:Bool)(c:Rc)(j:Nat)(H:TV)(v:Value)(R:(enc d e x)[j]?=some H)(N:vs[j]?=some v)(m:Option Gp):Rd c m H v/\v.oneCell'=true:=by
 obtain⟨hl,S⟩:=HL (c:=c) (m:=λ_=>m) h;have J:(enc false e x)[j]?=some (kH H):=by rw[<-Wv d e x,ir,R];rfl
 obtain⟨P,U,_⟩:=S j _ _ J N;refine⟨?_,U⟩;cases H with
 |own d' t Q=>
  simp only[kH] at P J;have hz:zC (.bJ t Q) v=true:=by
   have M:∀(D:List TV)(A:List Value)(j:Nat)a b,kN D A=true->D[j]?=some a->A[j]?=some b->zC a b=true:=by
    intro D
    induction D with
    |nil=>intro A j a b _ F;simp at F
    |cons t D Y=>
     intro A j a b hz F I
     cases A with
     |nil=>simp at I
     |cons u A=>
      simp only[kN,bo] at hz
      cases j with
      |zero=>simp at F I;subst F;subst I;exact hz.1
      |succ j=>exact Y A j a b hz.2 (by simpa using F) (by simpa using I)
   exact M _ _ _ _ _ h J N
  cases Q with
  |nil=>
   unfold zC at hz;split at hz<;>first|(rename_i Z h5;simp at Z)|skip
   all_goals first|exact .j6 _ _ _ _|simp_all
  |cons y ys=>cases v<;>simp[zC] at hz
 |_=>exact P
structure Es(w w':World)(cs:Array Value)(k:Bool:=false):Prop where
 size:w'.heap.size=w.heap.size+1
 old:∀b,b<w.heap.size->w'.heap[b]?=w.heap[b]?
 new:∃e fr,w'.heap[w.heap.size]?=some (.cells cs e fr)/\zp cs.size fr/\(k=false->¬ (fr.1<=cs.size/\cs.size<fr.2))
 tape:w'.tape=w.tape
 os:w'.os=w.os
 output:w'.output=w.output
theorem AJ(w:World)(a:Array Value)(e:TypeId):Es w (w.alloc (.cells a e)) a where
 size:=by show(w.heap.push _).size=_;simp
 old:=λb u=>by show(w.heap.push _)[b]?=_;rw[ayx u,jX u]
 new:=⟨e,(0,0),by show(w.heap.push _)[w.heap.size]?=_;simp,λj _=>by simp,λ_=>by simp⟩
 tape:=rfl
 os:=rfl
 output:=rfl
theorem amt(w:World)(a:Array Value)(e:TypeId):Es w (w.drew.alloc (.cells a e)) a where
 size:=by show(w.heap.push _).size=_;simp
 old:=λb u=>by show(w.heap.push _)[b]?=_;rw[ayx u,jX u]
 new:=⟨e,(0,0),by show(w.heap.push _)[w.heap.size]?=_;simp,λj _=>by simp,λ_=>by simp⟩
 tape:=rfl
 os:=rfl
 output:=rfl
def iE(γ:Nat->G)(b:Nat)(x:G):Nat->G:=λi=>if i=b then x else γ i
theorem sK{γ:Nat->G}{b:Nat}{x:G}:iE γ b x b=x:=aD rfl
theorem kh{γ:Nat->G}{b i:Nat}{x:G}(h:i≠b):iE γ b x i=γ i:=aE h
theorem WC{γ:Nat->G}{w w':World}{u:Array Value}{k:Bool}(nb:Es w w' u k)(j:∀b,w.heap.size<=b->γ b=.fr)(x:G)(X:Rt->aZ->Prop):bw X γ w (iE γ w.heap.size x) w':=by
 have e:∀b,γ b≠.fr->b<w.heap.size:=λb h=>ayt λy=>h (j b (by omega));refine⟨λb a=>?_,λb q p a _=>?_,λb a h=>?_,by rw[nb.size];omega,λb a=>?_,nb.tape,nb.os,nb.output⟩
 ·have:=e b (by rw[a];simp);exact⟨by rw[kh (by omega)];exact a,nb.old b this⟩
 ·have:=e b (by rw[a];simp);exact⟨by rw[kh (by omega)];exact a,nb.old b this⟩
 ·exact⟨by rw[kh (by omega)];exact h,nb.old b a⟩
 ·rw[nb.size] at a;rw[kh (by omega)];exact j b (by omega)
section
variable{C:Cx}{E:Env}{s:TS}{g:Gs}{w w':World}{γ':Nat->G}{X:Rt->aZ->Prop}
theorem Lu(j:bw X g.γ w γ' w')(hx:∀q p,X q p->∃n,q=.aw n)(p:Pl)(u:VO (g.rc C w) p):(Gs.rc C {g with γ:=γ'} w').va p=(g.rc C w).va p/\VO (Gs.rc C {g with γ:=γ'} w') p:=oU (C:=C) (g:=g) (g':={g with γ:=γ'}) j p u (qj j λq x _ a=>by obtain⟨n,e⟩:=hx _ _ a;exact jo q n e) (λ_ _ _=>rfl) (λk _=>⟨rfl,λa=>by obtain⟨n,e⟩:=hx _ _ a;simp at e⟩)
theorem Rd.xv{c:Rc}{m:Option Gp}{a:TV}{v:Value}(h:Rd c m a v){p:Pl}(u:MV p a):VO c p:=by
 cases u with
 |vw=>cases h;assumption
 |pa=>cases h;assumption
 |sl=>cases h;assumption
 |ep=>cases h;assumption
 |agg F t x=>
  cases h with
  |agg _ _ vs H I J y=>
   obtain⟨j,A,D⟩:=q9 x;have e:=y j _ (vs[j]'(by omega)) (by rw[cT A,D]) (jX _);generalize lZ m 0 j=M at e;cases e;assumption
end
end
section
section
variable{C:Cx}{E:Env}{s:TS}{g:Gs}{w w':World}{γ':Nat->G}{X:Rt->aZ->Prop}
theorem Rel.grow(h:Rel C E s g w)(u:bw X g.γ w γ' w')(hx:∀q p,X q p->∃n,q=.aw n):Rel C E s {g with γ:=γ'} w':=by
 refine h.pf (g':={g with γ:=γ'}) u (λk=>.inr ⟨rfl,rfl,λp e=>by obtain⟨n,j⟩:=hx _ _ e;simp at j,?_⟩) (λk=>.inr ⟨rfl,rfl,λp e=>by obtain⟨n,j⟩:=hx _ _ e;simp at j⟩);exact⟨λ_ _=>rfl,λp e=>⟨(Lu u hx p ((h.eK k).xv e)).1,λx=>(Lu u hx p x).2⟩,λp e A y=>by obtain⟨n,j⟩:=hx _ _ y;exact jo p n j⟩
theorem Rd.grow{m:Option Gp}{tv:TV}{v:Value}(h:Rd (g.rc C w) m tv v)(e:bw X g.γ w γ' w')(hx:∀q p,X q p->∃n,q=.aw n)(x:∀q p,m=some (q,p)->∀u,¬ X q (p++u)):Rd (Gs.rc C {g with γ:=γ'} w') m tv v:=h.same (λb j=>e.im b j) (λq p y b u j=>e.at' b _ _ j (x q p y u)) (λ_ _=>rfl) (λp A=>⟨(Lu e hx p (h.xv A)).1,λD=>(Lu e hx p D).2⟩) (λp _ b u j=>e.at' b _ _ j (λF=>by obtain⟨n,H⟩:=hx _ _ F;exact jo p n H))
theorem QV(h:Rel C E s g w){u:Array Value}{k:Bool}(nb:Es w w' u k){n:Nat}{d:Bool}{t:Ty}{xs:List (El t)}{cap:Nat}(f:Nat->Nat->Value)(J:xs.length<=cap)(M:cap*aA t<=u.size)
  (N:∀(r:Nat)x(j:Nat)tv,xs[r]?=some x->(enc d t x)[j]?=some tv->u[r*aA t+j]?=some (f r j)/\(f r j).oneCell'=true)
  (Q:∀(r:Nat)x(j:Nat)tv,xs[r]?=some x->(enc d t x)[j]?=some tv->Rd (g.rc C w) (some (.aw n,[((r:Int),cj t j)])) tv (f r j))(A:k=true->u8T t=true:=by first|(intro h;cases h;done)|exactλ_=>rfl):
  Rel C E s {g with γ:=iE g.γ w.heap.size (.at (.aw n) [tg t])} w'/\Rd (Gs.rc C {g with γ:=iE g.γ w.heap.size (.at (.aw n) [tg t])} w') (some (.aw n,[])) (.own d t xs) (.slice (some ⟨w.heap.size,0,none⟩) xs.length cap)/\
  bw (λ_ _=>False) g.γ w (iE g.γ w.heap.size (.at (.aw n) [tg t])) w':=by
 have D:bw (λ_ _=>False) g.γ w (iE g.γ w.heap.size (.at (.aw n) [tg t])) w':=WC nb h.aC.new _ _;obtain⟨e,fr,I,F,S⟩:=nb.new;have F:oC t u.size fr:=⟨F,λh=>S (by cases k with|false=>rfl|true=>rw[A rfl] at h;cases h)⟩;refine⟨h.grow D (λ_ _ y=>y.elim),?_,D⟩;refine .kY _ _ _ _ _ w.heap.size 0 cap u e fr f J sK I F (by omega) (λr x j tv hx H=>?_) (λr x j tv hx H=>?_)
 ·obtain⟨U,Y⟩:=N r x j tv hx H;exact⟨by simp[cellAt,World.cell?,Gs.rc,I,U],Y⟩
 ·exact(Q r x j tv hx H).grow D (λ_ _ y=>y.elim) (λ_ _ _ _ y=>y)
end
def lV{R:Type}(P:Program)(C:Cx)(E:Env)(nt:Nat)(o:Oper)(g:Gs)(a:Act)(w:World)(K:TS->Option R)(r:R)(Z:Rt->Prop)(X:Rt->aZ->Prop)(nb:Nat->Prop):Prop:=∃e,K e=some r/\zt P o a w (λj w'=>∃u,Out C E nt (λq p=>XZ Z q p\/X q p) o.dst nb g w e j w' u)
section
variable{P:Program}{C:Cx}{E:Env}{nt n:Nat}{o:Oper}{s s1:TS}{g g1:Gs}{a:Act}{w w1:World}{R:Type}{r:R}{K:TS->Option R}{Z:Rt->Prop}{γ1:Nat->G}{tv:TV}{v:Value}{X:Rt->aZ->Prop}{nb:Nat->Prop}
theorem gv.b(h:gv P C E nt o g a w K r Z):lV P C E nt o g a w K r Z X nb:=by
 obtain⟨j,u,x⟩:=h;exact⟨j,u,λnext Q y=>x next Q (λA w'⟨D,e⟩=>y A w' ⟨D,{e with fK:=e.fK.mono (λq p hx=>.inl hx),bx:=λk _=>e.bx k (λh=>h)}⟩)⟩
theorem G7(u:Rel C E s1 g1 w1)(x:g1.tm=g.tm)(y:∀k,¬ nb k->g1.bx k=g.bx k)(A:bw (λq p=>XZ Z q p\/X q p) g.γ w g1.γ w1)(l:cD nt g a)(D:gN nt o.dst)(F:Rd (g1.rc C w1) (some (.aw n,[])) tv v)
  (H:(execOp a.eval o).run P w=.ok (.value v) w1)(e:K (cz C s1 o.dst tv)=some r):lV P C E nt o g a w K r Z X nb:=by
 obtain⟨j,I,f2⟩:=u.put (d:=o.dst) F;refine⟨_,e,λnext Q J=>?_⟩;simp only[Oper.wp,H,Oper.upon];refine J _ _ ⟨_,I,(l.same (g':={g1 with γ:=j}) x).put D,?_,λk e=>(RD _ _ _ _ e).trans (by rw[x]),λk e=>by rw[Lt];exact y k e⟩;rw[Ls];refine(A.trans (f2.fK u.aC.new)).mono (λq p hx=>?_);rcases hx with hx|⟨hx,M⟩
 ·exact hx
 ·exact .inl ⟨.inr ⟨n,hx⟩,M⟩
theorem PB{t:TypeId}(h:zq P t=true):∃i z,P.info? t=some i/\i.zero=some z/\nJ P t=z.cells.toList:=by
 unfold zq at h;cases hi:P.info? t with
 |none=>simp[hi] at h
 |some i=>
  simp only[hi] at h;obtain⟨z,hz⟩:=ayy.1 h;exact⟨i,z,rfl,hz,by simp[nJ,hi,hz]⟩
theorem anI{z:Array Value}{n r j k:Nat}(e:k=z.size)(u:j<k)(x:r*k+j<n):(madeCells z n)[r*k+j]?=z[j]?:=by
 have h0:(r*k+j) % z.size=j:=by rw[<-e,Ap,akx];exact Fo u
 simp only[madeCells];rw[ayv,Array.getElem?_range];simp only[x,fM,jA,h0];rw[aky z j (by omega),jX (by omega)]
theorem alf(hC:eW P C)(h:Rel C E s g w)(l:cD nt g a)(hd:gN nt o.dst){t:Nat}{x y:Operand}(U:o.op=.makeSlice t x y)(hx:dW nt x=true)(hy:dW nt y=true)(D:Ev.step C o s K=some r):lV P C E nt o g a w K r Z X nb:=by
 simp only[Ev.step,U] at D;have Y:=iS h l hx;have p5:=iS h l hy;split at D
 ·rename_i e sz cF k1 n k2 m bY h1 h2;rw[h1] at Y;rw[h2] at p5;have jj:=Y.kU;have nf:=p5.kU;obtain⟨xs,H,D⟩:=dw.1 D;unfold BZ at H;split at H
  ·rename_i hc;obtain⟨h0,vZ,hb,p8⟩:=hc;simp only[aQ] at H;subst H;obtain⟨et,hu,fX,_,qL⟩:=zg (hC.ty t) bY;obtain⟨iY,iM,hz,J,_⟩:=uW fX;obtain⟨i,z,hi,zQ,M⟩:=PB hz;have Mp:i.size=aA e:=by rw[<-iY];simp[Program.cellsOf,hi]
   have N:i.bytes=cF:=by rw[<-qL];simp[Program.bytesOf,hi]
   have EL:z.cells.size=aA e:=by
    rw[M] at J
    have:=(HL (c:=g.rc C w) (m:=λ_=>none) J).1
    rw[ic] at this
    simpa using this
   have gh:=run_make (P:=P) w t et i z hu hi zQ k1 k2 n m h0 vZ (by rw[N,Int.mul_comm];omega) (by omega);rw[Mp] at gh;have vD:∀(r:Nat)(x:El e)(j:Nat)tv,(List.replicate n.toNat (rV e))[r]?=some x->(enc true e x)[j]?=some tv->x=rV e/\r<n.toNat/\j<aA e:=λr x j tv hx u=>by
    obtain⟨A,he⟩:=da.1 hx
    have A:r<n.toNat:=by simpa using A
    have:=(da.1 u).1
    rw[ic] at this
    exact⟨by rw[<-he];simp,A,this⟩
   have I:∀r,r<n.toNat->r*aA e+aA e<=m.toNat*aA e:=λr F=>by
    have:(r+1)*aA e<=m.toNat*aA e:=od _ (by omega)
    rwa[jY,sA] at this
   have gf:∀(r:Nat)(j:Nat),r<n.toNat->j<aA e->(madeCells z.cells (m.toNat*aA e))[r*aA e+j]?=some (z.cells[j]?.getD undef)/\z.cells[j]?=some (z.cells[j]?.getD undef):=λr j F u=>by
    have:=I r F
    rw[anI EL.symm u (by omega),jX (by omega)]
    exact⟨rfl,rfl⟩
   obtain⟨h3,h4,h5⟩:=QV (n:=0) (d:=true) (t:=e) (xs:=List.replicate n.toNat (rV e)) (cap:=m.toNat) h (AJ w (madeCells z.cells (m.toNat*aA e)) et) (λ_ j=>z.cells[j]?.getD undef) (by simp;omega) (by rw[size_madeCells];exact iI _)
    (λr x j tv hx u=>by
      obtain⟨rfl,F,Q⟩:=vD r x j tv hx u
      obtain⟨ji,S⟩:=gf r j F Q
      refine⟨ji,(afB J true (g.rc C w) j tv _ u (by rw[M,ni];exact S) none).2⟩)
    (λr x j tv hx u=>by
      obtain⟨rfl,F,Q⟩:=vD r x j tv hx u
      obtain⟨ji,S⟩:=gf r j F Q
      exact(afB J true (g.rc C w) j tv _ u (by rw[M,ni];exact S) _).1);simp only[akz] at h4;exact G7 (g1:={g with γ:=iE g.γ w.heap.size (.at (.aw 0) [tg e])}) h3 rfl (λ_ _=>rfl) (h5.mono (λ_ _ hf=>hf.elim)) l hd h4 (by simp only[execOp,U,jj,nf];simp[gh]) D
  ·simp at H
 ·simp at D
theorem alO(w:World)(e:TypeId)(x:ByteArray):Es w (Lib.bytesWorld w e x) (Lib.bytesCells w e x) true where
 size:=Lib.bytesWorld_size w e x
 old:=λb u=>Lib.bytesWorld_at_old w e x b u
 new:=⟨_,_,Lib.bytesWorld_at_new w e x,λj y=>by simp;omega,λh=>by cases h⟩
 tape:=by simp[Lib.bytesWorld,World.freeze]
 os:=by simp[Lib.bytesWorld,World.freeze];rfl
 output:=by simp[Lib.bytesWorld,World.freeze];rfl
theorem aq2{t:Nat}(h:jr P C t (C.aR t)=true)(e:(C.aR t).var=true):∃d,P.underlying t=some d:=(sN h e).2.2.2.1
def Hw(w:World)(j:List Int)(u:Value):Prop:=(j=[]/\∃a cap,u=.slice a 0 cap)\/∃b e cap,u=.slice (some ⟨b,e,none⟩) j.length cap/\∀(i:Nat)x,j[i]?=some x->cellAt w b (e+i)=some (.int .u8 x)
theorem Vn{c:Rc}{m:Option Gp}{tv:TV}{u:Value}{H:List (El (.int .u8))}(h:dN (.int .u8) tv=some H)(y:Rd c m tv u):Hw c.w H u:=by
 have A:∀{b D:Nat}{d:Bool}{f:Nat->Nat->Value}{M:Nat->Option Gp},(∀(r:Nat)(x:El (.int .u8))(j:Nat)tv,H[r]?=some x->(enc d (.int .u8) x)[j]?=some tv->cellAt c.w b (D+r*aA (.int .u8)+j)=some (f r j)/\(f r j).oneCell'=true)->
   (∀(r:Nat)(x:El (.int .u8))(j:Nat)tv,H[r]?=some x->(enc d (.int .u8) x)[j]?=some tv->∃m,Rd c m tv (f r j))->∀(i:Nat)x,H[i]?=some x->cellAt c.w b (D+i)=some (.int .u8 x):=λ{b D d f M}F y i x hx=>by
  obtain⟨J,_⟩:=F i x 0 _ hx rfl
  obtain⟨m,Q⟩:=y i x 0 _ hx rfl
  rw[Q.kU,show aA (.int .u8)=1 from rfl,Uu,uQ] at J
  exact J
 rcases uY h with rfl|rfl|⟨d,rfl⟩|⟨rfl,rfl⟩|⟨rfl,rfl⟩
 ·rcases y.ub with⟨rfl,a,cap,rfl⟩|⟨b,o,cap,f,rfl,S,N,F,y⟩
  ·exact .inl ⟨rfl,a,cap,rfl⟩
  ·exact .inr ⟨b,o,cap,rfl,A (M:=λ_=>none) F (λr x j tv hx I=>⟨_,y r x j tv hx I⟩)⟩
 ·rcases y.QP with⟨rfl,a,rfl⟩|⟨b,o,f,rfl,N,F,y⟩
  ·exact .inl ⟨rfl,a,0,rfl⟩
  ·exact .inr ⟨b,o,_,rfl,A (M:=λ_=>none) F (λr x j tv hx I=>⟨_,y r x j tv hx I⟩)⟩
 ·rcases y.mR with⟨rfl,a,rfl⟩|⟨q,p,b,o,cap,U,e,fr,f,Y,rfl,S,N,hh,hu,hs,F,y⟩
  ·exact .inl ⟨rfl,a,0,rfl⟩
  ·exact .inr ⟨b,o,cap,rfl,A (M:=λ_=>none) F (λr x j tv hx I=>⟨_,y r x j tv hx I⟩)⟩
 ·cases y;exact .inl ⟨rfl,none,0,rfl⟩
 ·cases y;exact .inl ⟨rfl,_,0,rfl⟩
theorem amu{src e x:TypeId}(A:P.underlying src=some (.slice x))(D:P.underlying x=some (.int .u8))(F:P.underlying e=some .string){j:List Int}{u:Value}(h:Hw w j u):
  (convert src e u).run P w=.ok (.string ⟨⟨je j⟩⟩) w:=by
 rcases h with⟨rfl,a,cap,rfl⟩|⟨b,y,cap,rfl,I⟩
 ·cases a with
  |none=>
   rw[run_convert_bytes_nil w src x A D 0 cap e F];rfl
  |some a=>
   rw[run_convert_bytes_string w src e x _ 0 cap A D F,run_bytesToString w a 0 cap [] (by simp[loadCells,loadCellsFrom])];rfl
 ·have hx:=run_convert_bytes_arg (P:=P) w src x A D b y j.length cap j rfl (λi hi=>by
    have H:j[i]?=some j[i]:=cT hi
    have J:w.cell? ⟨b,y+i,none⟩=some (.int .u8 j[i]):=I i _ H
    rw[J]
    simp[List.getD,H]) e F;rw[hx];simp[strOfNums,je]
theorem Hw.sub{u:List Int}{a A:Option Addr}{len cap e:Nat}{lo hi:Int}(h:Hw w u (.slice a len cap))(M:0<=lo)(N:lo<=hi)(F:hi<=u.length)(D:e=0\/∃b o,a=some ⟨b,o,none⟩/\A=some ⟨b,o+lo.toNat*1,none⟩)(Q:hi.toNat-lo.toNat<=e):
  Hw w ((u.drop lo.toNat).take (hi.toNat-lo.toNat)) (.slice A (hi.toNat-lo.toNat) e):=by
 have j:((u.drop lo.toNat).take (hi.toNat-lo.toNat)).length=hi.toNat-lo.toNat:=by simp;omega
 by_cases hz:hi.toNat-lo.toNat=0
 ·left;rw[hz];exact⟨by simp,_,_,rfl⟩
 ·rcases D with D|⟨b,o,rfl,rfl⟩
  ·omega
  rcases h with⟨rfl,S,H,y⟩|⟨U,I,H,y,J⟩
  ·simp at F;omega
  ·simp only[Value.slice.injEq,aQ,Addr.mk.injEq,jI] at y;obtain⟨⟨rfl,rfl⟩,_,rfl⟩:=y
   right
   refine⟨b,o+lo.toNat*1,e,by rw[j],λi x hx=>?_⟩;rw[q8] at hx;split at hx
   ·rw[An] at hx;rw[Uu,ra];exact J _ _ hx
   ·simp at hx
theorem aep{k:IntKind}{e:TypeId}(h:M8 P (.int k) e=true):P.underlying e=some (.int k):=by
 unfold M8 at h;split at h
 ·rename_i k1 k2 j u;simp only[Ty.int.injEq] at j;simp at h;rw[u,<-h,j]
 all_goals(first|(simp_all;done)|(simp[Ev.fP] at h;done))
theorem aln{e:TI}(h:HG e=true):∃sz cF,e=.sl (.int .u8) sz cF:=by
 unfold HG at h;split at h
 ·exact⟨_,_,rfl⟩
 ·simp at h
theorem alP(hC:eW P C)(h:Rel C E s g w)(l:cD nt g a)(hd:gN nt o.dst){src A:Nat}{x:Operand}(U:o.op=.convert src A x)(hx:dW nt x=true)(e:Ev.step C o s K=some r):lV P C E nt o g a w K r Z X nb:=by
 simp only[Ev.step,U] at e;obtain⟨F,e⟩:=bQ.1 e;have D:=iS h l hx;have bytes:∀{xs:List Int},C.aR A=.str->HG (C.aR src)=true->Hw w xs (a.eval x)->K (cz C s o.dst (.s (je xs)))=some r->lV P C E nt o g a w K r Z X nb:=by
  intro xs H M hb e
  obtain⟨sz,cF,Y⟩:=aln M
  obtain⟨et,hu,fX,_,_⟩:=zg (hC.ty src) Y
  obtain⟨_,_,_,_,hK⟩:=uW fX
  have:=amu (P:=P) hu (aep hK) (yZ (hC.ty A) H) hb
  exact(kS (Z:=Z) h l hd (.s none _) rfl (by simp only[execOp,U];simp[this]) e).b
 split at e
 ·rename_i k1 n k2 I H;rw[I] at D F;have Tk:(C.aR src).var=true:=by cases eJ:C.aR src<;>rw[eJ] at F<;>first|rfl|simp[jD] at F
  obtain⟨d,ID⟩:=aq2 (hC.ty src) Tk;have wc:=afw (hC.ty A) H;refine(kS (Z:=Z) h l hd (.i none k2 _) rfl ?_ e).b;simp only[execOp,U,D.kU];simp[convert,run_underlying ID,run_underlying wc,Conv.intToInt,dm]
 ·rename_i b I H;rw[I] at D F;have Y:C.aR src=.str:=by cases eJ:C.aR src<;>rw[eJ] at F<;>first|rfl|simp[jD] at F
  have ID:=yZ (hC.ty src) Y;have wc:=yZ (hC.ty A) H;refine(kS (Z:=Z) h l hd (.s none _) rfl ?_ e).b;simp only[execOp,U,D.pK];simp[convert,run_underlying ID,run_underlying wc]
 ·rename_i b sz cF I H;rw[I] at D F;have Y:C.aR src=.str:=by cases eJ:C.aR src<;>rw[eJ] at F<;>first|rfl|simp[jD] at F
  have ID:=yZ (hC.ty src) Y;obtain⟨et,wc,fX,_,_⟩:=zg (hC.ty A) H;obtain⟨_,_,_,_,hK⟩:=uW fX;obtain⟨_,dv,e⟩:=dw.1 e;have gh:=Lib.run_convert_string_bytes (P:=P) w src A et ⟨⟨b⟩⟩ ID wc (aep hK);have ab:(ByteArray.mk ⟨b⟩).size=b.length:=rfl;have uE:=grownCap_ge w (ByteArray.mk ⟨b⟩).size 0 et;have ad:(Lib.bytesCells w et ⟨⟨b⟩⟩).size=grownCap w (ByteArray.mk ⟨b⟩).size 0 et:=by
   simp only[Lib.bytesCells,aau,Array.size_map,aav]
   have h1:(ByteArray.mk ⟨b⟩).data.size=(ByteArray.mk ⟨b⟩).size:=rfl
   rw[h1]
   omega
  have gf:∀(r:Nat)(x:Int),(bB b)[r]?=some x->(Lib.bytesCells w et ⟨⟨b⟩⟩)[r]?=some (.int .u8 x):=λr x hx=>by
   simp only[bB,ir,CG] at hx
   obtain⟨c,hc,rfl⟩:=hx
   have am:=(da.1 hc).1
   have vR:=(da.1 hc).2
   simp[Lib.bytesCells,Array.getElem?_append,am,vR]
  have J:(bB b).length=(ByteArray.mk ⟨b⟩).size:=by simp[bB,ab]
  obtain⟨h3,h4,h5⟩:=QV (n:=0) (d:=true) (t:=.int .u8) (xs:=bB b) (cap:=grownCap w (ByteArray.mk ⟨b⟩).size 0 et) h (alO w et ⟨⟨b⟩⟩) (λr _=>((bB b)[r]?.map (Value.int .u8)).getD undef) (Fh (akA J) uE) (by rw[ad];simp[aA])
   (λr x j tv hx hj=>by
     cases j with
     |zero=>
      have jx:(bB b)[r]?=some (show Int from x):=hx
      rw[show r*aA (.int .u8)+0=r by simp[aA]]
      have S:(((bB b)[r]?.map (Value.int .u8)).getD undef)=Value.int .u8 (show Int from x):=by rw[jx];rfl
      exact⟨(gf r x hx).trans (by rw[S]),by rw[S];rfl⟩
     |succ j=>simp[enc] at hj)
   (λr x j tv hx hj=>by
     cases j with
     |zero=>
      have jx:(bB b)[r]?=some (show Int from x):=hx
      have S:(((bB b)[r]?.map (Value.int .u8)).getD undef)=Value.int .u8 (show Int from x):=by rw[jx];rfl
      simp[enc] at hj;subst hj
      show Rd _ _ _ (((bB b)[r]?.map (Value.int .u8)).getD undef)
      rw[S];exact .i _ _ _
     |succ j=>simp[enc] at hj);have X7:List.length (α:=El (.int .u8)) (bB b)=(ByteArray.mk ⟨b⟩).size:=J;exact G7 (g1:={g with γ:=iE g.γ w.heap.size (.at (.aw 0) [tg (.int .u8)])}) h3 rfl (λ_ _=>rfl) (h5.mono (λ_ _ S=>S.elim)) l hd h4 (by simp only[execOp,U,D.pK];simp[gh];exact X7.symm) e
 ·rename_i p t' I H;rw[I] at D F;obtain⟨M,e⟩:=bQ.1 e;obtain⟨tv,hg,e⟩:=ry e;have bL:(g.rc C w).va p=some (a.eval x):=by generalize iX x=m at D;cases D;assumption
  have N:=sJ h bL hg;split at e
  ·rename_i xs Q;rcases N with rfl|N
   ·simp[dN] at Q
   exact bytes H M (Vn Q N) e
  ·simp at e
 ·rename_i p t0 lo hi I H;rw[I] at D F;obtain⟨M,e⟩:=bQ.1 e;obtain⟨tv,hg,e⟩:=ry e;obtain⟨aa,len,cap,a',y,cI,bL,pg,h2,h3,h4,h5,h6,h7⟩:∃aa len cap a' y,VO (g.rc C w) p/\(g.rc C w).va p=some (.slice aa len cap)/\a.eval x=.slice a' (hi.toNat-lo.toNat) y/\0<=lo/\lo<=hi/\hi<=(len:Int)/\
    (y=0\/∃b o,aa=some ⟨b,o,none⟩/\a'=some ⟨b,o+lo.toNat*aA t0,none⟩)/\hi.toNat-lo.toNat<=y/\y+lo.toNat<=cap:=by
   generalize iX x=m at D
   generalize a.eval x=u at D
   cases D;exact⟨_,_,_,_,_,by assumption,by assumption,rfl,by assumption,by assumption,by assumption,by assumption,by assumption,by assumption⟩
  have N:=sJ h bL hg;split at e
  ·rename_i xs Q;obtain⟨zR,e⟩:=bQ.1 e;have zR:=ef zR;subst zR;obtain⟨ys,ma,e⟩:=dw.1 e;obtain⟨⟨_,_,h9⟩,rfl⟩:=wW.1 ma;rcases N with rfl|N
   ·simp[dN] at Q
   have hb:=(Vn Q N).sub h2 h3 h9 (by simpa[aA] using h5) h6;rw[<-pg] at hb;exact bytes H M hb e
  ·simp at e
 ·obtain⟨M,e⟩:=bQ.1 e;split at e
  ·rename_i xs Q;exact bytes (by assumption) M (Vn Q D) e
  ·simp at e
 ·simp at e
end
end
end Go.Sd
