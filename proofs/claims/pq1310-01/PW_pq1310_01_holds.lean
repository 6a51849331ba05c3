import PyProof.Rows.All
import Open.Row
import Open.FastT9
import KE.BytesMulAny
import KE.KBytesAny
import KE.KSlice
import KE.KLam
import KE.KDictSum
import KE.KTurns
import KE.KDictOf
import KE.KSortKey
import KE.KRevSl
import KE.KSortTup
import Wide.All
import PySem.Challenge.RW_pq1310_01
set_option autoImplicit false
set_option linter.all false
set_option genSizeOf false
set_option genInjectivity false
set_option bootstrap.genMatcherCode false
set_option compiler.extract_closed false
set_option maxRecDepth 1000000
set_option Elab.async false
set_option tactic.hygienic false
noncomputable section
namespace Mine.Internal
universe u v w
open PySem
def Xk:=@Nat.le_trans
def Xl:=@List.length_append
def Xm:=@List.length_map
def Xn:=@Option.some.inj
def Xo:=@List.mem_cons
def Xp:=@Bool.and_eq_true
def Xq:=@List.prefix_refl
def Xr:=@List.append_assoc
def Xu:=@List.append_nil
def Xv:=@Heap.get?_push_of_some
def Xx:=@Nat.le_refl
def Xy:=@List.mem_cons_self
def Xz:=@Nat.zero_add
def XA:=@Nat.add_le_add_left
def XB:=@List.mem_cons_of_mem
def XC:=@Option.bind_eq_some_iff
def XD:=@Nat.add_right_comm
def XE:=@List.map_append
def XF:=@Heap.get?_push_size
def XG:=@List.length_cons
def XH:=@Nat.le_add_right
def XI:=@Nat.lt_of_lt_of_le
def XJ:=@Nat.add_le_add_right
def XK:=@List.getElem?_eq_getElem
def XM:=@List.map_cons
def XN:=@Option.map_eq_some_iff
def XO:=@List.getElem?_eq_some_iff
def XQ:=@Nat.lt_of_le_of_lt
def XR:=@Nat.add_le_add
def XS:=@Nat.add_assoc
def XT:=@Nat.succ_pos
def XU:=@List.mem_singleton
def XV:=@List.all_eq_true
def XW:=@Nat.le_of_lt
def XX:=@Nat.le_succ_of_le
def XY:=@Nat.le_of_eq
def XZ:=@Nat.add_comm
def X9:=@wpAny_bind
def Yb:=@wpAny_pure
def Yc:=@decide_eq_true
def Yd:=@decide_eq_false
def Ye:=@of_decide_eq_true
def Yg:=@if_neg
def Yh:=@if_pos
def Yi:=@Nat.lt_add_of_pos_right
def Yj:=@Int.le_trans
def Yk:=@Array.getElem?_toList
def Yl:=@Array.length_toList
def Ym:=@List.mem_append
def Yn:=@Nat.not_lt
def Yo:=@Int.ofNat_lt
def Yp:=@Int.ofNat_le
def Yq:=@Nat.lt_succ_self
def Yr:=@List.length_take
def Ys:=@List.getElem?_append_left
def Yt:=@List.mem_map
def Yu:=@Option.isNone_iff_eq_none
def Yv:=@Nat.lt_of_succ_lt_succ
def Yw:=@List.length_eq_zero_iff
def Yx:=@Nat.succ_le_succ
def Yy:=@Bool.false_ne_true
def Yz:=@List.getD_eq_getElem?_getD
def YB:=@Nat.sub_add_cancel
def YC:=@Int.not_lt
def YD:=@wpAny_holding
def YE:=@wpAny_mono
def YF:=@List.mem_append_right
def YG:=@List.lookup_cons
def YH:=@congrArg
def YI:=@congrFun
def YJ:=@List.filterMap_cons
def YK:=@Nat.le_add_left
def YM:=@Nat.sub_le
def YN:=@List.length_drop
def YO:=@List.length_reverse
def YQ:=@Nat.lt_trans
def YR:=@Nat.le_antisymm
def YS:=@List.nodup_cons
def YU:=@Nat.lt_irrefl
def YV:=@Nat.mul_le_mul
def YW:=@List.map_map
def YX:=@Array.toList_push
def YY:=@Array.toList_append
def Y0:=@Option.bind_assoc
def Y1:=@beq_iff_eq
def Y4:=@beq_eq_false_iff_ne
def Y5:=@beq_self_eq_true
def Y6:=@decide_eq_decide
def Y8:=@wpAny_standAt
def Y9:=@wpAny_truthy_bool
def Za:=@wpAny_newObj_type
def Zb:=@wpAny_call_entry
def Zc:=@wpAny_of_eq
def Zd:=@Int.natCast_nonneg
def Ze:=@Int.toNat_natCast
def Zf:=@Int.add_comm
def Zh:=@List.range_eq_range'
structure A3(a b c:Prop):Prop where
 (x:a) (y:b) (z:c)
structure A4(a b c d:Prop):Prop where
 (x:a) (y:b) (z:c) (w:d)
structure A5(a b c d e:Prop):Prop where
 (x:a) (y:b) (z:c) (w:d) (v:e)
inductive X1A2{α:Sort u}(p q:α->Prop):Prop|i (a:α) (x:p a) (y:q a)
inductive X1A3{α:Sort u}(p q r:α->Prop):Prop|i (a:α) (x:p a) (y:q a) (z:r a)
inductive X1A4{α:Sort u}(p q r s:α->Prop):Prop|i (a:α) (x:p a) (y:q a) (z:r a) (w:s a)
inductive X2A1{α:Sort u}{β:Sort v}(p:α->β->Prop):Prop|i (a:α) (b:β) (h:p a b)
inductive X2A2{α:Sort u}{β:Sort v}(p q:α->β->Prop):Prop|i (a:α) (b:β) (x:p a b) (y:q a b)
inductive X2A3{α:Sort u}{β:Sort v}(p q r:α->β->Prop):Prop|i (a:α) (b:β) (x:p a b) (y:q a b) (z:r a b)
inductive X2A4{α:Sort u}{β:Sort v}(p q r s:α->β->Prop):Prop|i (a:α) (b:β) (x:p a b) (y:q a b) (z:r a b) (w:s a b)
inductive X3A1{α:Sort u}{β:Sort v}{γ:Sort w}(p:α->β->γ->Prop):Prop|i (a:α) (b:β) (c:γ) (h:p a b c)
inductive X3A2{α:Sort u}{β:Sort v}{γ:Sort w}(p q:α->β->γ->Prop):Prop|i (a:α) (b:β) (c:γ) (x:p a b c) (y:q a b c)
inductive X3A3{α:Sort u}{β:Sort v}{γ:Sort w}(p q r:α->β->γ->Prop):Prop|i (a:α) (b:β) (c:γ) (x:p a b c) (y:q a b c) (z:r a b c)
inductive X3A4{α:Sort u}{β:Sort v}{γ:Sort w}(p q r s:α->β->γ->Prop):Prop|i (a:α) (b:β) (c:γ) (x:p a b c) (y:q a b c) (z:r a b c) (w:s a b c)
theorem dS{a k:Nat}(h:a<k):∃m,k=m+1:=⟨k-1,(YB (XQ (Nat.zero_le _) h)).symm⟩
set_option smartUnfolding false
inductive PV where
|none|bool (b:Bool)|int (i:Int)|str (s:Str)|bytes (b:List UInt8)
|tup (l:List PV)|lst (l:List PV)|dct (l:List (PV×PV))|inst (c:Nat) (f:List (Nat×PV))
|loc (i:Nat)|glob (i:Nat)
inductive Zk where
|lst (l:List PV)|dct (l:List (PV×PV))|inst (c:Nat) (f:List (Nat×PV))
inductive Lk where|mut|Zw|ZG
structure Ent where
 o:Zk
 k:Lk
structure St where
 l:List Ent
 g:List Ent
abbrev YA:=List (Nat×PV)
inductive DK where|frozen|loc|glob
inductive Fl where
|next|brk|cont|ret (v:PV)
structure Zn where
 K:Nat->Option PV
 F:Nat->List PV->List Ent->Option (PV×List Ent)
 M:Nat->Nat->Option Nat
noncomputable def aQ(vs:YA)(x:Nat):Option PV:=match vs with
|[]=>.none
|(y,v)::r=>if y=x then some v else aQ r x
noncomputable def dK(vs:YA)(x:Nat)(v:PV):YA:=match vs with
|[]=>[(x,v)]
|(y,w)::r=>if y=x then(y,v)::r else(y,w)::dK r x v
noncomputable def aA(base vs:YA):YA:=match base with
|[]=>[]
|(y,w)::r=>(y,(aQ vs y).getD w)::aA r vs
noncomputable def aq{α:Type}(l:List α):Bool:=l.length≤4000000
noncomputable def gN(s:St):PV->Option Zk
|.lst l=>some (.lst l)
|.tup l=>some (.lst l)
|.dct l=>some (.dct l)
|.inst c f=>some (.inst c f)
|.loc i=>(s.l[i]?).map (·.o)
|.glob i=>(s.g[i]?).map (·.o)
|z=>.none
noncomputable def Lk.ZS:Lk->Bool
|.mut=>true
|z=>false
noncomputable def Lk.Zp:Lk->Bool
|.Zw=>true
|z=>false
noncomputable def Lk.ZA:Lk->Bool
|.ZG=>true
|z=>false
noncomputable def Lx(s:St)(v:PV)(o:Zk):Option St:=match v with
|.loc i=>(s.l[i]?).bind fun e=>if e.k.ZS then some {s with l:=s.l.set i ⟨o,.mut⟩} else .none
|.glob i=>(s.g[i]?).bind fun e=>if e.k.ZS then some {s with g:=s.g.set i ⟨o,.mut⟩} else .none
|z=>.none
mutual
noncomputable def aw:PV->Bool
|.tup l=>aj l
|.lst l=>aj l
|.dct l=>cJ l
|.inst _ f=>kI f
|.loc _=>false
|z=>true
noncomputable def aj:List PV->Bool
|[]=>true
|v::r=>aw v&&aj r
noncomputable def cJ:List (PV×PV)->Bool
|[]=>true
|(k,v)::r=>aw k&&aw v&&cJ r
noncomputable def kI:List (Nat×PV)->Bool
|[]=>true
|(_,v)::r=>aw v&&kI r
end
noncomputable def dR:Zk->PV
|.lst l=>.lst l
|.dct l=>.dct l
|.inst c f=>.inst c f
def bT(o:Zk):Bool:=aw (dR o)
def fi(s:St):PV->Option (PV×St)
|.loc i=>(s.l[i]?).bind fun e=>if bT e.o then some (dR e.o,{s with l:=s.l.set i ⟨e.o,.ZG⟩}) else .none
|v=>if aw v then some (v,s) else .none
noncomputable def jJ(s:St):List PV->Option (List PV×St)
|[]=>some ([],s)
|v::r=>(fi s v).bind fun x=>(jJ x.2 r).bind fun y=>some (x.1::y.1,y.2)
def alloc(s:St)(d:DK)(o:Zk):Option (PV×St):=match d with
|.frozen=>some (dR o,s)
|.loc=>some (.loc s.l.length,{s with l:=s.l++[⟨o,.mut⟩]})
|.glob=>if bT o then some (.glob s.g.length,{s with g:=s.g++[⟨o,.mut⟩]}) else .none
noncomputable def pr:Nat->(Nat->Bool)->Bool
|0,_=>false
|n+1,f=>f n
noncomputable def qV:PV->Bool
|.none=>true
|z=>false
noncomputable def gU:PV->Option (List PV)
|.tup l=>some l
|z=>.none
noncomputable def ou:PV->Option (List PV)
|.lst l=>some l
|z=>.none
mutual
noncomputable def fD:PV->Nat->Bool
|.none,_=>true
|.bool _,_=>true
|.int _,_=>true
|.str x,_=>x.cps.all (·<0x110000)
|.tup l,n=>pr n (gv l)
|.lst l,n=>pr n (gv l)
|z,y=>false
noncomputable def gv:List PV->Nat->Bool
|[],_=>true
|v::r,n=>fD v n&&gv r n
end
noncomputable def WZ(b:Bool):PV->Bool
|.bool a=>b==a
|.int j=>(if b then 1 else 0)==j
|z=>false
noncomputable def Wj(i:Int):PV->Bool
|.bool b=>i==(if b then 1 else 0)
|.int j=>i==j
|z=>false
noncomputable def Wg(x:Str):PV->Bool
|.str y=>x==y
|z=>false
mutual
noncomputable def oH:PV->PV->Bool
|.none,q=>qV q
|.bool b,q=>WZ b q
|.int i,q=>Wj i q
|.str x,q=>Wg x q
|.tup a,q=>(gU q).any (o9 a)
|.lst a,q=>(ou q).any (o9 a)
|z,y=>false
noncomputable def o9:List PV->List PV->Bool
|[],q=>q.isEmpty
|a::r,q=>match q with
  |[]=>false
  |b::q=>oH a b&&o9 r q
end
noncomputable def aZ:PV->Option Int
|.int i=>some i
|z=>.none
noncomputable def HX:PV->Option Str
|.str s=>some s
|z=>.none
def dU:PV->PV->Option Bool
|.int a,q=>(aZ q).map (a== ·)
|.str a,q=>(HX q).map (a== ·)
|.tup a,q=>(gU q).map (o9 a)
|z,y=>.none
def l8(s:St):PV->Option PV
|.loc i=>(s.l[i]?).map fun e=>dR e.o
|.glob i=>(s.g[i]?).map fun e=>dR e.o
|v=>some v
noncomputable def aC(l:List (PV×PV))(k:PV):Option (Option PV):=match l with
|[]=>some .none
|(k',v)::r=>(dU k' k).bind fun b=>if b then some (some v) else aC r k
noncomputable def dJ(l:List (PV×PV))(k v:PV):Option (List (PV×PV)):=match l with
|[]=>some [(k,v)]
|(k',w)::r=>(dU k' k).bind fun b=>if b then some ((k',v)::r) else(dJ r k v).map ((k',w):: ·)
noncomputable def jL:PV->Bool
|.int _=>true
|z=>false
def cY:PV->Bool
|.int _=>true
|.str _=>true
|.tup l=>l.all jL
|z=>false
noncomputable def xG:PV->Option (List UInt8)
|.bytes l=>some l
|z=>.none
noncomputable def cX:PV->Option Bool
|.bool b=>some b
|z=>.none
noncomputable def cC{α:Type}(l:List α)(i:Int):Option α:=if 0≤i then l[i.toNat]? else if 0≤l.length+i then l[(l.length+i).toNat]? else .none
noncomputable def fG(n:Nat)(i:Int):Nat:=if i<0 then(i+n).toNat else min i.toNat n
def dI(n:Nat):Option Int->Nat
|some a=>fG n a
|.none=>0
def jS(n:Nat):Option Int->Nat
|some b=>fG n b
|.none=>n
def gI{α:Type}(l:List α)(a b:Option Int):List α:=(l.drop (dI l.length a)).take (jS l.length b-dI l.length a)
noncomputable def iq(a b:Int):Bool:= !(decide (Builtin.Int.intBits a>shortFactorBits)&&decide (Builtin.Int.intBits b>shortFactorBits)&&Builtin.Int.intTooBig (Builtin.Int.intBits a+Builtin.Int.intBits b))
noncomputable def Nx(a b:Int):Bool:=decide (0≤b∧(Builtin.Int.intBits a:Int)+b≤2^27)
def xF(o:Operator)(a b:Int):Option Int:=match o with
|.Add=>some (a+b)
|.Sub=>some (a-b)
|.Mult=>if iq a b then some (a*b) else .none
|.FloorDiv=>if b=0 then .none else if b.natAbs.log2<9000 then some (Int.fdiv a b) else .none
|.Mod=>if b=0 then .none else if b.natAbs.log2<9000 then some (Int.fmod a b) else .none
|.LShift=>if Nx a b then some (a*2^b.toNat) else .none
|.RShift=>if b<0 then .none else if b≥(Builtin.Int.intBits a:Int) then some (if a<0 then-1 else 0) else some (a.fdiv (2^b.toNat))
|.BitOr=>some (Builtin.bitOr a b)
|.BitAnd=>some (Builtin.bitAnd a b)
|z=>.none
noncomputable def iv{α:Type}(l:List α):Nat->List α
|0=>[]
|n+1=>l++iv l n
def cN(s:St)(v:PV):Option (List PV):=(gN s v).bind fun o=>match o with
|.lst l=>some l
|z=>.none
def Hu(s:St)(v:PV):Option (List (PV×PV)):=(gN s v).bind fun o=>match o with
|.dct l=>some l
|z=>.none
def ge(s:St)(v:PV):Option (Nat×YA):=(gN s v).bind fun o=>match o with
|.inst c f=>some (c,f)
|z=>.none
def iB(s:St)(v:PV):Option (List PV):=(gN s v).bind fun o=>match o with
|.lst l=>some l
|.dct l=>some (l.map (·.1))
|z=>.none
def gz(s:St)(v:PV):Option (List PV):=(l8 s v).bind fun o=>match o with
|.lst l=>some l
|z=>.none
noncomputable def d7:List PV->Option (List Int)
|[]=>some []
|v::r=>(aZ v).bind fun i=>(d7 r).bind fun l=>some (i::l)
noncomputable def n8:List PV->Option (List Bool)
|[]=>some []
|v::r=>(cX v).bind fun i=>(n8 r).bind fun l=>some (i::l)
def mM(s:St)(v:PV):Option (List Int):=(gz s v).bind d7
def E8(o:Operator)(x:List UInt8)(b:PV):Option (List UInt8):=match o with
|.Add=>(xG b).bind fun y=>if aq (x++y) then some (x++y) else .none
|.Mult=>(aZ b).bind fun n=>if decide (-1000≤n∧n≤1000∧x.length≤16)&& !x.isEmpty then some (iv x n.toNat) else .none
|z=>.none
def OS(o:Operator)(x:List PV)(b:PV):Option (List PV):=match o with
|.Add=>(gU b).bind fun y=>if aq (x++y) then some (x++y) else .none
|z=>.none
def HA(s:St)(o:Operator)(x:List PV)(b:PV):Option (List PV):=match o with
|.Add=>(gz s b).bind fun y=>if aq (x++y) then some (x++y) else .none
|.Mult=>(aZ b).bind fun n=>if decide (0≤n∧n≤10000∧x.length≤1) then some (iv x n.toNat) else .none
|z=>.none
def fP(s:St)(d:DK)(o:Operator)(a b:PV):Option (PV×St):=match a with
|.int i=>(aZ b).bind fun j=>(xF o i j).bind fun k=>some (.int k,s)
|.tup x=>(OS o x b).bind fun l=>some (.tup l,s)
|.bytes x=>(E8 o x b).bind fun l=>some (.bytes l,s)
|a=>(gz s a).bind fun x=>(HA s o x b).bind fun l=>alloc s d (.lst l)
def I2(k:PV)(l:List PV):Option Bool:=if fD k 8&&gv l 8 then some (l.any fun x=>oH x k) else .none
def qb(s:St)(k:PV)(c:PV):Option Bool:=(l8 s c).bind fun c=>match c with
|.dct l=>if cY k then(aC l k).bind fun r=>some r.isSome else .none
|.tup l=>I2 k l
|.lst l=>I2 k l
|z=>.none
def qI(f:Int->Int->Bool)(a b:PV):Option Bool:=(aZ a).bind fun a=>(aZ b).bind fun b=>some (f a b)
def Jz(s:St)(a b:PV):Option Bool:=(l8 s a).bind fun a=>(l8 s b).bind fun b=>if fD a 8&&fD b 8 then some (oH a b) else .none
def aM(s:St)(o:CmpOp)(a b:PV):Option Bool:=match o with
|.Eq=>Jz s a b
|.NotEq=>(Jz s a b).bind fun c=>some (!c)
|.Lt=>qI (fun a b=>decide (a<b)) a b
|.LtE=>qI (fun a b=>decide (a≤b)) a b
|.Gt=>qI (fun a b=>decide (a>b)) a b
|.GtE=>qI (fun a b=>decide (a≥b)) a b
|.Is=>if qV b then some (qV a) else .none
|.IsNot=>if qV b then some (!qV a) else .none
|.In=>qb s a b
|.NotIn=>(qb s a b).bind fun c=>some (!c)
def item(s:St)(o i:PV):Option PV:=match o with
|.bytes b=>(aZ i).bind fun i=>if 0≤i then(cC b i).bind fun n=>some (.int n.toNat) else .none
|o=>(gN s o).bind fun w=>match w with
  |.lst l=>(aZ i).bind fun i=>cC l i
  |.dct l=>if cY i then(aC l i).bind fun r=>r else .none
  |z=>.none
noncomputable def wf(x:Int):List Int->List Int
|[]=>[x]
|y::r=>if x≤y then x::y::r else y::wf x r
noncomputable def p8:List Int->List Int
|[]=>[]
|x::r=>wf x (p8 r)
noncomputable def nE{α:Type}:List α->Option α
|[c]=>some c
|z=>.none
noncomputable def two{α:Type}:List α->Option (α×α)
|[c,d]=>some (c,d)
|z=>.none
def one(p:PV):Option Int:=(gU p).bind fun l=>(nE l).bind aZ
noncomputable def mK:List (PV×PV)->Option (List Int)
|[]=>some []
|x::r=>(one x.1).bind fun i=>(mK r).bind fun l=>some (i::l)
noncomputable def jG:List Int:=[97,98,99,65,768,45,95,173]
noncomputable def pX:List Int:=[45,65,95,97,98,99,173,768]
noncomputable def fU:Int->List Int->Int:=fun a l=>l.foldl max a
noncomputable def gh:Int->List Int->Int:=fun a l=>l.foldl min a
def oB(p:PV):Option (PV×PV):=(gU p).bind two
noncomputable def gg:List PV->List (PV×PV)->Option (List (PV×PV))
|[],acc=>some acc
|p::r,acc=>(oB p).bind fun x=>if cY x.1 then(dJ acc x.1 x.2).bind (gg r) else .none
def lG(p:PV):Bool:=match oB p with
|some x=>jL x.1
|z=>false
noncomputable def mQ:List Int->Option (List UInt8)
|[]=>some []
|i::r=>if decide (0≤i∧i<256) then(mQ r).bind fun l=>some (UInt8.ofNat i.toNat::l) else .none
def we:PV->PV->Bool
|.glob _,v=>aw v
|z,y=>true
abbrev Ä:=St->DK->List PV->Option (PV×St)
noncomputable def iT{α:Type}(f:PV->Option α):List PV->Option α
|[v]=>f v
|z=>.none
noncomputable def vh{α:Type}(f:PV->PV->Option α):List PV->Option α
|[v,w]=>f v w
|z=>.none
def Mz:Ä:=fun s z=>iT fun v=>match v with
|.bytes b=>some (.int b.length,s)
|v=>(cN s v).bind fun l=>some (.int l.length,s)
noncomputable def HC(f:Int->List Int->Int):List Int->Option Int
|a::r=>some (f a r)
|z=>.none
def CJ(f:Int->Int->Int)(g:Int->List Int->Int):Ä:=fun s z as=>match as with
|[v]=>(mM s v).bind fun l=>(HC g l).bind fun i=>some (.int i,s)
|as=>vh (fun a b=>(aZ a).bind fun a=>(aZ b).bind fun b=>some (.int (f a b),s)) as
def No:Ä:=CJ min gh
def N7:Ä:=CJ max fU
def Qj:Ä:=fun s z=>iT fun v=>(mM s v).bind fun l=>some (.int l.sum,s)
def xT:Ä:=fun s d=>iT fun v=>(l8 s v).bind fun v=>match v with
|.lst l=>(d7 l).bind fun l=>if l.length<64 then alloc s d (.lst ((p8 l).map .int)) else .none
|.dct l=>(mK l).bind fun l=>if l=jG then alloc s d (.lst (pX.map fun i=>.tup [.int i])) else .none
|z=>.none
def By:Ä:=fun s z=>iT fun v=>(cN s v).bind fun l=>some (.tup l,s)
def H8:Ä:=fun s d=>iT fun v=>(iB s v).bind fun l=>if aq l then alloc s d (.lst l) else .none
def HU:Ä:=fun s d=>iT fun v=>(gz s v).bind fun l=>if l.all lG then(gg l []).bind fun l=>alloc s d (.dct l) else .none
def P0:Ä:=fun s z=>iT fun v=>match v with
|.bool b=>some (.int (if b then 1 else 0),s)
|v=>(aZ v).bind fun i=>some (.int i,s)
def Cc:Ä:=fun s z=>iT fun v=>(mM s v).bind fun l=>(mQ l).bind fun l=>some (.bytes l,s)
def Qg:Ä:=fun s z=>iT fun v=>(HX v).bind fun x=>(nE x.cps.toList).bind fun c=>some (.int c,s)
def K4:Ä:=fun s z=>iT fun v=>(gz s v).bind fun l=>(n8 l).bind fun l=>some (.bool (l.all id),s)
abbrev Î:=St->PV->List PV->Option (PV×St)
def JG(s:St)(o:PV)(w:Zk):Option (PV×St):=(Lx s o w).bind fun s=>some (.none,s)
def Zm:Î:=fun s o as=>(cN s o).bind fun l=>iT (fun v=>if aq (l++[v])&&we o v then JG s o (.lst (l++[v])) else .none) as
def Z9:Î:=fun s o as=>(cN s o).bind fun l=>iT (fun v=>(cN s v).bind fun r=>if aq (l++r)&&we o (.lst r) then JG s o (.lst (l++r)) else .none) as
def Ė:Î:=fun s o as=>match as with
|[]=>(cN s o).bind fun l=>(l.getLast?).bind fun x=>(Lx s o (.lst l.dropLast)).bind fun s=>some (x,s)
|z=>.none
def À:Î:=fun s o as=>(cN s o).bind fun l=>vh (fun i v=>(aZ i).bind fun i=>if decide (0≤i∧i≤l.length)&&aq (v::l)&&we o v then JG s o (.lst (l.take i.toNat++v::l.drop i.toNat)) else .none) as
def i0(l:List (PV×PV))(s:St)(k d:PV):Option (PV×St):=if cY k then(aC l k).bind fun r=>some (r.getD d,s) else .none
def MV:Î:=fun s o as=>(Hu s o).bind fun l=>match as with
|[k]=>i0 l s k .none
|as=>vh (i0 l s) as
noncomputable def z8(x:Int):Bool:=decide (-1000000000000≤x∧x≤1000000000000)
def cR(a b c:Int):Option (List PV):=
 if(z8 a&&z8 b)=false then .none
 else if c=1 then(if b-a≤100000 then some ((List.range (b-a).toNat).map fun k=>PV.int (a+(k:Nat))) else .none)
 else if c= -1 then(if a-b≤100000 then some ((List.range (a-b).toNat).map fun k=>PV.int (a-(k:Nat))) else .none)
 else .none
noncomputable def lT(l:List Ent)(i:Nat):List Ent:=match l[i]? with
|some ⟨o,.mut⟩=>l.set i ⟨o,.Zw⟩
|z=>l
noncomputable def dW(l:List Ent)(i:Nat):List Ent:=match l[i]? with
|some ⟨o,.Zw⟩=>l.set i ⟨o,.mut⟩
|z=>l
noncomputable def cH(l:List Ent)(i:Nat):Bool:=match l[i]? with
|some ⟨_,.mut⟩=>true
|z=>false
def aK(s:St)(v:PV):St×Option PV:=match v with
|.loc i=>if cH s.l i then({s with l:=lT s.l i},some v) else(s,.none)
|.glob i=>if cH s.g i then({s with g:=lT s.g i},some v) else(s,.none)
|z=>(s,.none)
def aO(s:St):Option PV->St
|some (.loc i)=>{s with l:=dW s.l i}
|some (.glob i)=>{s with g:=dW s.g i}
|z=>s
def jU(C:Zn)(s:St)(o:PV)(a:Nat)(v:PV):Option St:=(ge s o).bind fun x=>if we o v&&(C.M x.1 a).isNone&&decide (x.2.length≤1000) then Lx s o (.inst x.1 (dK x.2 a v)) else .none
def nY(s:St)(o i v:PV):Option St:=(gN s o).bind fun w=>match w with
|.lst l=>(aZ i).bind fun i=>if decide (0≤i∧i<l.length)&&we o v then Lx s o (.lst (l.set i.toNat v)) else .none
|.dct l=>if cY i&&aq l&&we o v then(dJ l i v).bind fun l=>Lx s o (.dct l) else .none
|z=>.none
abbrev DE:=Zn->YA->St->Option (PV×St)
abbrev DT:=Zn->YA->St->Option (Bool×St)
abbrev DI:=Zn->YA->St->Option (List PV×Option PV×St)
abbrev DS:=Zn->YA->St->Option (Fl×YA×St)
abbrev DP:=PV->YA->Option YA
abbrev DO:=Zn->YA->St->Option (Option Int×St)
def pV(x:Nat):DP:=fun v vs=>some (dK vs x v)
noncomputable def mf:List DP->List PV->YA->Option YA
|[],[],vs=>some vs
|p::ps,v::r,vs=>(p v vs).bind (mf ps r)
|z,y,x=>.none
def pT(ps:List DP):DP:=fun v vs=>(gU v).bind fun l=>mf ps l vs
noncomputable def yD(v:PV):DE:=fun z z s=>some (v,s)
def y3(x:Nat):DE:=fun z vs s=>(aQ vs x).bind fun v=>some (v,s)
noncomputable def T7(x:Nat):DE:=fun C z s=>(C.K x).bind fun v=>some (v,s)
noncomputable def pg:List DE->Zn->YA->St->Option (List PV×St)
|[],_,_,s=>some ([],s)
|e::r,C,vs,s=>(e C vs s).bind fun x=>(pg r C vs x.2).bind fun y=>some (x.1::y.1,y.2)
def Ml(es:List DE):DE:=fun C vs s=>(pg es C vs s).bind fun x=>some (.tup x.1,x.2)
def MF(d:DK)(es:List DE):DE:=fun C vs s=>(pg es C vs s).bind fun x=>alloc x.2 d (.lst x.1)
def MN(ks:List PV)(es:List DE):DE:=fun C vs s=>(pg es C vs s).bind fun x=>(gg ((ks.zip x.1).map fun y=>.tup [y.1,y.2]) []).bind fun l=>alloc x.2 .glob (.dct l)
def Of(d:DK)(o:Operator)(a b:DE):DE:=fun C vs s=>(a C vs s).bind fun x=>(b C vs x.2).bind fun y=>fP y.2 d o x.1 y.1
def Nd(a:DE):DE:=fun C vs s=>(a C vs s).bind fun x=>(cX x.1).bind fun b=>some (.bool (!b),x.2)
def OB(a:DE):DE:=fun C vs s=>(a C vs s).bind fun x=>(aZ x.1).bind fun i=>some (.int (-i),x.2)
noncomputable def Gm:List DE->DE
|[],_,_,_=>.none
|e::r,C,vs,s=>match r with
  |[]=>e C vs s
  |z=>(e C vs s).bind fun x=>(cX x.1).bind fun b=>if b then Gm r C vs x.2 else some x
noncomputable def Q1:List DE->DE
|[],_,_,_=>.none
|e::r,C,vs,s=>match r with
  |[]=>e C vs s
  |z=>(e C vs s).bind fun x=>(cX x.1).bind fun b=>if b then some x else Q1 r C vs x.2
noncomputable def sU:PV->List CmpOp->List DE->DT
|a,o::ops,e::es,C,vs,s=>(e C vs s).bind fun x=>(aM x.2 o a x.1).bind fun c=>match ops with
  |[]=>some (c,x.2)
  |z=>if c then sU x.1 ops es C vs x.2 else some (false,x.2)
|z,y,w,v,u,t=>.none
def A1(a:DE)(ops:List CmpOp)(es:List DE):DT:=fun C vs s=>(a C vs s).bind fun x=>sU x.1 ops es C vs x.2
noncomputable def dB(t:DT):DE:=fun C vs s=>(t C vs s).bind fun x=>some (.bool x.1,x.2)
noncomputable def M1(t:DT)(a b:DE):DE:=fun C vs s=>(t C vs s).bind fun x=>if x.1 then a C vs x.2 else b C vs x.2
def dF(C:Zn)(f:Nat)(s:St)(as:List PV):Option (PV×St):=(jJ s as).bind fun x=>(C.F f x.1 x.2.g).bind fun r=>some (r.1,{x.2 with g:=r.2})
def vV(f:Nat)(es:List DE):DE:=fun C vs s=>(pg es C vs s).bind fun x=>dF C f x.2 x.1
def uW(d:DK)(b:Ä)(es:List DE):DE:=fun C vs s=>(pg es C vs s).bind fun x=>b x.2 d x.1
noncomputable def zV(b:PV->Option Bool)(e:DE):DE:=fun C vs s=>(e C vs s).bind fun x=>(b x.1).bind fun c=>some (.bool c,x.2)
def xb(mL mD:Option Î)(o:DE)(m:Nat)(es:List DE):DE:=fun C vs s=>(o C vs s).bind fun x=>(gN x.2 x.1).bind fun w=>match w with
|.inst c fs=>if(aQ fs m).isSome then .none else(C.M c m).bind fun f=>(pg es C vs x.2).bind fun y=>dF C f y.2 (x.1::y.1)
|.lst _=>mL.bind fun f=>(pg es C vs x.2).bind fun y=>f y.2 x.1 y.1
|.dct _=>mD.bind fun f=>(pg es C vs x.2).bind fun y=>f y.2 x.1 y.1
def Hp(o:DE)(a:Nat):DE:=fun C vs s=>(o C vs s).bind fun x=>(ge x.2 x.1).bind fun y=>if(C.M y.1 a).isNone then(aQ y.2 a).bind fun v=>some (v,x.2) else .none
def M3(o i:DE):DE:=fun C vs s=>(o C vs s).bind fun x=>(i C vs x.2).bind fun y=>(item y.2 x.1 y.1).bind fun v=>some (v,y.2)
noncomputable def oN:DO:=fun z z s=>some (.none,s)
def oI(e:DE):DO:=fun C vs s=>(e C vs s).bind fun x=>(aZ x.1).bind fun i=>some (some i,x.2)
def BK(s:St)(d:DK)(o:PV)(a b:Option Int):Option (PV×St):=match o with
|.tup l=>some (.tup (gI l a b),s)
|o=>(cN s o).bind fun l=>alloc s d (.lst (gI l a b))
def z7(d:DK)(o:DE)(a b:DO):DE:=fun C vs s=>(o C vs s).bind fun x=>(a C vs x.2).bind fun y=>(b C vs y.2).bind fun z=>BK z.2 d x.1 y.1 z.1
def Pa(s:St)(d:DK)(o:PV):Option (PV×St):=match o with
|.tup _=>.none
|o=>(cN s o).bind fun l=>alloc s d (.lst l.reverse)
def NW(d:DK)(o:DE):DE:=fun C vs s=>(o C vs s).bind fun x=>Pa x.2 d x.1
def Mo(e:DE):DT:=fun C vs s=>(e C vs s).bind fun x=>(cX x.1).bind fun b=>some (b,x.2)
noncomputable def Qh(t:DT):DT:=fun C vs s=>(t C vs s).bind fun x=>some (!x.1,x.2)
noncomputable def rx:List DT->DT
|[],_,_,s=>some (true,s)
|e::r,C,vs,s=>(e C vs s).bind fun x=>if x.1 then rx r C vs x.2 else some (false,x.2)
noncomputable def Qk:List DT->DT
|[],_,_,s=>some (false,s)
|e::r,C,vs,s=>(e C vs s).bind fun x=>if x.1 then some (true,x.2) else Qk r C vs x.2
noncomputable def PX(t a b:DT):DT:=fun C vs s=>(t C vs s).bind fun x=>if x.1 then a C vs x.2 else b C vs x.2
def iE(e:DE):DI:=fun C vs s=>(e C vs s).bind fun x=>(iB x.2 x.1).bind fun l=>some (l,(aK x.2 x.1).2,(aK x.2 x.1).1)
def fA:List PV->Option (List PV)
|[b]=>(aZ b).bind fun b=>cR 0 b 1
|[a,b]=>(aZ a).bind fun a=>(aZ b).bind fun b=>cR a b 1
|[a,b,c]=>(aZ a).bind fun a=>(aZ b).bind fun b=>(aZ c).bind fun c=>cR a b c
|z=>.none
def Ds(es:List DE):DI:=fun C vs s=>(pg es C vs s).bind fun x=>(fA x.1).bind fun l=>some (l,.none,x.2)
noncomputable def fN(i:Nat):List PV->List PV
|[]=>[]
|v::r=>.tup [.int i,v]::fN (i+1) r
def HR(e:DE):DI:=fun C vs s=>(e C vs s).bind fun x=>(cN x.2 x.1).bind fun l=>some (fN 0 l,(aK x.2 x.1).2,(aK x.2 x.1).1)
noncomputable def oO:List PV->List PV->List PV
|a::r,b::q=>.tup [a,b]::oO r q
|z,y=>[]
def P6(a b:DE):DI:=fun C vs s=>(a C vs s).bind fun x=>(b C vs x.2).bind fun y=>(gz y.2 x.1).bind fun l=>(ou y.1).bind fun r=>some (oO l r,(aK y.2 x.1).2,(aK y.2 x.1).1)
noncomputable def ar(f:PV->List PV->St->Option (List PV×St)):List PV->List PV->St->Option (List PV×St)
|[],acc,s=>some (acc,s)
|x::r,acc,s=>(f x acc s).bind fun y=>ar f r y.1 y.2
structure DC where
 p:DP
 own:List Nat
 it:DI
 ifs:List DT
def my(own:List Nat)(vs:YA):Bool:=own.all fun y=>(aQ vs y).isNone
def rf(elt:DE):Zn->YA->List PV->St->Option (List PV×St):=fun C vs acc s=>(elt C vs s).bind fun x=>if aq (acc++[x.1]) then some (acc++[x.1],x.2) else .none
noncomputable def lM(elt:DE):List DC->Zn->YA->List PV->St->Option (List PV×St)
|[],C,vs,acc,s=>rf elt C vs acc s
|c::cl,C,vs,acc,s=>if my c.own vs then(c.it C vs s).bind fun y=>
   (ar (fun x acc s=>(c.p x vs).bind fun vs=>(rx c.ifs C vs s).bind fun b=>if b.1 then lM elt cl C vs acc b.2 else some (acc,b.2)) y.1 acc y.2.2).bind fun z=>some (z.1,aO z.2 y.2.1)
  else .none
def iX(d:DK)(own:List Nat)(elt:DE)(cl:List DC):DE:=fun C vs s=>(lM elt cl C (vs.filter fun x=>!own.contains x.1) [] s).bind fun x=>alloc x.2 d (.lst x.1)
abbrev R3:=Fl×YA×St
noncomputable def au(f:PV->YA->St->Option R3):List PV->YA->St->Option R3
|[],vs,s=>some (.next,vs,s)
|x::r,vs,s=>(f x vs s).bind fun y=>match y.1 with
  |.next=>au f r (aA vs y.2.1) y.2.2
  |.cont=>au f r (aA vs y.2.1) y.2.2
  |.brk=>some (.next,aA vs y.2.1,y.2.2)
  |.ret v=>some (.ret v,vs,y.2.2)
noncomputable def aT(t:YA->St->Option (Bool×St))(f:YA->St->Option R3):Nat->YA->St->Option R3
|0,_,_=>.none
|n+1,vs,s=>(t vs s).bind fun b=>if b.1 then(f vs b.2).bind fun y=>match y.1 with
   |.next=>aT t f n (aA vs y.2.1) y.2.2
   |.cont=>aT t f n (aA vs y.2.1) y.2.2
   |.brk=>some (.next,aA vs y.2.1,y.2.2)
   |.ret v=>some (.ret v,vs,y.2.2)
  else some (.next,vs,b.2)
noncomputable def aS:Nat:=100000
noncomputable def m8:List DS->DS
|[],_,vs,s=>some (.next,vs,s)
|st::r,C,vs,s=>(st C vs s).bind fun y=>match y.1 with
  |.next=>m8 r C y.2.1 y.2.2
  |z=>some y
noncomputable def GC(nm:Bool)(p:DP)(e:DE):DS:=fun C vs s=>(e C vs s).bind fun x=>if nm||(match x.1 with|.loc _=>false|_=>true) then(p x.1 vs).bind fun vs=>some (.next,vs,x.2) else .none
def IW(o:DE)(a:Nat)(e:DE):DS:=fun C vs s=>(e C vs s).bind fun x=>(o C vs x.2).bind fun y=>(jU C y.2 y.1 a x.1).bind fun s=>some (.next,vs,s)
def HZ(o i e:DE):DS:=fun C vs s=>(e C vs s).bind fun x=>(o C vs x.2).bind fun y=>(i C vs y.2).bind fun z=>(nY z.2 y.1 z.1 x.1).bind fun s=>some (.next,vs,s)
noncomputable def jR:List (DE×Nat)->Zn->List PV->YA->St->Option St
|[],_,[],_,s=>some s
|t::ts,C,v::r,vs,s=>(t.1 C vs s).bind fun x=>(jU C x.2 x.1 t.2 v).bind fun s=>jR ts C r vs s
|z,y,w,u,q=>.none
def HE(ts:List (DE×Nat))(e:DE):DS:=fun C vs s=>(e C vs s).bind fun x=>(gU x.1).bind fun l=>(jR ts C l vs x.2).bind fun s=>some (.next,vs,s)
noncomputable def Ox:Operator->Bool
|.Add=>true
|.Sub=>true
|z=>false
def KJ(o:Operator)(a b:PV):Option PV:=(aZ a).bind fun a=>(aZ b).bind fun b=>if Ox o then(xF o a b).bind fun k=>some (.int k) else .none
def Ij(x:Nat)(o:Operator)(e:DE):DS:=fun C vs s=>(aQ vs x).bind fun a=>(e C vs s).bind fun b=>(KJ o a b.1).bind fun v=>some (.next,dK vs x v,b.2)
def Iy(ob:DE)(a:Nat)(o:Operator)(e:DE):DS:=fun C vs s=>(ob C vs s).bind fun x=>(ge x.2 x.1).bind fun y=>if(C.M y.1 a).isNone then(aQ y.2 a).bind fun w=>(e C vs x.2).bind fun b=>(KJ o w b.1).bind fun v=>(jU C b.2 x.1 a v).bind fun s=>some (.next,vs,s) else .none
noncomputable def Ia(e:DE):DS:=fun C vs s=>(e C vs s).bind fun x=>some (.next,vs,x.2)
noncomputable def R8(t:DT)(a b:DS):DS:=fun C vs s=>(t C vs s).bind fun x=>if x.1 then a C vs x.2 else b C vs x.2
def zK(t:DT)(b:DS):DS:=fun C vs s=>aT (fun vs s=>t C vs s) (fun vs s=>b C vs s) aS vs s
def OF(p:DP)(it:DI)(b:DS):DS:=fun C vs s=>(it C vs s).bind fun y=>(au (fun x vs s=>(p x vs).bind fun vs=>b C vs s) y.1 vs y.2.2).bind fun z=>some (z.1,z.2.1,aO z.2.2 y.2.1)
def KC(e:DE):DS:=fun C vs s=>(e C vs s).bind fun x=>(fi x.2 x.1).bind fun y=>some (.ret y.1,vs,y.2)
noncomputable def xM(f:Fl):DS:=fun z vs s=>some (f,vs,s)
noncomputable def Ĭ:DS:=fun z z z=>.none
structure Fn where
 params:List Nat
 Z7:List PV
 body:DS
def Dj(ps:List Nat)(vs ds:List PV)(n:Nat):Option PV:=match aQ (ps.zip vs) n with
|some v=>some v
|.none=>aQ ((ps.drop (ps.length-ds.length)).zip ds) n
def Do(ps:List Nat)(vs ds:List PV):Option YA:=
 if ps.length<vs.length then .none
 else if(ps.take (ps.length-ds.length)).any (fun n=>(aQ (ps.zip vs) n).isNone) then .none
 else some (ps.filterMap fun n=>(Dj ps vs ds n).map fun v=>(n,v))
def eA(ps:List Nat)(vs ds:List PV):Option YA:=Do ps vs (ds.drop (ds.length-ps.length))
noncomputable def di:List Ent->List Ent->Bool
|_,[]=>true
|[],e::r=>!e.k.Zp&&di [] r
|a::g,e::r=>(!e.k.Zp||a.k.Zp)&&di g r
noncomputable def mU:Fl->Option PV
|.ret v=>some v
|.next=>some .none
|z=>.none
def pJ(C:Zn)(f:Fn)(args:List PV)(g:List Ent):Option (PV×List Ent):=
 (eA f.params args f.Z7).bind fun vs=>(f.body C vs ⟨[],g⟩).bind fun y=>if di g y.2.2.g then(mU y.1).bind fun v=>some (v,y.2.2.g) else .none
def BA(C:Zn)(c:Nat)(f:Fn)(args:List PV)(g:List Ent):Option (PV×List Ent):=
 (eA f.params (.loc 0::args) f.Z7).bind fun vs=>(f.body C vs ⟨[⟨.inst c [],.mut⟩],g⟩).bind fun y=>if di g y.2.2.g then(match y.1,y.2.2.l with
  |.next,⟨o,.mut⟩::_=>if bT o then some (dR o,y.2.2.g) else .none
  |z,x=>.none) else .none
def vU(C:Zn)(c init:Nat)(args:List PV)(g:List Ent):Option (PV×List Ent):=
 (C.F init (.glob g.length::args) (g++[⟨.inst c [],.mut⟩])).bind fun r=>if qV r.1 then some (.glob g.length,r.2) else .none
mutual
noncomputable def bF(n:Nat):PV->Bool
|.tup l=>iA n l
|.lst l=>iA n l
|.dct l=>fx n l
|.inst _ f=>rO n f
|.loc _=>false
|.glob i=>decide (i<n)
|z=>true
noncomputable def iA(n:Nat):List PV->Bool
|[]=>true
|v::r=>bF n v&&iA n r
noncomputable def fx(n:Nat):List (PV×PV)->Bool
|[]=>true
|(k,v)::r=>bF n k&&bF n v&&fx n r
noncomputable def rO(n:Nat):List (Nat×PV)->Bool
|[]=>true
|(_,v)::r=>bF n v&&rO n r
end
noncomputable def dm{α:Type}(f:α->Option α):List α->Option (List α)
|[]=>some []
|v::r=>(f v).bind fun v=>(dm f r).bind fun l=>some (v::l)
noncomputable def dO(m:Nat)(g:List Ent):Nat->PV->Option PV
|0,v=>if bF m v then some v else .none
|n+1,v=>match v with
  |.glob i=>if i<m then .none else(g[i]?).bind fun e=>match e.o with
   |.lst l=>(dm (dO m g n) l).bind fun l=>some (.lst l)
   |.dct l=>(dm (fun(x:PV×PV)=>if bF m x.1 then(dO m g n x.2).bind fun v=>some (x.1,v) else .none) l).bind fun l=>some (.dct l)
   |.inst c f=>(dm (fun(x:Nat×PV)=>(dO m g n x.2).bind fun v=>some (x.1,v)) f).bind fun l=>some (.inst c l)
  |v=>if bF m v then some v else .none
def eU(g:List Ent)(r:Option (PV×List Ent)):Option (PV×List Ent):=
 r.bind fun r=>(dO g.length r.2 8 r.1).bind fun v=>if(r.2.take g.length).all (fun e=>bF g.length (dR e.o))&&decide (g.length≤r.2.length) then some (v,r.2.take g.length) else .none
set_option smartUnfolding true
abbrev KM(α:Type):=∀β:Type,Zn->YA->St->(α->Option β)->Option β
def Nt{α:Type}(m:KM α)(d:Zn->YA->St->Option α):Prop:=∀β C vs s k,m β C vs s k=(d C vs s).bind k
noncomputable def iS{α:Type}(m:KM α):Zn->YA->St->Option α:=fun C vs s=>m α C vs s some
noncomputable def kD{α:Type}(d:Zn->YA->St->Option α):KM α:=fun β C vs s k=>(d C vs s).bind k
theorem ut{α:Type}(d:Zn->YA->St->Option α):Nt (kD d) d:=fun z z z z z=>rfl
section
variable{α γ:Type}
theorem bZ{m:KM α}{d:Zn->YA->St->Option α}(h:Nt m d){f:Zn->YA->α->Option γ}{g:∀β:Type,Zn->YA->(γ->Option β)->α->Option β}(hg:∀β C vs k x,g β C vs k x=(f C vs x).bind k):
  Nt (fun β C vs s k=>m β C vs s (g β C vs k)) fun C vs s=>(d C vs s).bind (f C vs):=fun β C vs s k=>
 (h β C vs s _).trans ((YH _ (funext fun x=>hg β C vs k x)).trans (Y0 ..).symm)
theorem u7(x:Option α):x.bind some=x:=by cases x<;>rfl
theorem kZ{c:Bool}{a b:Option α}{β:Type}{k:α->Option β}:(if c then a.bind k else b.bind k)=(if c then a else b).bind k:=by cases c<;>rfl
theorem qu{m:KM α}{d:Zn->YA->St->Option α}(h:Nt m d):d=iS m:=Eq.symm<|funext fun C=>funext fun vs=>funext fun s=>(h α C vs s some).trans (u7 _)
end
theorem Nt.Zy{α:Type}{m:KM α}{d:Zn->YA->St->Option α}(h:Nt m d):Nt m (iS m):=qu h▸h
noncomputable def Ma:List (KM (PV×St))->KM (List PV×St)
|[],_,_,_,s,k=>k ([],s)
|e::r,β,C,vs,s,k=>e β C vs s fun x=>Ma r β C vs x.2 fun y=>k (x.1::y.1,y.2)
class inductive Ba:List (KM (PV×St))->List DE->Prop
|nil:Ba [] []
|cons {m d ms ds}:Nt m d->Ba ms ds->Ba (m::ms) (d::ds)
theorem OX{ms:List (KM (PV×St))}{ds:List DE}(h:Ba ms ds):Nt (Ma ms) (pg ds):=by
 induction h with
|nil=>exact fun z z z z z=>rfl
|cons h _ ih=>
   refine bZ h fun β C vs k x=>?_
   rw[Y0];exact ih β C vs x.2 _
theorem ba{α β γ:Type}{x:Option α}{f:α->γ}{k:γ->Option β}:(x.bind fun a=>k (f a))=(x.bind fun a=>some (f a)).bind k:=by cases x<;>rfl
theorem NF{α β γ δ:Type}{x:Option α}{y:α->Option δ}{f:α->δ->γ}{k:γ->Option β}:(x.bind fun a=>(y a).bind fun b=>k (f a b))=(x.bind fun a=>(y a).bind fun b=>some (f a b)).bind k:=by cases x with|none=>rfl|some a=>exact ba
noncomputable def k2{γ:Type}(f:∀β:Type,PV->PV×St->(γ->Option β)->Option β)(a b:KM (PV×St)):KM γ:=fun β C vs s k=>a β C vs s fun x=>b β C vs x.2 fun y=>f β x.1 y k
theorem SW{γ:Type}{f:∀β:Type,PV->PV×St->(γ->Option β)->Option β}{g:PV->PV×St->Option γ}{a b:KM (PV×St)}{a' b':DE}(h1:Nt a a')(h2:Nt b b')(hf:∀β u y k,f β u y k=(g u y).bind k):Nt (k2 f a b) fun C vs s=>(a' C vs s).bind fun x=>(b' C vs x.2).bind fun y=>g x.1 y:=
 bZ h1 fun β C vs k x=>by rw[Y0,h2];exact YH _ (funext fun y=>hf β x.1 y k)
noncomputable def k1{α:Type}(f:∀β:Type,PV×St->(α->Option β)->Option β)(a:KM (PV×St)):KM α:=fun β C vs s k=>a β C vs s fun x=>f β x k
def kN{α:Type}(f:∀β:Type,Zn->List PV×St->(α->Option β)->Option β)(a:List (KM (PV×St))):KM α:=fun β C vs s k=>Ma a β C vs s fun x=>f β C x k
theorem L9{α:Type}{f:∀β:Type,PV×St->(α->Option β)->Option β}{g:PV×St->Option α}{a:KM (PV×St)}{a':DE}(h:Nt a a')(hf:∀β x k,f β x k=(g x).bind k):Nt (k1 f a) fun C vs s=>(a' C vs s).bind g:=bZ h fun β z z k x=>hf β x k
theorem NB{α:Type}{f:∀β:Type,Zn->List PV×St->(α->Option β)->Option β}{g:Zn->List PV×St->Option α}{a:List (KM (PV×St))}{a':List DE}(h:Ba a a')(hf:∀β C x k,f β C x k=(g C x).bind k):Nt (kN f a) fun C vs s=>(pg a' C vs s).bind (g C):=bZ (OX h) fun β C z k x=>hf β C x k
def UQ(f:Nat)(β:Type)(C:Zn)(x:List PV×St)(k:PV×St->Option β):Option β:=(jJ x.2 x.1).bind fun y=>(C.F f y.1 y.2.g).bind fun r=>k (r.1,{y.2 with g:=r.2})
noncomputable def Dv{α:Type}(t:KM (Bool×St))(a b:KM α):KM α:=fun β C vs s k=>t β C vs s fun x=>if x.1 then a β C vs x.2 k else b β C vs x.2 k
theorem xY{α:Type}{t:KM (Bool×St)}{a b:KM α}{t':DT}{a' b':Zn->YA->St->Option α}(h:Nt t t')(h1:Nt a a')(h2:Nt b b'):Nt (Dv t a b) fun C vs s=>(t' C vs s).bind fun x=>if x.1 then a' C vs x.2 else b' C vs x.2:=
 bZ h fun β C vs k x=>by rw[h1,h2];exact kZ
noncomputable def Ac:List (KM (Bool×St))->KM (Bool×St)
|[],_,_,_,s,k=>k (true,s)
|e::r,β,C,vs,s,k=>e β C vs s fun x=>if x.1 then Ac r β C vs x.2 k else k (false,x.2)
noncomputable def Ll:List (KM (Bool×St))->KM (Bool×St)
|[],_,_,_,s,k=>k (false,s)
|e::r,β,C,vs,s,k=>e β C vs s fun x=>if x.1 then k (true,x.2) else Ll r β C vs x.2 k
class inductive LW:List (KM (Bool×St))->List DT->Prop
|nil:LW [] []
|cons {m d ms ds}:Nt m d->LW ms ds->LW (m::ms) (d::ds)
theorem Jr{ms:List (KM (Bool×St))}{ds:List DT}(h:LW ms ds):Nt (Ac ms) (rx ds):=by
 induction h with
|nil=>exact fun z z z z z=>rfl
|cons h _ ih=>
   refine bZ h fun β C vs k x=>?_
   show(if x.1 then _ else(some (false,x.2)).bind k)=_;rw[ih];exact kZ
theorem OV{ms:List (KM (Bool×St))}{ds:List DT}(h:LW ms ds):Nt (Ll ms) (Qk ds):=by
 induction h with
|nil=>exact fun z z z z z=>rfl
|cons h _ ih=>
   refine bZ h fun β C vs k x=>?_
   show(if x.1 then(some (true,x.2)).bind k else _)=_;rw[ih];exact kZ
noncomputable def Ku:List (KM (PV×St))->KM (PV×St)
|[],_,_,_,_,_=>.none
|e::r,β,C,vs,s,k=>match r with
  |[]=>e β C vs s k
  |z=>e β C vs s fun x=>(cX x.1).bind fun b=>if b then Ku r β C vs x.2 k else k x
noncomputable def S9:List (KM (PV×St))->KM (PV×St)
|[],_,_,_,_,_=>.none
|e::r,β,C,vs,s,k=>match r with
  |[]=>e β C vs s k
  |z=>e β C vs s fun x=>(cX x.1).bind fun b=>if b then k x else S9 r β C vs x.2 k
theorem MB{ms:List (KM (PV×St))}{ds:List DE}(h:Ba ms ds):Nt (Ku ms) (Gm ds):=by
 induction h with
|nil=>exact fun z z z z z=>rfl
|cons h t ih=>
  cases t with
  |nil=>exact h
  |cons=>
    refine bZ h fun β C vs k x=>?_
    rw[Y0];exact YH _ (funext fun b=>by show(if b then _ else(some x).bind k)=_;rw[ih];exact kZ)
theorem Rv{ms:List (KM (PV×St))}{ds:List DE}(h:Ba ms ds):Nt (S9 ms) (Q1 ds):=by
 induction h with
|nil=>exact fun z z z z z=>rfl
|cons h t ih=>
  cases t with
  |nil=>exact h
  |cons=>
    refine bZ h fun β C vs k x=>?_
    rw[Y0];exact YH _ (funext fun b=>by show(if b then(some x).bind k else _)=_;rw[ih];exact kZ)
noncomputable def LM:PV->List CmpOp->List (KM (PV×St))->KM (Bool×St)
|a,o::ops,e::es,β,C,vs,s,k=>e β C vs s fun x=>(aM x.2 o a x.1).bind fun c=>match ops with
  |[]=>k (c,x.2)
  |z=>if c then LM x.1 ops es β C vs x.2 k else k (false,x.2)
|z,y,w,v,u,t,r,q=>.none
theorem Nb{ms:List (KM (PV×St))}{ds:List DE}(h:Ba ms ds):∀(a:PV) (ops:List CmpOp),Nt (LM a ops ms) (sU a ops ds):=by
 induction h with
|nil=>exact fun a ops=>by cases ops<;>exact fun z z z z z=>rfl
|cons h t ih=>
   intro a ops;cases ops with
   |nil=>exact fun z z z z z=>rfl
   |cons o ops=>
     refine bZ h fun β C vs k x=>?_
     rw[Y0];refine YH _ (funext fun c=>?_);cases ops with
     |nil=>rfl
     |cons o' os=>show(if c then _ else(some (false,x.2)).bind k)=_;rw[ih];exact kZ
def BO(a:KM (PV×St))(ops:List CmpOp)(es:List (KM (PV×St))):KM (Bool×St):=fun β C vs s k=>a β C vs s fun x=>LM x.1 ops es β C vs x.2 k
theorem CU{a:KM (PV×St)}{a':DE}{ops:List CmpOp}{ms:List (KM (PV×St))}{ds:List DE}(h:Nt a a')(hs:Ba ms ds):Nt (BO a ops ms) (A1 a' ops ds):=bZ h fun β C vs k x=>Nb hs x.1 ops β C vs x.2 k
noncomputable def Lv{α γ:Type}(f:α->γ)(t:KM α):KM γ:=fun β C vs s k=>t β C vs s fun x=>k (f x)
theorem Hn{α γ:Type}{f:α->γ}{t:KM α}{t':Zn->YA->St->Option α}(h:Nt t t'):Nt (Lv f t) fun C vs s=>(t' C vs s).bind fun x=>some (f x):=bZ h fun z z z z z=>rfl
def sG(mL mD:Option Î)(o:KM (PV×St))(m:Nat)(es:List (KM (PV×St))):KM (PV×St):=fun β C vs s k=>o β C vs s fun x=>(gN x.2 x.1).bind fun w=>match w with
|.inst c fs=>if(aQ fs m).isSome then .none else(C.M c m).bind fun f=>Ma es β C vs x.2 fun y=>UQ f β C (x.1::y.1,y.2) k
|.lst _=>mL.bind fun f=>Ma es β C vs x.2 fun y=>(f y.2 x.1 y.1).bind k
|.dct _=>mD.bind fun f=>Ma es β C vs x.2 fun y=>(f y.2 x.1 y.1).bind k
theorem JJ{mL mD:Option Î}{o:KM (PV×St)}{o':DE}{m:Nat}{es:List (KM (PV×St))}{ds:List DE}(h:Nt o o')(hs:Ba es ds):Nt (sG mL mD o m es) (xb mL mD o' m ds):=bZ h fun β C vs k x=>by
 rw[Y0];refine YH _ (funext fun w=>?_);have E:=OX hs;cases w with
|inst c fs=>
  show(if _ then none else _)=Option.bind (if _ then none else _) k;by_cases hc:(aQ fs m).isSome=true
  ·rw[Yh hc,Yh hc];rfl
  ·rw[Yg hc,Yg hc,Y0];exact YH _ (funext fun f=>(E β C vs x.2 _).trans ((YH _ (funext fun y=>NF)).trans (Y0 ..).symm))
|lst l=>exact(YH (mL.bind ·) (funext fun f=>(E β C vs x.2 _).trans (Y0 ..).symm)).trans (Y0 ..).symm
|dct l=>exact(YH (mD.bind ·) (funext fun f=>(E β C vs x.2 _).trans (Y0 ..).symm)).trans (Y0 ..).symm
noncomputable def fZ:List (KM R3)->KM R3
|[],_,_,vs,s,k=>k (.next,vs,s)
|st::r,β,C,vs,s,k=>st β C vs s fun y=>match y.1 with
  |.next=>fZ r β C y.2.1 y.2.2 k
  |z=>k y
class inductive Nq:List (KM R3)->List DS->Prop
|nil:Nq [] []
|cons {m d ms ds}:Nt m d->Nq ms ds->Nq (m::ms) (d::ds)
theorem fC{ms:List (KM R3)}{ds:List DS}(h:Nq ms ds):Nt (fZ ms) (m8 ds):=by
 induction h with
|nil=>exact fun z z z z z=>rfl
|cons h _ ih=>
   refine bZ h fun β C vs k y=>?_
   obtain⟨f,w,st⟩:=y;cases f with
   |next=>exact ih β C w st k
   |_=>rfl
noncomputable def kF{α γ:Type}(a:KM α)(f:∀β:Type,Zn->YA->α->(γ->Option β)->Option β):KM γ:=fun β C vs s k=>a β C vs s fun x=>f β C vs x k
theorem Hz{α γ:Type}{a:KM α}{a':Zn->YA->St->Option α}{f:∀β:Type,Zn->YA->α->(γ->Option β)->Option β}{g:Zn->YA->α->Option γ}(h:Nt a a')(hf:∀β C vs x k,f β C vs x k=(g C vs x).bind k):Nt (kF a f) fun C vs s=>(a' C vs s).bind (g C vs):=bZ h fun β C vs k x=>hf β C vs x k
def A6(a:Nat)(β:Type)(C:Zn)(_:YA)(x:PV×St)(k:PV×St->Option β):Option β:=(ge x.2 x.1).bind fun y=>if(C.M y.1 a).isNone then(aQ y.2 a).bind fun v=>k (v,x.2) else .none
theorem CD(a:Nat)(β:Type)(C:Zn)(vs:YA)(x:PV×St)(k:PV×St->Option β):A6 a β C vs x k=((ge x.2 x.1).bind fun y=>if(C.M y.1 a).isNone then(aQ y.2 a).bind fun v=>some (v,x.2) else .none).bind k:=by
 unfold A6;cases ge x.2 x.1 with
|none=>rfl
|some y=>
  show(if(C.M y.1 a).isNone=true then _ else none)=(if(C.M y.1 a).isNone=true then _ else none).bind k;cases(C.M y.1 a).isNone with
  |true=>exact ba
  |false=>rfl
open Lean in
def mcF:Nat→Syntax→List Term
  | n+1,s=>if s.isOfKind ``«term_∧_» then ⟨s[0]⟩::mcF n s[2] else [⟨s⟩]
  | _,s=>[⟨s⟩]
open Lean in
def mcX (q:String) (l:List Term):Term:=Syntax.mkApp (mkIdent (.mkStr3 "Mine" "Internal" (q++toString l.length))) l.toArray
open Lean in
def mcL (x:Syntax):List Term→List Term
  | []=>[]
  | b::l=>⟨mkNode ``Parser.Term.fun #[mkAtom "fun",mkNode ``Parser.Term.basicFun #[x,mkNullNode,mkAtom "=>",b]]⟩::mcL x l
open Lean in
def mcE (u b:Syntax):MacroM Syntax:=
  let n:=u[0].getNumArgs
  let i (k:Nat):=u[0][k][0]
  let l:=mcF 3 b
  if u.getNumArgs==2&&u[1].getNumArgs==0&&n<4&&(l.length>1||n>1)&&(i 0).isIdent&&(n<2||(i 1).isIdent)&&(n<3||(i 2).isIdent) then
    pure (mcX ("X"++toString n++"A") (mcL (mkNullNode ([i 0,i 1,i 2].take n).toArray) l))
  else Macro.throwUnsupported
open Lean in
def mcT (d:Syntax):MacroM Syntax:=
  `(tactic| (refine (?_:$(⟨if d[2].getNumArgs==0 then mkNode ``Parser.Term.hole #[mkAtom "_"] else d[2][0][1]⟩)→_) $(⟨d[4]⟩); intro $(⟨d[0][0]⟩)))
open Lean in
local macro_rules
  | `($a ∧ $b)=>let l:=a::mcF 3 b; if l.length<3 then Macro.throwUnsupported else pure (mcX "A" l)
  | `(∃ $x,$b)=>mcE x.raw[0] b
local macro_rules
  | `(tactic| let' $d:letDecl)=>mcT d.raw[0]
local macro_rules
  | `(tactic| rfl')=>`(tactic| kernel_rfl)
local macro_rules
  | `(‹$t›)=>`((by kernel_rfl:$t))
section
open PySem.W
set_option smartUnfolding false
inductive b5 where
|L|cell (x:Str)|obj (i:Nat) (d:Bool)|it (k:Nat)
inductive iW where
|fz|ct|gl (i:Nat) (d:Bool)|fr (n:Nat) (k:b5)
structure Gh where
 own:Addr->iW
 ga:List Addr
 la:List Addr
 n:Nat
 top:Nat
 lk:Addr->Prop
structure Tp where
 prog:Program
 w:World
 h0:Heap
 mg:Str->Option Value
 mb:Str->Option Value
 cls:Nat->Option Addr
 cns:Nat->Str->Option Value
 cnN:Nat->Addr
 meth:Nat->Nat->Option Nat
 atts:List Nat
 fn:Nat->Option Addr
 P:Addr
 cst:Nat->Option PV
noncomputable abbrev cT(items:Array Value)(n:Nat):Obj:={cls:=.type "tuple",data:=.seq items n}
noncomputable abbrev bD(items:Array Value)(n:Nat):Obj:={cls:=.type "list",data:=.seq items n}
abbrev gf(es:Array DictEntry)(n:Nat):Obj:={cls:=.type "dict",data:=.dict es n}
abbrev zU(C:Addr×Data×Array (Option Value))(dx:Addr):Obj:={cls:=.ref C.1,dict:=some dx,data:=C.2.1,slots:=C.2.2}
noncomputable def oQ(l:List Nat):Nat:=l.foldl (fun a c=>a*256+c) 0
noncomputable def PD:Nat->Nat->List Nat->List Nat
|0,_,acc=>acc
|k+1,n,acc=>if n=0 then acc else PD k (n/256) (n%256::acc)
def dec(n:Nat):Str:=⟨(PD 64 n []).toArray⟩
def enc(x:Str):Option Nat:=if dec (oQ x.cps.toList)=x then some (oQ x.cps.toList) else none
def IU(w:World):PV->Int
|.int i=>hashInt i
|.str s=>hashStr w s
|.tup l=>match d7 l with
  |some ks=>reduceHash (Builtin.Tuple.tupleHashOf (ks.map hashInt))
  |none=>0
|z=>0
noncomputable def xC:PV->Bool
|.str _=>true
|z=>false
def ny:PV->Bool
|.tup l=>l.all jL
|z=>false
def eF(l:List (PV×PV)):Prop:=(l.all (fun x=>jL x.1)=true∨l.all (fun x=>xC x.1)=true∨l.all (fun x=>ny x.1)=true)∧(l.map (·.1)).Nodup
inductive qg(T:Tp)(h:Heap)(a dx:Addr)(c:Nat)(mA:Str->Option Value):Prop
|i (C:Addr×Data×Array (Option Value)) (x:T.cls c=some C.1∧∀k,C.2.1≠.cls k) (y:h.get? a=some (zU C dx)) (z:dx≠a) (w:h.Ns1 dx mA)
inductive cV(h:Heap)(mk:Array Value->Nat->Obj)(k:Nat)(P:List Value->Prop)(a:Addr):Prop
|i (items:Array Value) (n:Nat) (x:h.get? a=some (mk items n)) (y:k≤4000000) (z:P items.toList)
inductive eT(h:Heap)(l:List (PV×PV))(P:List DictEntry->Prop)(a:Addr):Prop
|i (es:Array DictEntry) (n:Nat) (x:h.get? a=some (gf es n)) (y:a≠sysModules∧eF l) (z:P es.toList)
inductive ig(T:Tp)(h:Heap)(dk:Addr->Prop)(c:Nat)(ks:List Nat)(P:(Str->Option Value)->Prop)(a:Addr):Prop
|i (dx:Addr) (mA:Str->Option Value) (x:dk dx) (y:qg T h a dx c mA) (z:ks.Nodup) (w:∀n v,mA n=some v->∃k∈ks,n=dec k) (u:P mA)
inductive lK(G:Gh)(P:Addr->Prop)(v:Value):Prop
|i (a:Addr) (x:v=.ref a) (y:G.own a=.fz) (z:P a)
inductive Oc{α:Type}(P:α->Prop)(Q:List α->Prop)(l:List α):Prop
|i (v:α) (r:List α) (x:l=v::r) (y:P v) (z:Q r)
mutual
noncomputable def V(T:Tp)(G:Gh)(h:Heap):PV->Value->Prop
|.none,v=>v=.none
|.bool b,v=>v=.bool b
|.int i,v=>∃t,v=.int i t
|.str s,v=>∃t,v=.str s t
|.bytes b,v=>b.length≤4000000∧∃t,v=.bytes b.toArray t
|.tup l,v=>lK G (cV h cT l.length (Vs T G h l)) v
|.lst l,v=>lK G (cV h bD l.length (Vs T G h l)) v
|.dct l,v=>lK G (eT h l (g9 T G h l)) v
|.inst c f,v=>lK G (ig T h (fun dx=>G.own dx=.fz) c (f.map (·.1)) (gH T G h f)) v
|.loc i,v=>∃a,G.la[i]?=some a∧v=.ref a
|.glob i,v=>∃a,G.ga[i]?=some a∧v=.ref a
noncomputable def Vs(T:Tp)(G:Gh)(h:Heap):List PV->List Value->Prop
|[],vs=>vs=[]
|p::l,vs=>Oc (V T G h p) (Vs T G h l) vs
noncomputable def g9(T:Tp)(G:Gh)(h:Heap):List (PV×PV)->List DictEntry->Prop
|[],es=>es=[]
|(k,p)::l,es=>∃e r,es=e::r∧V T G h k e.key∧e.hash=IU T.w k∧V T G h p e.val∧g9 T G h l r
noncomputable def gH(T:Tp)(G:Gh)(h:Heap):List (Nat×PV)->(Str->Option Value)->Prop
|[],_=>True
|(k,p)::l,m=>(enc (dec k)=some k∧∃v,m (dec k)=some v∧V T G h p v)∧gH T G h l m
end
def gY(T:Tp)(G:Gh)(h:Heap)(dk:Addr->Prop)(a:Addr):Zk->Prop
|.lst l=>cV h bD l.length (Vs T G h l) a
|.dct l=>eT h l (g9 T G h l) a
|.inst c f=>ig T h dk c (f.map (·.1)) (gH T G h f) a
structure Lt(nl:Bool)(G:Gh)(h:Heap)(G':Gh)(h':Heap):Prop where
 fz:∀a o,G.own a=.fz->h.get? a=some o->h'.get? a=some o∧G'.own a=.fz
 la:nl=false->G.la<+:G'.la
 ga:G.ga<+:G'.ga
abbrev jz:=Lt false
theorem Lt.refl(nl:Bool)(G:Gh)(h:Heap):Lt nl G h G h:=⟨fun z z a b=>⟨b,a⟩,fun z=>Xq _,Xq _⟩
theorem Lt.trans{nl G h G' h' ř á}(x:Lt nl G h G' h')(y:Lt nl G' h' ř á):Lt nl G h ř á:=
 ⟨fun a o e f=>by obtain⟨p,q⟩:=x.fz a o e f;exact y.fz a o q p,fun h=>(x.la h).trans (y.la h),x.ga.trans y.ga⟩
theorem qt{h:Heap}{a:Addr}{m}(x:h.Ns1 a m):∃o,h.get? a=some o:=by obtain⟨o,_,_,e,_⟩:=x;exact⟨o,e⟩
theorem qg.lat{T:Tp}{h h':Heap}{a dx:Addr}{c mA}(x:qg T h a dx c mA)(ka:∀o,h.get? a=some o->h'.get? a=some o)(kd:∀o,h.get? dx=some o->h'.get? dx=some o):qg T h' a dx c mA:=
 by obtain⟨C,e1,e2,e3,e4⟩:=x;exact⟨C,e1,ka _ e2,e3,e4.at kd⟩
theorem dq{α:Type}{l l':List α}(x:l<+:l'){i:Nat}{a:α}(h:l[i]?=some a):l'[i]?=some a:=by obtain⟨t,rfl⟩:=x;rw[Ys (XO.mp h).1];exact h
section
variable{T:Tp}{G G':Gh}{h h':Heap}
theorem cV.lat{mk k}{P P':List Value->Prop}{a:Addr}(ka:∀o,h.get? a=some o->h'.get? a=some o)(hp:∀x,P x->P' x)(y:cV h mk k P a):cV h' mk k P' a:=by obtain⟨i,n,e,z,p⟩:=y;exact⟨i,n,ka _ e,z,hp _ p⟩
theorem eT.lat{l}{P P':List DictEntry->Prop}{a:Addr}(ka:∀o,h.get? a=some o->h'.get? a=some o)(hp:∀x,P x->P' x)(y:eT h l P a):eT h' l P' a:=by obtain⟨i,n,e,z,p⟩:=y;exact⟨i,n,ka _ e,z,hp _ p⟩
theorem ig.lat{dk â:Addr->Prop}{c ks}{P P':(Str->Option Value)->Prop}{a:Addr}(ka:∀o,h.get? a=some o->h'.get? a=some o)(kd:∀dx o,dk dx->h.get? dx=some o->h'.get? dx=some o∧â dx)(hp:∀x,P x->P' x)(y:ig T h dk c ks P a):ig T h' â c ks P' a:=
 by
 obtain⟨dx,mA,e,z,u,w,p⟩:=y;obtain⟨C,i1,i2,i3,i4⟩:=id z;obtain⟨o,eo⟩:=qt i4;exact⟨dx,mA,(kd dx o e eo).2,z.lat ka fun o f=>(kd dx o e f).1,u,w,hp _ p⟩
theorem lK.lat(L:∀a o,G.own a=.fz->h.get? a=some o->h'.get? a=some o∧G'.own a=.fz){P P':Addr->Prop}{v}(ex:∀a,P a->∃o,h.get? a=some o)(hp:∀a,G.own a=.fz->P a->P' a)(y:lK G P v):lK G' P' v:=
 by obtain⟨a,e,f,p⟩:=y;obtain⟨o,eo⟩:=ex a p;exact⟨a,e,(L a o f eo).2,hp a f p⟩
theorem cV.get{mk k}{P:List Value->Prop}{a:Addr}(y:cV h mk k P a):∃o,h.get? a=some o:=by obtain⟨_,_,e,_⟩:=y;exact⟨_,e⟩
theorem eT.get{l}{P:List DictEntry->Prop}{a:Addr}(y:eT h l P a):∃o,h.get? a=some o:=by obtain⟨_,_,e,_⟩:=y;exact⟨_,e⟩
theorem ig.get{dk:Addr->Prop}{c ks}{P:(Str->Option Value)->Prop}{a:Addr}(y:ig T h dk c ks P a):∃o,h.get? a=some o:=by obtain⟨_,_,_,⟨_,_,e,_⟩,_⟩:=y;exact⟨_,e⟩
end
mutual
theorem V.lt{T:Tp}{nl:Bool}{G G':Gh}{h h':Heap}(x:Lt nl G h G' h'):∀{p:PV}{v:Value},(nl=true->aw p=true)->V T G h p v->V T G' h' p v
|.none,_,_,y=>y
|.bool _,_,_,y=>y
|.int _,_,_,y=>y
|.str _,_,_,y=>y
|.bytes _,_,_,y=>y
|.tup _,_,n,y=>lK.lat x.fz (fun z=>cV.get) (fun a f=>cV.lat (fun o e=>(x.fz a o f e).1) fun z=>Vs.lt x n) y
|.lst _,_,n,y=>lK.lat x.fz (fun z=>cV.get) (fun a f=>cV.lat (fun o e=>(x.fz a o f e).1) fun z=>Vs.lt x n) y
|.dct _,_,n,y=>lK.lat x.fz (fun z=>eT.get) (fun a f=>eT.lat (fun o e=>(x.fz a o f e).1) fun z=>g9.lt x n) y
|.inst _ _,_,n,y=>lK.lat x.fz (fun z=>ig.get) (fun a f=>ig.lat (fun o e=>(x.fz a o f e).1) (fun dx o e1 e2=>x.fz dx o e1 e2) fun z=>gH.lt x n) y
|.loc i,_,n,y=>by obtain⟨a,e,f⟩:=y;exact⟨a,dq (x.la (by cases nl with|false=>rfl|true=>exact absurd (n rfl) Yy)) e,f⟩
|.glob i,_,n,y=>by obtain⟨a,e,f⟩:=y;exact⟨a,dq x.ga e,f⟩
theorem Vs.lt{T:Tp}{nl:Bool}{G G':Gh}{h h':Heap}(x:Lt nl G h G' h'):∀{l:List PV}{vs:List Value},(nl=true->aj l=true)->Vs T G h l vs->Vs T G' h' l vs
|[],_,_,y=>y
|p::l,_,n,y=>by obtain⟨v,r,e,e1,e2⟩:=y;exact⟨v,r,e,V.lt x (fun e=>((Xp _ _).mp (n e)).1) e1,Vs.lt x (fun e=>((Xp _ _).mp (n e)).2) e2⟩
theorem g9.lt{T:Tp}{nl:Bool}{G G':Gh}{h h':Heap}(x:Lt nl G h G' h'):∀{l:List (PV×PV)}{es:List DictEntry},(nl=true->cJ l=true)->g9 T G h l es->g9 T G' h' l es
|[],_,_,y=>y
|(k,p)::l,_,n,y=>by
  obtain⟨e,r,e0,e1,e2,e3,e4⟩:=y;let' n':=(fun e=>(Xp _ _).mp (n e))
  exact⟨e,r,e0,V.lt x (fun e=>((Xp _ _).mp (n' e).1).1) e1,e2,V.lt x (fun e=>((Xp _ _).mp (n' e).1).2) e3,g9.lt x (fun e=>(n' e).2) e4⟩
theorem gH.lt{T:Tp}{nl:Bool}{G G':Gh}{h h':Heap}(x:Lt nl G h G' h'):∀{l:List (Nat×PV)}{m:Str->Option Value},(nl=true->kI l=true)->gH T G h l m->gH T G' h' l m
|[],_,_,_=>trivial
|(k,p)::l,m,n,y=>by obtain⟨⟨e0,v,e1,e2⟩,e3⟩:=y;exact⟨⟨e0,v,e1,V.lt x (fun e=>((Xp _ _).mp (n e)).1) e2⟩,gH.lt x (fun e=>((Xp _ _).mp (n e)).2) e3⟩
end
section
variable{T:Tp}{G G':Gh}{h h':Heap}
theorem V.lat(x:jz G h G' h'){p:PV}{v:Value}(y:V T G h p v):V T G' h' p v:=V.lt x (fun h=>by injection h) y
theorem Vs.lat(x:jz G h G' h'){p:List PV}{v:List Value}(y:Vs T G h p v):Vs T G' h' p v:=Vs.lt x (fun h=>by injection h) y
theorem g9.lat(x:jz G h G' h'){p:List (PV×PV)}{v:List DictEntry}(y:g9 T G h p v):g9 T G' h' p v:=g9.lt x (fun h=>by injection h) y
theorem gH.lat(x:jz G h G' h'){p:List (Nat×PV)}{v:Str->Option Value}(y:gH T G h p v):gH T G' h' p v:=gH.lt x (fun h=>by injection h) y
theorem gY.lt{nl:Bool}{dk â:Addr->Prop}{a:Addr}(x:Lt nl G h G' h')(ka:∀o,h.get? a=some o->h'.get? a=some o)
  (kd:∀dx o,dk dx->h.get? dx=some o->h'.get? dx=some o∧â dx):∀{o:Zk},(nl=true->bT o=true)->gY T G h dk a o->gY T G' h' â a o
|.lst _,n=>cV.lat ka fun z=>Vs.lt x n
|.dct _,n=>eT.lat ka fun z=>g9.lt x n
|.inst _ _,n=>ig.lat ka kd fun z=>gH.lt x n
theorem gY.get{dk:Addr->Prop}{a:Addr}:∀{o:Zk},gY T G h dk a o->∃o,h.get? a=some o
|.lst _=>cV.get
|.dct _=>eT.get
|.inst _ _=>ig.get
def DH:Nat:=200
def CV:Nat:=53
noncomputable def nQ:Str:=Str.ofString "form_sorted.<locals>.<lambda>"
def iO(T:Tp)(G:Gh)(h:Heap):Prop:=
 ∃ps,h.get? T.P=some {cls:=.none,data:=.fields ps}∧(ps=#[]∨∃cd,ps=#[rawInt DH,rawInt CV,cd]∧h.CodeRec cd nQ∧∀ca,cd=.ref ca->G.own ca=.fz)
theorem iO.lat(x:iO T G h)(L:∀a o,G.own a=.fz->h.get? a=some o->h'.get? a=some o∧G'.own a=.fz)(k:∀o,h.get? T.P=some o->h'.get? T.P=some o):iO T G' h':=by obtain⟨ps,e,r⟩:=x;refine⟨ps,k _ e,r.imp id fun q0=>?_⟩;obtain⟨cd,r,⟨c',o,vs,t,z1,z2,z3,z4⟩,hf⟩:=q0;have:=L c' o (hf c' z1) z2;exact⟨cd,r,⟨c',o,vs,t,z1,this.1,z3,z4⟩,fun ca e=>by rw[z1] at e;injection e with e;exact e▸this.2⟩
end
noncomputable def iW.d:iW->iW
|.gl i _=>.gl i true
|.fr n (.obj i _)=>.fr n (.obj i true)
|t=>t
def dX(n i:Nat):Lk->iW
|.ZG=>.fz
|z=>.fr n (.obj i false)
structure dp(T:Tp)(G:Gh)(h:Heap)(t:iW)(a:Addr)(e:Ent):Prop where
 own:G.own a=t
 obj:gY T G h (fun dx=>G.own dx=t.d) a e.o
 mu:e.k.ZS=true->¬G.lk a
 tm:e.k.Zp=true->G.lk a
def iY:iW->Bool
|.fz=>true
|.gl _ d=>!d
|.fr _ (.obj _ d)=>!d
|z=>false
structure aG(T:Tp)(G:Gh)(s:Shared)(st:St):Prop where
 old:∀b o,b≠T.P->T.h0.get? b=some o->s.heap.get? b=some o∧G.own b=.fz
 ct:iO T G s.heap
 ctP:G.own T.P=.ct
 there:∀a,G.own a≠.fz->∃o,s.heap.get? a=some o
 lev:∀a n k,G.own a=.fr n k->n≤G.top∧∀c,k=.it c->c=a
 nle:G.n≤G.top
 glen:G.ga.length=st.g.length
 llen:G.la.length=st.l.length
 g:∀(i:Nat) (e:Ent) (a:Addr),st.g[i]?=some e->G.ga[i]?=some a->dp T G s.heap (.gl i false) a e
 gk:∀(i:Nat) (e:Ent),st.g[i]?=some e->e.k.ZA=false∧bT e.o=true
 l:∀(i:Nat) (e:Ent) (a:Addr),st.l[i]?=some e->G.la[i]?=some a->dp T G s.heap (dX G.n i e.k) a e
 lkd:∀a,G.lk a->(∃o,s.heap.get? a=some o)∧iY (G.own a)=true
 gens:s.gens=#[]
structure Ex(tp:Bool)(X:Nat->b5->Prop)(G:Gh)(s:Shared)(G':Gh)(s':Shared):Prop where
 lat:jz G s.heap G' s'.heap
 fr:∀a n k,G.own a=.fr n k->¬X n k->s'.heap.get? a=s.heap.get? a∧G'.own a=.fr n k
 lk:∀a,G.lk a->s'.heap.get? a=s.heap.get? a∧G'.lk a
 n:G'.n=G.n
 top:tp=true->G'.top=G.top
 os:s'.os=s.os
abbrev cB:=Ex true
abbrev rL:=Ex false
section
variable{tp:Bool}{X Y:Nat->b5->Prop}{G G1 G2:Gh}{s s1 s2:Shared}
theorem Ex.refl(tp:Bool)(X:Nat->b5->Prop)(G:Gh)(s:Shared):Ex tp X G s G s:=⟨.refl _ _ _,fun z z z e z=>⟨rfl,e⟩,fun z h=>⟨rfl,h⟩,rfl,fun z=>rfl,rfl⟩
theorem Ex.trans(x:Ex tp X G s G1 s1)(y:Ex tp X G1 s1 G2 s2):Ex tp X G s G2 s2:=
 ⟨x.lat.trans y.lat,fun a n k e hx=>by obtain⟨p,q⟩:=x.fr a n k e hx;obtain⟨p',q'⟩:=y.fr a n k q hx;exact⟨p'.trans p,q'⟩,
  fun a h=>by obtain⟨p,q⟩:=x.lk a h;obtain⟨p',q'⟩:=y.lk a q;exact⟨p'.trans p,q'⟩,y.n.trans x.n,fun h=>(y.top h).trans (x.top h),y.os.trans x.os⟩
theorem Ex.mono(x:Ex tp X G s G1 s1)(h:∀n k,X n k->Y n k):Ex tp Y G s G1 s1:=
 ⟨x.lat,fun a n k e hx=>x.fr a n k e fun y=>hx (h n k y),x.lk,x.n,x.top,x.os⟩
theorem Ex.e0(x:Ex tp X G s G1 s1):rL X G s G1 s1:=⟨x.lat,x.fr,x.lk,x.n,(fun h=>by injection h),x.os⟩
end
abbrev gn(h h':Heap):Prop:=∀b o,h.get? b=some o->h'.get? b=some o
theorem Lt.grow(nl:Bool)(G:Gh){h h':Heap}(k:gn h h'):Lt nl G h G h':=⟨fun a o e f=>⟨k a o f,e⟩,fun z=>Xq _,Xq _⟩
structure Mv(D:Addr->Prop)(G:Gh)(s:Shared)(G':Gh)(s':Shared):Prop where
 kt:∀b,¬D b->G'.own b=G.own b
 kh:∀b o,¬D b->s.heap.get? b=some o->s'.heap.get? b=some o
 dc:∀b,D b->G.own b≠.ct
 df:∀b o,D b->G.own b=.fz->s.heap.get? b≠some o
 dl:∀b,D b->G.lk b->(∀o,s.heap.get? b=some o->s'.heap.get? b=some o)∧iY (G'.own b)=true
 new:∀b,D b->G'.own b≠.fz->(∃o,s'.heap.get? b=some o)∧∀n k,G'.own b=.fr n k->n≤G'.top∧∀c,k=.it c->c=b
 lk:G'.lk=G.lk
 top:∀b n k,¬D b->G.own b=.fr n k->n≤G.top->n≤G'.top
 ga:G.ga<+:G'.ga
 gens:s'.gens=s.gens
 os:s'.os=s.os
section
variable{T:Tp}{D:Addr->Prop}{G G':Gh}{s s':Shared}{st st':St}
theorem Mv.fz(M:Mv D G s G' s')(a:Addr)(o:Obj)(e:G.own a=.fz)(f:s.heap.get? a=some o):s'.heap.get? a=some o∧G'.own a=.fz:=
 have n:¬D a:=fun d=>M.df a o d e f
 ⟨M.kh a o n f,(M.kt a n).trans e⟩
theorem Mv.lt(M:Mv D G s G' s'){nl:Bool}(h:nl=false->G.la<+:G'.la):Lt nl G s.heap G' s'.heap:=⟨M.fz,h,M.ga⟩
theorem dp.mv(M:Mv D G s G' s'){nl:Bool}(h:nl=false->G.la<+:G'.la){t:iW}{a:Addr}{e:Ent}(x:dp T G s.heap t a e)(hn:nl=true->bT e.o=true)
  (hd:∀b,G.own b=t∨G.own b=t.d->(∃o,s.heap.get? b=some o)->¬D b):dp T G' s'.heap t a e:=
 have na:¬D a:=hd a (.inl x.own) x.obj.get
 ⟨(M.kt a na).trans x.own,x.obj.lt (M.lt h) (fun o=>M.kh a o na) (fun dx o e f=>have nd:=hd dx (.inr e) ⟨o,f⟩;⟨M.kh dx o nd f,(M.kt dx nd).trans e⟩) hn,fun h=>M.lk▸x.mu h,fun h=>M.lk▸x.tm h⟩
theorem aG.mv(R:aG T G s st)(M:Mv D G s G' s')(hn:G'.n≤G'.top)(gl:G'.ga.length=st'.g.length)(ll:G'.la.length=st'.l.length)
  (hg:∀(i:Nat) (e:Ent) (a:Addr),st'.g[i]?=some e->G'.ga[i]?=some a->(st.g[i]?=some e∧G.ga[i]?=some a∧∀b d,G.own b=.gl i d->¬D b)∨dp T G' s'.heap (.gl i false) a e)
  (gk:∀(i:Nat) (e:Ent),st'.g[i]?=some e->e.k.ZA=false∧bT e.o=true)
  (hl:∀(i:Nat) (e:Ent) (a:Addr),st'.l[i]?=some e->G'.la[i]?=some a->(st.l[i]?=some e∧G.la[i]?=some a∧G'.n=G.n∧G.la<+:G'.la∧∀b d,G.own b=.fr G.n (.obj i d)->¬D b)∨dp T G' s'.heap (dX G'.n i e.k) a e):aG T G' s' st' where
 old:=fun b o hb e=>by obtain⟨p,q⟩:=R.old b o hb e;exact M.fz b o q p
 ct:=have n:¬D T.P:=fun d=>M.dc _ d R.ctP;R.ct.lat M.fz fun o=>M.kh _ o n
 ctP:=have n:¬D T.P:=fun d=>M.dc _ d R.ctP;(M.kt _ n).trans R.ctP
 there:=fun b h=>by
  by_cases d:D b
  ·exact(M.new b d h).1
  ·obtain⟨o,e⟩:=R.there b (M.kt b d▸h);exact⟨o,M.kh b o d e⟩
 lev:=fun b n k e=>by
  by_cases d:D b
  ·exact(M.new b d (by rw[e];nofun)).2 n k e
  ·have e':=(M.kt b d).symm.trans e;exact⟨M.top b n k d e' (R.lev b n k e').1,(R.lev b n k e').2⟩
 nle:=hn
 glen:=gl
 llen:=ll
 g:=fun i e a h1 h2=>(hg i e a h1 h2).elim (fun Zg=>by obtain⟨h3,h4,h5⟩:=Zg;exact(R.g i e a h3 h4).mv M (nl:=true) (fun h=>by injection h) (fun z=>(R.gk i e h3).2) fun b hb z=>hb.elim (h5 b false) (h5 b true)) id
 gk:=gk
 l:=fun i e a h1 h2=>(hl i e a h1 h2).elim (fun⟨h3,h4,h5,h6,h7⟩=>h5▸(R.l i e a h3 h4).mv M (nl:=false) (fun z=>h6) (fun h=>by injection h) fun b hb ho=>by
   cases hk:e.k with
   |ZG=>rw[hk] at hb;exact fun d=>M.df b _ d (hb.elim id id) ho.choose_spec
   |_=>rw[hk] at hb;exact hb.elim (h7 b false) (h7 b true)) id
 lkd:=fun a h=>by
  have h:=M.lk▸h;obtain⟨⟨o,e⟩,f⟩:=R.lkd a h;by_cases d:D a
  ·exact⟨⟨o,(M.dl a d h).1 o e⟩,(M.dl a d h).2⟩
  ·exact⟨⟨o,M.kh a o d e⟩,(M.kt a d).symm▸f⟩
 gens:=M.gens.trans R.gens
theorem Ex.mv(R:aG T G s st)(M:Mv D G s G' s')(h:G.la<+:G'.la)(hn:G'.n=G.n){tp:Bool}(ht:tp=true->G'.top=G.top){X:Nat->b5->Prop}(hx:∀b n k,G.own b=.fr n k->D b->X n k):Ex tp X G s G' s' where
 lat:=M.lt fun z=>h
 fr:=fun a n k e x=>by
  let' d:¬D a:=(fun d=>x (hx a n k e d))
  obtain⟨o,eo⟩:=R.there a (by rw[e];nofun);exact⟨(M.kh a o d eo).trans eo.symm,(M.kt a d).trans e⟩
 lk:=fun a hl=>by
  obtain⟨⟨o,eo⟩,_⟩:=R.lkd a hl;refine⟨?_,M.lk▸hl⟩;by_cases d:D a
  ·exact((M.dl a d hl).1 o eo).trans eo.symm
  ·exact(M.kh a o d eo).trans eo.symm
 n:=hn
 top:=ht
 os:=M.os
theorem aG.Å(R:aG T G s st){own':Addr->iW}{h':Heap}(tk:Nat)(D:Addr->Prop)(kt:∀b,¬D b->own' b=G.own b)(kh:∀b o,¬D b->s.heap.get? b=some o->h'.get? b=some o)
  (hd:∀b,D b->(G.own b=.fz∧s.heap.get? b=none)∨∃m k,G.own b=.fr m k∧iY (.fr m k)=false∧∀i d,k≠.obj i d)
  (new:∀b,D b->own' b≠.fz->(∃o,h'.get? b=some o)∧∀n k,own' b=.fr n k->n≤G.top∧∀c,k=.it c->c=b) {X:Nat->b5->Prop} (hx:∀b n k,G.own b=.fr n k->D b->X n k):
  aG T {G with own:=own'} {s with heap:=h',toks:=tk} st∧cB X G s {G with own:=own'} {s with heap:=h',toks:=tk}:=by
 have M:Mv D G s {G with own:=own'} {s with heap:=h',toks:=tk}:=⟨kt,kh,fun b d e=>(hd b d).elim (fun x=>by rw[x.1] at e;injection e) (fun Æ=>by obtain⟨m,k,x,_⟩:=Æ;rw[x] at e;injection e),
  fun b o d e f=>(hd b d).elim (fun x=>by rw[x.2] at f;injection f) (fun Æ=>by obtain⟨m,k,x,_⟩:=Æ;rw[x] at e;injection e),
  fun b d hl=>(hd b d).elim (fun x=>by obtain⟨⟨o,e⟩,_⟩:=R.lkd b hl;rw[x.2] at e;injection e) (fun Æ=>by obtain⟨m,k,x,y,_⟩:=Æ;have:=(R.lkd b hl).2;rw[x,y] at this;injection this),
  new,rfl,fun w w w w w h=>h,Xq _,rfl,rfl⟩
 have ĭ:∀b t,G.own b=t->t≠.fz->(∀m k,t=.fr m k->∃i d,k=.obj i d)->¬D b:=fun b t e h1 h2 d=>(hd b d).elim (fun x=>h1 (e.symm.trans x.1)) fun Æ=>by obtain⟨m,k,x,_,y⟩:=Æ;obtain⟨i,d,z⟩:=h2 m k (e.symm.trans x);exact y i d z
 exact⟨R.mv M R.nle R.glen R.llen (fun i e a h1 h2=>.inl ⟨h1,h2,fun b d e=>ĭ b _ e (fun h=>by injection h) nofun⟩) R.gk fun i e a h1 h2=>.inl ⟨h1,h2,rfl,Xq _,fun b d e=>ĭ b _ e (fun h=>by injection h) fun m k e=>by injection e with _ e;exact⟨i,d,e.symm⟩⟩,
  Ex.mv R M (Xq _) rfl (fun w=>rfl) hx⟩
theorem aG.č(R:aG T G s st){h':Heap}(tk:Nat)(k:gn s.heap h')(X:Nat->b5->Prop):aG T G {s with heap:=h',toks:=tk} st∧cB X G s G {s with heap:=h',toks:=tk}:=
 R.Å (own':=G.own) tk (fun z=>False) (fun z z=>rfl) (fun b o z e=>k b o e) nofun nofun nofun
theorem aG.grow(R:aG T G s st){h':Heap}(tk:Nat)(k:gn s.heap h'):aG T G {s with heap:=h',toks:=tk} st:=(R.č tk k fun z z=>False).1
theorem cB.grow(X:Nat->b5->Prop)(R:aG T G s st){h':Heap}(tk:Nat)(k:gn s.heap h'):cB X G s G {s with heap:=h',toks:=tk}:=(R.č tk k X).2
end
def fF(n:Nat)(A:Around):Prop:=A.handled=none∧A.depth+4*n≤900∧A.units+40*n≤9000
structure oS(T:Tp)(G:Gh)(h:Heap)(env:Env)(lev:Nat)(vars:YA):Prop where
 kind:env.scope.kind=.function
 gl:env.globals=mainGlobals
 bu:env.builtins=builtinsNs
 loc:∃m,h.Ns env.locals m∧G.own env.locals=.fr lev .L∧∀x p,aQ vars x=some p->env.kindOf (dec x)=some .local->∃v,m (dec x)=some v∧V T G h p v
 cell:∀x p,aQ vars x=some p->env.kindOf (dec x)=some .cell∨env.kindOf (dec x)=some .free->∃c v,env.cells.lookup (dec x)=some c∧h.IsCell c (some v)∧V T G h p v
 cells:∀n c,env.cells.lookup n=some c->(∃v,h.IsCell c v)∧∃l,l≤lev∧G.own c=.fr l (.cell n)
 free:∀n,env.kindOf n=some .cell∨env.kindOf n=some .free->∃c,env.cells.lookup n=some c
 nam:∀y p,aQ vars y=some p->enc (dec y)=some y
def Xe(n:Nat):Nat->b5->Prop:=fun m k=>m=n∧∃i d,k=.obj i d
def Xs(n lev:Nat):Nat->b5->Prop:=fun m k=>(m=n∧∃i d,k=.obj i d)∨(m=lev∧(k=.L∨∃x,k=.cell x))
theorem ey{h h':Heap}{c:Addr}{v}(x:h.IsCell c v)(k:h'.get? c=h.get? c):h'.IsCell c v:=by obtain⟨o,e,r⟩:=x;exact⟨o,k.trans e,r⟩
theorem BD{h h':Heap}{a:Addr}{m}(x:h.Ns a m)(k:h'.get? a=h.get? a):h'.Ns a m:=by obtain⟨o,es,ep,e,r⟩:=x;exact⟨o,es,ep,k.trans e,r⟩
def dY(G:Gh)(env:Env)(lev:Nat)(sc:Scope):Prop:=∀n,sc.names.lookup n=some .cell->∃c,env.cells.lookup n=some c∧G.own c=.fr lev (.cell n)
def L7(X:Nat->b5->Prop)(lev:Nat):Prop:=∀m x,m≤lev->¬X m .L∧¬X m (.cell x)
section
variable{T:Tp}{tp:Bool}{G G':Gh}{s s':Shared}{env:Env}{lev:Nat}{vars:YA}{X:Nat->b5->Prop}
theorem oS.Ç(E:oS T G s.heap env lev vars)(hX:L7 X lev)(x:Ex tp X G s G' s'):oS T G' s'.heap env lev vars where
 kind:=E.kind
 gl:=E.gl
 bu:=E.bu
 loc:=by obtain⟨m,a,b,c⟩:=E.loc;have:=x.fr _ _ _ b (hX _ default (Xx _)).1;exact⟨m,BD a this.1,this.2,fun y p h1 h2=>by obtain⟨v,h3,h4⟩:=c y p h1 h2;exact⟨v,h3,h4.lat x.lat⟩⟩
 cell:=fun y p h1 h2=>by obtain⟨c,v,a,b,d⟩:=E.cell y p h1 h2;obtain⟨_,l,hl,e⟩:=E.cells _ _ a;exact⟨c,v,a,ey b (x.fr _ _ _ e (hX _ _ hl).2).1,d.lat x.lat⟩
 cells:=fun nm c h=>by obtain⟨⟨v,a⟩,l,hl,e⟩:=E.cells nm c h;have:=x.fr _ _ _ e (hX _ _ hl).2;exact⟨⟨v,ey a this.1⟩,l,hl,this.2⟩
 free:=E.free
 nam:=E.nam
theorem pH{n lev:Nat}:L7 (Xe n) lev:=fun m y z=>⟨(fun Zg=>by obtain⟨_,i,d,e⟩:=Zg;exact nomatch e),(fun Z6=>by obtain⟨_,i,d,e⟩:=Z6;exact nomatch e)⟩
theorem dY.Ç{sc:Scope}(E:dY G env lev sc)(hX:L7 X lev)(x:Ex tp X G s G' s'):dY G' env lev sc:=fun n h=>by obtain⟨c,a,b⟩:=E n h;exact⟨c,a,(x.fr _ _ _ b (hX _ _ (Xx _)).2).2⟩
theorem oS.weaken{h:Heap}{vars':YA}(E:oS T G h env lev vars')(k:∀y q,aQ vars y=some q->aQ vars' y=some q):oS T G h env lev vars:=
 ⟨E.kind,E.gl,E.bu,by obtain⟨m,a,b,c⟩:=E.loc;exact⟨m,a,b,fun y q e=>c y q (k y q e)⟩,fun y q e=>E.cell y q (k y q e),E.cells,E.free,fun y q e=>E.nam y q (k y q e)⟩
end
inductive PE(T:Tp)(G:Gh)(s:Shared)(st':St)(p:PV)(v:Value)(s':Shared):Prop
|i (G':Gh) (x:aG T G' s' st') (y:cB (Xe G.n) G s G' s') (z:V T G' s'.heap p v)
set_option smartUnfolding true
end
section
open PySem.W
def aL{α:Type}(x:Option α)(Q:α->Prop):Prop:=match x with|none=>False|some a=>Q a
theorem ab{α β:Type}{x:Option α}{f:α->Option β}{Q:β->Prop}:aL (x.bind f) Q->aL x (fun a=>aL (f a) Q):=by cases x<;>exact id
theorem aL.mono{α:Type}{x:Option α}{Q Q':α->Prop}(h:aL x Q)(k:∀a,Q a->Q' a):aL x Q':=by cases x with|none=>exact h|some a=>exact k a h
theorem aL.get{α:Type}{x:Option α}{Q:α->Prop}(h:aL x Q):∃a,x=some a∧Q a:=by cases x with|none=>exact h.elim|some a=>exact⟨a,rfl,h⟩
theorem aF{α:Type}{c:Prop}[Decidable c]{x:Option α}{Q:α->Prop}(h:aL (if c then x else none) Q):c∧aL x Q:=by
 by_cases hc:c
 ·exact⟨hc,by rw[Yh hc] at h;exact h⟩
 ·rw[Yg hc] at h;exact h.elim
theorem kj{α:Type}{c:Prop}[Decidable c]{x:Option α}{Q:α->Prop}(h:aL (if c then none else x) Q):¬c∧aL x Q:=by
 by_cases hc:c
 ·rw[Yh hc] at h;exact h.elim
 ·exact⟨hc,by rw[Yg hc] at h;exact h⟩
theorem aL.of{α:Type}{x:Option α}{a:α}(h:x=some a):aL x (fun b=>b=a):=by rw[h];rfl
theorem az{a b:Bool}(h:(a&&b)=true):a=true∧b=true:=(Xp _ _).mp h
abbrev no:Value->Shared->Prop:=fun z z=>False
abbrev W(T:Tp){α:Type}(A:Around)(m:Sem α)(Q:α->Shared->Prop)(s:Shared):Prop:=wpAny (model T.prog T.w) A m Q no s
theorem W.mono{T:Tp}{α:Type}{A:Around}{m:Sem α}{Q Q':α->Shared->Prop}{s:Shared}(h:W T A m Q s)(k:∀v s',Q v s'->Q' v s'):W T A m Q' s:=YE h k fun z z x=>x
def PG(T:Tp)(G:Gh)(s:Shared)(p:PV):Value->Shared->Prop:=
 fun v s'=>∃h' tk,s'={s with heap:=h',toks:=tk}∧gn s.heap h'∧V T G h' p v
variable{T:Tp}{G:Gh}{s:Shared}{st:St}{A:Around}{h:Heap}
theorem PG.pe{p:PV}{v:Value}{s':Shared}(R:aG T G s st)(x:PG T G s p v s'):PE T G s st p v s':=by obtain⟨h',tk,rfl,k,hv⟩:=x;exact⟨G,R.grow tk k,cB.grow _ R tk k,hv⟩
theorem PG.here{p:PV}{v:Value}(tk:Nat)(hv:V T G s.heap p v):PG T G s p v {s with toks:=tk}:=⟨s.heap,tk,rfl,fun z z e=>e,hv⟩
theorem PG.Zq{p:PV}{v:Value}(hv:V T G s.heap p v):PG T G s p v s:=⟨s.heap,s.toks,rfl,fun z z e=>e,hv⟩
theorem aG.fresh(R:aG T G s st){a:Addr}(h:s.heap.get? a=none):G.own a=.fz:=by
 by_cases e:G.own a=.fz
 ·exact e
 ·obtain⟨o,eo⟩:=R.there a e;rw[h] at eo;injection eo
theorem aV(h:Heap):h.get? h.objs.size=none:=Heap.get?_none_of_le (Xx _)
theorem bt(h:Heap)(o:Obj):gn h (h.push o):=fun z z e=>Xv o e
theorem cM(i:Int)(t:Tok)(h:Heap):V T G h (.int i) (.int i t):=⟨t,rfl⟩
theorem HB(x:Str)(t:Tok)(h:Heap):V T G h (.str x) (.str x t):=⟨t,rfl⟩
theorem dh{b:Bool}:V T G h (.bool b) (.bool b):=rfl
theorem gP:V T G h .none .none:=rfl
theorem mw{b:List UInt8}{t:Tok}(z:b.length≤4000000):V T G h (.bytes b) (.bytes b.toArray t):=⟨z,t,rfl⟩
theorem OE{l:List PV}{a:Addr}(h1:G.own a=.fz)(h2:cV h cT l.length (Vs T G h l) a):V T G h (.tup l) (.ref a):=⟨a,rfl,h1,h2⟩
theorem iL(R:aG T G s st){l:List PV}{items:Array Value}(hz:l.length≤4000000)(hv:Vs T G s.heap l items.toList):
  V T G (s.heap.push (cT items 0)) (.tup l) (.ref s.heap.objs.size):=
 OE (R.fresh (aV _)) ⟨items,0,XF _ rfl,hz,Vs.lat (.grow _ G (bt _ _)) hv⟩
theorem iC:Vs T G h [] []:=rfl
theorem bA{p:PV}{l:List PV}{v:Value}{r:List Value}(h1:V T G h p v)(h2:Vs T G h l r):Vs T G h (p::l) (v::r):=⟨v,r,rfl,h1,h2⟩
theorem Vs.append{l:List PV}:∀{l':List PV}{vs ZL:List Value},Vs T G h l vs->Vs T G h l' ZL->Vs T G h (l++l') (vs++ZL):=by
 induction l with
|nil=>intro _ _ _ x y;obtain rfl:=x;exact y
|cons p l ih=>intro l' vs ZL x y;obtain⟨v,r,rfl,e1,e2⟩:=x;exact bA e1 (ih e2 y)
theorem Vs.length{l:List PV}:∀{vs:List Value},Vs T G h l vs->vs.length=l.length:=by
 induction l with
|nil=>intro _ x;obtain rfl:=x;rfl
|cons p l ih=>intro vs x;obtain⟨v,r,rfl,e1,e2⟩:=x;exact YH (·+1) (ih e2)
theorem Vs.size{l:List PV}{a:Array Value}(x:Vs T G h l a.toList):a.size=l.length:=(Yl ..).symm.trans x.length
theorem Vs.get:∀{l:List PV}{vs:List Value},Vs T G h l vs->∀{i:Nat}{p:PV},l[i]?=some p->∃v,vs[i]?=some v∧V T G h p v
|q::l,vs,x,0,p,e=>by obtain⟨v,r,rfl,e1,e2⟩:=x;injection e with e;exact⟨v,rfl,e▸e1⟩
|q::l,vs,x,i+1,p,e=>by obtain⟨v,r,rfl,e1,e2⟩:=x;exact Vs.get (l:=l) e2 e
theorem Vs.of_get:∀{l:List PV}{vs:List Value},vs.length=l.length->(∀(i:Nat) (p:PV) (v:Value),l[i]?=some p->vs[i]?=some v->V T G h p v)->Vs T G h l vs
|[],vs,hl,_=>Yw.mp hl
|p::l,[],hl,_=>by injection hl
|p::l,v::r,hl,hi=>bA (hi 0 p v rfl rfl) (Vs.of_get (Nat.succ.inj hl) fun i q u e1 e2=>hi (i+1) q u e1 e2)
theorem Vs.append'{l l':List PV}{a b:Array Value}(x:Vs T G h l a.toList)(y:Vs T G h l' b.toList):Vs T G h (l++l') (a++b).toList:=by rw[YY];exact x.append y
theorem AN{p:PV}{l:List PV}(h:ou p=some l):p=.lst l:=by
 cases p with
|lst q=>exact YH PV.lst (Xn h)
|_=>injection h
theorem tP{p:PV}{l:List PV}(h:gU p=some l):p=.tup l:=by
 cases p with
|tup q=>exact YH PV.tup (Xn h)
|_=>injection h
theorem uh{p:PV}{l:Int}(h:aZ p=some l):p=.int l:=by
 cases p with
|int q=>exact YH PV.int (Xn h)
|_=>injection h
theorem qf{α:Type}{l:List α}{x:α}(h:nE l=some x):l=[x]:=by
 cases l with
|nil=>injection h
|cons a l=>cases l with
  |nil=>exact YH (fun x=>[x]) (Xn h)
  |cons b l=>injection h
theorem K6{α:Type}{l:List α}{x:α×α}(h:two l=some x):l=[x.1,x.2]:=by
 cases l with
|nil=>injection h
|cons a l=>cases l with
  |nil=>injection h
  |cons b l=>cases l with
   |nil=>exact(Xn h)▸rfl
   |cons c l=>injection h
theorem qp{p:PV}{x:PV×PV}(h:oB p=some x):p=.tup [x.1,x.2]:=by obtain⟨l,h1,h⟩:=XC.mp h;rw[tP h1,K6 h]
theorem JL{p:PV}{i:Int}(h:one p=some i):p=.tup [.int i]:=by obtain⟨l,h1,h⟩:=XC.mp h;obtain⟨x,h2,h⟩:=XC.mp h;rw[tP h1,qf h2,uh h]
inductive DN(P:Addr->Prop)(v:Value):Prop
|i (a:Addr) (x:v=.ref a) (y:P a)
def lX(T:Tp)(G:Gh)(h:Heap)(l:List PV)(v:Value):Prop:=DN (cV h bD l.length (Vs T G h l)) v
def tn(T:Tp)(G:Gh)(h:Heap)(l:List (PV×PV))(v:Value):Prop:=DN (eT h l (g9 T G h l)) v
def gp(T:Tp)(G:Gh)(h:Heap)(l:List PV)(v:Value):Prop:=DN (fun a=>cV h bD l.length (Vs T G h l) a∨cV h cT l.length (Vs T G h l) a) v
def xl(T:Tp)(G:Gh)(h:Heap)(c:Nat)(f:YA)(v:Value):Prop:=DN (ig T h (fun z=>True) c (f.map (·.1)) (gH T G h f)) v
def zS(T:Tp)(G:Gh)(h:Heap)(v:Value):Zk->Prop
|.lst l=>gp T G h l v
|.dct l=>tn T G h l v
|.inst c f=>xl T G h c f v
def AZ(T:Tp)(G:Gh)(h:Heap)(v:Value):PV->Prop
|.lst l=>lX T G h l v
|.dct l=>tn T G h l v
|.inst _ _=>True
|q=>V T G h q v
theorem lK.p{P:Addr->Prop}{Q:Addr->Prop}{v:Value}(x:lK G P v)(k:∀a,P a->Q a):DN Q v:=by obtain⟨a,e,_,p⟩:=x;exact⟨a,e,k a p⟩
theorem ig.any{dk â:Addr->Prop}{c ks P a}(k:∀x,dk x->â x)(x:ig T h dk c ks P a):ig T h â c ks P a:=by obtain⟨dx,mA,e,r,s,t,u⟩:=x;exact⟨dx,mA,k _ e,r,s,t,u⟩
theorem qL{dk:Addr->Prop}{a:Addr}:∀{o:Zk},gY T G h dk a o->zS T G h (.ref a) o∧AZ T G h (.ref a) (dR o)
|.lst l,x=>⟨⟨a,rfl,.inl x⟩,a,rfl,x⟩
|.dct l,x=>⟨⟨a,rfl,x⟩,a,rfl,x⟩
|.inst c f,x=>⟨⟨a,rfl,x.any fun z z=>trivial⟩,trivial⟩
theorem aG.Ó(R:aG T G s st){i:Nat}{o:Zk}{v:Value}(hi:(st.l[i]?).map (·.o)=some o)(hv:V T G s.heap (.loc i) v):
  ∃e a,st.l[i]?=some e∧e.o=o∧G.la[i]?=some a∧v=.ref a∧dp T G s.heap (dX G.n i e.k) a e:=
 by obtain⟨a,ea,e1⟩:=hv;obtain⟨e,he,e2⟩:=XN.mp hi;exact⟨e,a,he,e2,ea,e1,R.l i e a he ea⟩
theorem aG.È(R:aG T G s st){i:Nat}{o:Zk}{v:Value}(hi:(st.g[i]?).map (·.o)=some o)(hv:V T G s.heap (.glob i) v):
  ∃e a,st.g[i]?=some e∧e.o=o∧G.ga[i]?=some a∧v=.ref a∧dp T G s.heap (.gl i false) a e:=
 by obtain⟨a,ea,e1⟩:=hv;obtain⟨e,he,e2⟩:=XN.mp hi;exact⟨e,a,he,e2,ea,e1,R.g i e a he ea⟩
theorem aG.view(R:aG T G s st){p:PV}{v:Value}(hv:V T G s.heap p v):∀{o:Zk},gN st p=some o->zS T G s.heap v o:=by
 intro o hi;cases p with
|lst l=>obtain rfl:=Xn hi;exact lK.p hv fun a x=>.inl x
|tup l=>obtain rfl:=Xn hi;exact lK.p hv fun a x=>.inr x
|dct l=>obtain rfl:=Xn hi;exact lK.p hv fun a x=>x
|inst c f=>obtain rfl:=Xn hi;exact lK.p hv fun a x=>x.any fun z z=>trivial
|loc i=>obtain⟨e,a,h1,rfl,h3,rfl,h4⟩:=R.Ó hi hv;exact(qL h4.obj).1
|glob i=>obtain⟨e,a,h1,rfl,h3,rfl,h4⟩:=R.È hi hv;exact(qL h4.obj).1
|_=>injection hi
theorem aG.plain(R:aG T G s st){p:PV}{v:Value}(hv:V T G s.heap p v):∀{q:PV},l8 st p=some q->AZ T G s.heap v q:=by
 intro q hi;cases p with
|lst l=>injection hi with hi;subst hi;exact lK.p hv fun a x=>x
|dct l=>injection hi with hi;subst hi;exact lK.p hv fun a x=>x
|inst c f=>injection hi with hi;subst hi;exact trivial
|loc i=>obtain⟨e,he,rfl⟩:=XN.mp hi;obtain⟨e',a,h1,h2,h3,rfl,h4⟩:=R.Ó (o:=e.o) (by rw[he];rfl) hv;exact h2▸(qL h4.obj).2
|glob i=>obtain⟨e,he,rfl⟩:=XN.mp hi;obtain⟨e',a,h1,h2,h3,rfl,h4⟩:=R.È (o:=e.o) (by rw[he];rfl) hv;exact h2▸(qL h4.obj).2
|_=>injection hi with hi;subst hi;exact hv
section
variable{p:PV}{v:Value}
theorem kf{K:Zk->Prop}{Q:Prop}(R:aG T G s st)(hv:V T G s.heap p v)(H:aL (Mine.Internal.gN st p) K)(k:∀o,zS T G s.heap v o->K o->Q):Q:=by obtain⟨o,e,h⟩:=H.get;exact k o (R.view hv e) h
theorem hO{K:PV->Prop}{Q:Prop}(R:aG T G s st)(hv:V T G s.heap p v)(H:aL (Mine.Internal.l8 st p) K)(k:∀o,AZ T G s.heap v o->K o->Q):Q:=by obtain⟨o,e,h⟩:=H.get;exact k o (R.plain hv e) h
theorem Ah{K:List PV->Prop}(R:aG T G s st)(hv:V T G s.heap p v)(H:aL (cN st p) K):∃l,gp T G s.heap l v∧K l:=
 kf R hv (ab H) fun o h1 h2=>by cases o with|lst l=>exact⟨l,h1,h2⟩|_=>exact h2.elim
theorem Kc{K:List (PV×PV)->Prop}(R:aG T G s st)(hv:V T G s.heap p v)(H:aL (Hu st p) K):∃l,tn T G s.heap l v∧K l:=
 kf R hv (ab H) fun o h1 h2=>by cases o with|dct l=>exact⟨l,h1,h2⟩|_=>exact h2.elim
theorem wI{K:Nat×YA->Prop}(R:aG T G s st)(hv:V T G s.heap p v)(H:aL (ge st p) K):∃x,xl T G s.heap x.1 x.2 v∧K x:=
 kf R hv (ab H) fun o h1 h2=>by cases o with|inst c f=>exact⟨(c,f),h1,h2⟩|_=>exact h2.elim
theorem ly{K:List PV->Prop}(R:aG T G s st)(hv:V T G s.heap p v)(H:aL (gz st p) K):∃l,lX T G s.heap l v∧K l:=
 hO R hv (ab H) fun o h1 h2=>by cases o with|lst l=>exact⟨l,h1,h2⟩|_=>exact h2.elim
theorem bG{K:Int->Prop}(hv:V T G h p v)(H:aL (aZ p) K):∃i t,v=.int i t∧K i:=by cases p with|int i=>obtain⟨t,e⟩:=hv;exact⟨i,t,e,H⟩|_=>exact H.elim
theorem Aa{K:List PV->Prop}(hv:V T G h p v)(H:aL (gU p) K):∃l,V T G h (.tup l) v∧K l:=by cases p with|tup i=>exact⟨i,hv,H⟩|_=>exact H.elim
theorem Ao{K:List UInt8->Prop}(hv:V T G h p v)(H:aL (xG p) K):∃l,V T G h (.bytes l) v∧K l:=by cases p with|bytes i=>exact⟨i,hv,H⟩|_=>exact H.elim
theorem jF{K:Bool->Prop}(hv:V T G h p v)(H:aL (cX p) K):∃b,v=.bool b∧K b:=by cases p with|bool i=>exact⟨i,hv,H⟩|_=>exact H.elim
end
theorem ri{K:List Int->Prop}:∀{l:List PV},aL (d7 l) K->∃ns:List Int,l=ns.map .int∧K ns
|[],H=>⟨[],rfl,H⟩
|p::r,H=>by cases p with|int i=>exact let⟨ns,e,h⟩:=ri (l:=r) (ab (f:=fun l=>some (i::l)) H);⟨i::ns,e▸rfl,h⟩|_=>exact H.elim
theorem tS{K:List Bool->Prop}:∀{l:List PV},aL (n8 l) K->∃ns:List Bool,l=ns.map .bool∧K ns
|[],H=>⟨[],rfl,H⟩
|p::r,H=>by cases p with|bool i=>exact let⟨ns,e,h⟩:=tS (l:=r) (ab (f:=fun l=>some (i::l)) H);⟨i::ns,e▸rfl,h⟩|_=>exact H.elim
theorem im(ks:List Int):d7 (ks.map PV.int)=some ks:=by
 induction ks with
|nil=>rfl
|cons k r ih=>show(d7 (r.map PV.int)).bind _=_;rw[ih];rfl
theorem bW{α:Type}{l:List α}(h:aq l=true):l.length≤4000000:=Ye h
theorem ma:sizeLine=16777216:=by decide
theorem ay{n:Nat}(h:n≤4000000):n≤sizeLine:=by rw[ma];exact Xk h (by decide)
theorem fF.units{n:Nat}(r:fF n A):A.units≤9000:=Xk (XH _ _) r.3
theorem Dm{o:Operator}{a b:Int}{t u:Tok}{K:Int->Prop}(H:aL (xF o a b) K):∃c,K c∧W T A (binaryOp o (.int a t) (.int b u)) (PG T G s (.int c)) s:=by
 have done:∀{c:Int},PG T G s (.int c) (.int c s.toks) {s with toks:=s.toks+1}:=fun{c}=>.here _ (cM _ _ _)
 cases o with
|Add=>exact⟨_,H,AutoIntOps.add_0 done⟩
|Sub=>exact⟨_,H,AutoIntOps.sub_0 done⟩
|Mult=>exact⟨_,(aF H).2,P.mul_int done (by unfold IntMulOk;have hm:=(aF H).1;unfold iq at hm;rw[Bool.not_eq_true'] at hm;exact(hm)▸Yy)⟩
|FloorDiv=>obtain⟨hb,H⟩:=kj H;obtain⟨hl,H⟩:=aF H;exact⟨_,H,AutoIntOps.floordiv_1 (fun e=>hb (Y1.mp e)) (by exact(PyProof.noPylong_of_log2 hl)▸Yy) done⟩
|Mod=>obtain⟨hb,H⟩:=kj H;exact⟨_,(aF H).2,AutoIntOps.mod_1 (fun e=>hb (Y1.mp e)) done⟩
|LShift=>have h:=Ye (aF H).1;exact⟨_,(aF H).2,PyProof.Rows.lshift_int h.1 h.2 done⟩
|RShift=>
  obtain⟨hb,H⟩:=kj H;by_cases h2:b≥(Builtin.Int.intBits a:Int)
  ·rw[Yh h2] at H;exact⟨_,H,AutoIntOps.rshift_1 hb h2 done⟩
  ·rw[Yg h2] at H;exact⟨_,H,AutoIntOps.rshift_2 hb h2 done⟩
|BitOr=>exact⟨_,H,PyProof.Rows.or_int done⟩
|BitAnd=>exact⟨_,H,PyProof.Rows.and_int done⟩
|_=>exact H.elim
end
section
open PySem.W
variable{T:Tp}{G:Gh}{s:Shared}{st:St}{A:Around}{h:Heap}
mutual
noncomputable def uu:PV->PyData
|.bool b=>.bool b
|.int i=>.int i
|.str x=>.str x
|.tup l=>.tuple (nK l)
|.lst l=>.list (nK l)
|z=>.none
noncomputable def nK:List PV->List PyData
|[]=>[]
|v::r=>uu v::nK r
end
theorem kH{n:Nat}{f:Nat->Bool}(h:pr n f=true):∃m,n=m+1∧f m=true:=by
 cases n with
|zero=>injection h
|succ m=>exact⟨m,rfl,h⟩
mutual
theorem b7:∀{p:PV}{n:Nat},fD p n=true->(uu p).canLay0=true∧(uu p).depth≤n
|.none,_,_=>⟨rfl,Nat.zero_le _⟩
|.bool _,_,_=>⟨rfl,Nat.zero_le _⟩
|.int _,_,_=>⟨rfl,Nat.zero_le _⟩
|.str x,_,h=>⟨h,Nat.zero_le _⟩
|.tup l,n,h=>by obtain⟨m,rfl,h⟩:=kH h;exact⟨(cZ h).1,Yx (cZ h).2⟩
|.lst l,n,h=>by obtain⟨m,rfl,h⟩:=kH h;exact⟨(cZ h).1,Yx (cZ h).2⟩
|.bytes _,_,h=>by injection h
|.dct _,_,h=>by injection h
|.inst _ _,_,h=>by injection h
|.loc _,_,h=>by injection h
|.glob _,_,h=>by injection h
theorem cZ:∀{l:List PV}{n:Nat},gv l n=true->PyData.canLayAll0 (nK l)=true∧PyData.depthAll (nK l)≤n
|[],_,_=>⟨rfl,Nat.zero_le _⟩
|v::r,n,h=>⟨(Xp _ _).mpr ⟨(b7 (az h).1).1,(cZ (az h).2).1⟩,Nat.max_le.mpr ⟨(b7 (az h).1).2,(cZ (az h).2).2⟩⟩
end
mutual
theorem rI:∀{p:PV}{n:Nat}{q:PV}{m:Nat},fD p n=true->fD q m=true->oH p q=PyData.eqv (uu p) (uu q)
|.none,n,q,m,hp,hq=>by cases q<;>first|rfl|injection hq
|.bool _,n,q,m,hp,hq=>by cases q<;>first|rfl|injection hq
|.int _,n,q,m,hp,hq=>by cases q<;>first|rfl|injection hq
|.str _,n,q,m,hp,hq=>by cases q<;>first|rfl|injection hq
|.tup l,n,q,m,hp,hq=>by
  cases q with
  |tup l'=>obtain⟨_,rfl,hp⟩:=kH hp;obtain⟨_,rfl,hq⟩:=kH hq;exact qy hp hq
  |_=>first|rfl|injection hq
|.lst l,n,q,m,hp,hq=>by
  cases q with
  |lst l'=>obtain⟨_,rfl,hp⟩:=kH hp;obtain⟨_,rfl,hq⟩:=kH hq;exact qy hp hq
  |_=>first|rfl|injection hq
|.bytes _,_,_,_,h,_=>by injection h
|.dct _,_,_,_,h,_=>by injection h
|.inst _ _,_,_,_,h,_=>by injection h
|.loc _,_,_,_,h,_=>by injection h
|.glob _,_,_,_,h,_=>by injection h
theorem qy:∀{p:List PV}{n:Nat}{q:List PV}{m:Nat},gv p n=true->gv q m=true->o9 p q=PyData.eqvAll (nK p) (nK q)
|[],n,[],m,_,_=>rfl
|[],n,_::_,m,_,_=>rfl
|_::_,n,[],m,_,_=>rfl
|a::r,n,b::q,m,hp,hq=>(YH (· &&o9 r q) (rI (az hp).1 (az hq).1)).trans (YH (PyData.eqv (uu a) (uu b)&& ·) (qy (az hp).2 (az hq).2))
end
mutual
theorem V.reads:∀{p:PV}{n:Nat}{v:Value},fD p n=true->V T G h p v->∃as,Reads h v (uu p) as
|.none,_,v,_,x=>by obtain rfl:=x;exact⟨_,.none⟩
|.bool b,_,v,_,x=>by obtain rfl:=x;exact⟨_,.bool b⟩
|.int i,_,v,_,x=>by obtain⟨t,rfl⟩:=x;exact⟨_,.int i t⟩
|.str i,_,v,_,x=>by obtain⟨t,rfl⟩:=x;exact⟨_,.str i t⟩
|.tup l,n,v,hf,x=>by obtain⟨_,rfl,hf⟩:=kH hf;obtain⟨a,rfl,_,items,k,e,_,y⟩:=x;obtain⟨as,r⟩:=Vs.reads hf y;exact⟨_,.tuple e rfl rfl r⟩
|.lst l,n,v,hf,x=>by obtain⟨_,rfl,hf⟩:=kH hf;obtain⟨a,rfl,_,items,k,e,_,y⟩:=x;obtain⟨as,r⟩:=Vs.reads hf y;exact⟨_,.list e rfl rfl r⟩
|.bytes _,_,_,h,_=>by injection h
|.dct _,_,_,h,_=>by injection h
|.inst _ _,_,_,h,_=>by injection h
|.loc _,_,_,h,_=>by injection h
|.glob _,_,_,h,_=>by injection h
theorem Vs.reads:∀{l:List PV}{n:Nat}{vs:List Value},gv l n=true->Vs T G h l vs->∃as,ReadsAll h vs (nK l) as
|[],_,vs,_,x=>by obtain rfl:=x;exact⟨_,.nil⟩
|p::l,n,vs,hf,x=>by obtain⟨v,r,rfl,y,z⟩:=x;obtain⟨as,u⟩:=V.reads (az hf).1 y;obtain⟨bs,u'⟩:=Vs.reads (az hf).2 z;exact⟨_,.cons u u'⟩
end
theorem AZ.reads{q:PV}{n:Nat}{v:Value}(hf:fD q n=true)(x:AZ T G h v q):∃as,Reads h v (uu q) as:=by
 cases q with
|lst l=>obtain⟨_,rfl,hf⟩:=kH hf;obtain⟨a,rfl,items,k,e,_,y⟩:=x;obtain⟨as,r⟩:=Vs.reads hf y;exact⟨_,.list e rfl rfl r⟩
|dct l=>injection hf
|inst c f=>injection hf
|_=>exact V.reads (T:=T) (G:=G) hf x
theorem kO{k:PV}{m:Nat}(hk:fD k m=true){l:List PV}:∀{n:Nat},gv l n=true->(l.any fun x=>oH x k)=(nK l).any fun y=>PyData.eqv y (uu k):=by
 induction l with
|nil=>intro _ _;exact rfl
|cons v r ih=>intro n h;exact(YH (· ||r.any fun x=>oH x k) (rI (az h).1 hk)).trans (YH (PyData.eqv (uu v) (uu k)|| ·) (ih (az h).2))
theorem HP{n:Nat}(rm:fF n A)(R:aG T G s st){a b:PV}{u v:Value}{K:Bool->Prop}(va:V T G s.heap a u)(vb:V T G s.heap b v)(H:aL (Jz st a b) K):
  ∃c,K c∧W T A (compareOp .Eq u v) (PG T G s (.bool c)) s∧W T A (compareOp .NotEq u v) (PG T G s (.bool (!c))) s:=
 hO R va (ab H) fun a' pa H=>hO R vb (ab H) fun b' pb H=>by obtain⟨hf,H⟩:=aF H;obtain⟨fa,fb⟩:=az hf;obtain⟨as,ra⟩:=pa.reads fa;obtain⟨bs,rb⟩:=pb.reads fb;have:=rm.units;let' d:=(b7 fa).2;let' hr:A.units+min (uu a').depth (uu b').depth<9900:=XQ (XR this (Xk (Nat.min_le_left _ _) d)) (by decide);exact⟨_,H,PySem.SeqAt.compareEq_reads ra rb (b7 fa).1 (b7 fb).1 hr (rI fa fb▸.Zq dh),PySem.SeqAt.compareNe_reads ra rb (b7 fa).1 (b7 fb).1 hr (rI fa fb▸.Zq dh)⟩
end
section
open PySem.W
variable{T:Tp}{G G':Gh}{s:Shared}{st:St}{A:Around}{h h':Heap}
def ph(T:Tp)(G:Gh)(h:Heap):Option PV->Option Value->Prop
|none,none=>True
|some p,some v=>V T G h p v
|z,y=>False
theorem ph.getD{r o}(x:ph T G h r o){d u}(y:V T G h d u):V T G h (r.getD d) (o.getD u):=by cases r<;>cases o<;>first|exact x|exact y|exact x.elim
theorem ph.isSome{r o}(x:ph T G h r o):o.isSome=r.isSome:=by cases r<;>cases o<;>first|rfl|exact x.elim
theorem ph.some{p o}(x:ph T G h (some p) o):∃v,o=.some v∧V T G h p v:=by cases o with|none=>exact x.elim|some v=>exact⟨v,rfl,x⟩
section
variable{K:Type}[DecidableEq K]
def cu(Zl:K->PV)(l:List (K×PV)):List (PV×PV):=l.map fun x=>(Zl x.1,x.2)
structure Emb(w:World)(Zl:K->PV)(hash:K->Int):Prop where
 eq:∀a b,dU (Zl a) (Zl b)=some (decide (a=b))
 hash:∀k,IU w (Zl k)=hash k
 inj:∀a b,Zl a=Zl b->a=b
noncomputable def kE(k:K):List (K×PV)->Option PV
|[]=>none
|x::r=>if x.1=k then some x.2 else kE k r
theorem lJ{w:World}{Zl:K->PV}{hash}(M:Emb w Zl hash)(k:K)(l:List (K×PV)):aC (cu Zl l) (Zl k)=some (kE k l):=by
 induction l with
|nil=>exact rfl
|cons x r ih=>
  refine(?_:(dU (Zl x.1) (Zl k)).bind _=some (if x.1=k then some x.2 else kE k r));rw[M.eq];by_cases h:x.1=k
  ·rw[Yc h,Yh h];rfl
  ·rw[Yd h,Yg h];exact ih
noncomputable def j9(k:K)(p:PV):List (K×PV)->List (K×PV)
|[]=>[(k,p)]
|x::r=>if x.1=k then(x.1,p)::r else x::j9 k p r
theorem j0{w:World}{Zl:K->PV}{hash}(M:Emb w Zl hash)(k:K)(p:PV)(l:List (K×PV)):dJ (cu Zl l) (Zl k) p=some (cu Zl (j9 k p l)):=by
 induction l with
|nil=>exact rfl
|cons x r ih=>
  refine(?_:(dU (Zl x.1) (Zl k)).bind _=some (cu Zl (if x.1=k then(x.1,p)::r else x::j9 k p r)));rw[M.eq];by_cases h:x.1=k
  ·rw[Yc h,Yh h];rfl
  ·rw[Yd h,Yg h];refine(?_:(dJ (cu Zl r) (Zl k) p).map _=_);rw[ih];rfl
theorem da{w:World}{Zl:K->PV}{hash}(M:Emb w Zl hash)(l:List (K×PV)):((cu Zl l).map (·.1)).Nodup↔(l.map (·.1)).Nodup:=by
 have e:(cu Zl l).map (·.1)=(l.map (·.1)).map Zl:=by unfold cu;rw[YW,YW];rfl
 rw[e];exact⟨fun h=>(List.pairwise_map.mp h).imp fun Á e=>Á (YH Zl e),fun h=>List.pairwise_map.mpr (h.imp fun Á e=>Á (M.inj _ _ e))⟩
theorem Cs(k:K)(p:PV)(l:List (K×PV)):∀(x:K),x∈(j9 k p l).map (·.1)->x∈l.map (·.1)∨x=k:=by
 induction l with
|nil=>intro x h;exact .inr (XU.mp h)
|cons y r ih=>
  intro x h;unfold j9 at h;split at h
  ·exact .inl h
  ·rcases Xo.mp h with h|h
   ·exact .inl (h▸Xy)
   ·exact(ih x h).imp (XB _) id
theorem v4(k:K)(p:PV)(l:List (K×PV)):(l.map (·.1)).Nodup->((j9 k p l).map (·.1)).Nodup:=by
 induction l with
|nil=>intro _;exact YS.mpr ⟨nofun,.nil⟩
|cons y r ih=>
  intro h;unfold j9;split
  ·exact h
  ·rename_i Á;exact YS.mpr ⟨fun e=>(Cs k p r _ e).elim (YS.mp h).1 Á,ih (YS.mp h).2⟩
theorem rC{P:PV->Bool}{Zl:K->PV}(hp:∀k,P k=true->∃x,Zl x=k){l:List (PV×PV)}:l.all (fun x=>P x.1)=true->∃q,l=cu Zl q:=by
 induction l with
|nil=>intro _;exact⟨[],rfl⟩
|cons x r ih=>intro h;obtain⟨i,hi⟩:=hp x.1 (az h).1;obtain⟨q,hq⟩:=ih (az h).2;exact⟨(i,x.2)::q,by rw[hq];show _=(Zl i,x.2)::_;rw[hi];rfl⟩
theorem nF{P:PV->Bool}{Zl:K->PV}(hp:∀k,P (Zl k)=true)(q:List (K×PV)):(cu Zl q).all (fun x=>P x.1)=true:=by rw[XV];intro x hx;obtain⟨y,_,rfl⟩:=Yt.mp hx;exact hp _
end
def gO(ks:List Int):PV:=.tup (ks.map .int)
theorem pw:∀(a b:List Int),o9 (a.map .int) (b.map .int)=decide (a=b)
|[],[]=>rfl
|[],_::_=>rfl
|_::_,[]=>rfl
|x::r,y::q=>by refine(?_:((x==y)&&o9 (r.map .int) (q.map .int))=_);rw[pw r q];by_cases h:x=y<;>by_cases h':r=q<;>simp[h,h']
theorem rr(prog:Program)(w:World):Emb w PV.int (intKind prog w).hash:=⟨fun a b=>rfl,fun z=>rfl,fun a b h=>by injection h⟩
theorem ru(prog:Program)(w:World):Emb w PV.str (strKind prog w).hash:=⟨fun a b=>rfl,fun z=>rfl,fun a b h=>by injection h⟩
theorem tW{a b:List Int}(h:a.map PV.int=b.map PV.int):a=b:=Xn ((im a).symm.trans ((YH d7 h).trans (im b)))
theorem iQ(prog:Program)(w:World):Emb w gO (tupleKind (intKind prog w)).hash:=
 ⟨fun a b=>YH some (pw a b),fun k=>by show(match d7 (k.map PV.int) with|some ks=>_|none=>_)=_;rw[im];rfl,fun a b h=>by injection h with h;exact tW h⟩
theorem ua{l:List PV}:l.all jL=true->∃ks:List Int,ks.map PV.int=l:=by
 induction l with
|nil=>intro _;exact⟨[],rfl⟩
|cons p r ih=>
  intro h;obtain⟨q,hq⟩:=ih (az h).2;cases p with
  |int i=>exact⟨i::q,YH _ hq⟩
  |_=>cases(az h).1
theorem sN(k:PV)(h:jL k=true):∃x,PV.int x=k:=by cases k with|int i=>exact⟨i,rfl⟩|_=>injection h
theorem C6(k:PV)(h:xC k=true):∃x,PV.str x=k:=by cases k with|str i=>exact⟨i,rfl⟩|_=>injection h
theorem ul(k:PV)(h:ny k=true):∃x,gO x=k:=by cases k with|tup l=>obtain⟨q,hq⟩:=ua h;exact⟨q,YH PV.tup hq⟩|_=>injection h
theorem yT(k:List Int):ny (gO k)=true:=by show(k.map PV.int).all jL=true;rw[XV];intro x hx;obtain⟨y,_,rfl⟩:=Yt.mp hx;rfl
theorem oA(T:Tp){q:List (Int×PV)}(h:(q.map (·.1)).Nodup):eF (cu .int q):=⟨.inl (nF (fun z=>rfl) q),(da (rr T.prog T.w) q).mpr h⟩
theorem nR(T:Tp){q:List (Str×PV)}(h:(q.map (·.1)).Nodup):eF (cu .str q):=⟨.inr (.inl (nF (fun z=>rfl) q)),(da (ru T.prog T.w) q).mpr h⟩
theorem uF(T:Tp){q:List (List Int×PV)}(h:(q.map (·.1)).Nodup):eF (cu gO q):=⟨.inr (.inr (nF yT q)),(da (iQ T.prog T.w) q).mpr h⟩
inductive po:List (PV×PV)->PV->Prop
|i (q:List (Int×PV)) (i:Int):po (cu .int q) (.int i)
|s (q:List (Str×PV)) (i:Str):po (cu .str q) (.str i)
|t (q:List (List Int×PV)) (i:List Int):po (cu gO q) (gO i)
theorem sC{l:List (PV×PV)}{k:PV}(ko:eF l)(ik:cY k=true)(H:∀x r,l=x::r->dU x.1 k≠none):po l k:=by
 have nil:∀{P P':PV->Bool},(∀k',P' k'=true->dU k' k=none)->l.all (fun x=>P' x.1)=true->l.all (fun x=>P x.1)=true:=fun hk h=>by
  cases l with
  |nil=>rfl
  |cons x r=>exact absurd (hk _ (az h).1) (H x r rfl)
 have h:=ko.1;cases k with
|int i=>
  have:l.all (fun x=>jL x.1)=true:=h.elim id fun h=>h.elim (nil fun k' e=>by cases k'<;>first|rfl|injection e) (nil fun k' e=>by cases k'<;>first|rfl|injection e)
  obtain⟨q,rfl⟩:=rC sN this;exact .i q i
|str i=>
  have:l.all (fun x=>xC x.1)=true:=h.elim (nil fun k' e=>by cases k'<;>first|rfl|injection e) fun h=>h.elim id (nil fun k' e=>by cases k'<;>first|rfl|injection e)
  obtain⟨q,rfl⟩:=rC C6 this;exact .s q i
|tup i=>
  have:l.all (fun x=>ny x.1)=true:=h.elim (nil fun k' e=>by cases k'<;>first|rfl|injection e) fun h=>h.elim (nil fun k' e=>by cases k'<;>first|rfl|injection e) id
  obtain⟨q,rfl⟩:=rC ul this;obtain⟨ks,e⟩:=ul (.tup i) ik;exact e▸.t q ks
|_=>injection ik
theorem uJ{l:List (PV×PV)}{k:PV}{K:Option PV->Prop}(ko:eF l)(ik:cY k=true)(H:aL (aC l k) K):po l k:=sC ko ik fun x r e h=>by subst e;unfold aC at H;rw[h] at H;exact H.elim
theorem yY{l:List (PV×PV)}{k p:PV}{K:List (PV×PV)->Prop}(ko:eF l)(ik:cY k=true)(H:aL (dJ l k p) K):po l k:=sC ko ik fun x r e h=>by subst e;unfold dJ at H;rw[h] at H;exact H.elim
section
variable{K:Type}[DecidableEq K]{knd:KeyKind T.prog T.w K}{Zl:K->PV}
structure Cd(T:Tp)(knd:KeyKind T.prog T.w K)(Zl:K->PV):Prop extends Emb T.w Zl knd.hash where
 to:∀G h k v,V T G h (Zl k) v->knd.is k v=true
 of:∀G h k v,knd.is k v=true->V T G h (Zl k) v
class inductive FA(T:Tp)(G:Gh)(h:Heap):List (K×PV)->List (K×Value)->Prop
|nil:FA T G h [] []
|cons {k:K}{p:PV}{v:Value} {q Zj}:V T G h p v->FA T G h q Zj->FA T G h ((k,p)::q) ((k,v)::Zj)
theorem FA.keys{q:List (K×PV)}{Zj}(x:FA T G h q Zj):Zj.map (·.1)=q.map (·.1):=by
 induction x with
|nil=>rfl
|cons _ _ ih=>exact YH (_:: ·) ih
theorem FA.length{q:List (K×PV)}{Zj}(x:FA T G h q Zj):Zj.length=q.length:=by
 have:=YH List.length x.keys
 rwa [Xm,Xm] at this
theorem FA.lat(y:jz G h G' h'){q:List (K×PV)}{Zj}(x:FA T G h q Zj):FA T G' h' q Zj:=by
 induction x with
|nil=>exact .nil
|cons a _ ih=>exact .cons (a.lat y) ih
theorem FA.at{q:List (K×PV)}{Zj}(x:FA T G h q Zj)(k:K):ph T G h (kE k q) (valueAt Zj k):=by
 induction x with
|nil=>exact trivial
| @cons k' p v q Zj a _ ih=>
  unfold kE;unfold valueAt at ih ⊢;rw[List.find?_cons];by_cases e:k'=k
  ·rw[Yh e,Yc e];exact a
  ·rw[Yg e,Yd e];exact ih
theorem FA.stored{q:List (K×PV)}{Zj}(x:FA T G h q Zj)(hn:(q.map (·.1)).Nodup){k:K}{p:PV}{v:Value}(hv:V T G h p v):FA T G h (j9 k p q) (stored Zj k v):=by
 induction x with
|nil=>exact .cons hv .nil
| @cons k' p' v' q Zj a b ih=>
  rw[XM,YS] at hn;unfold j9;by_cases e:k'=k
  ·subst e;simp only[if_true,PySem.stored,List.any_cons,decide_true,Bool.true_or,XM];rw[map_store_of_not_mem Zj k' v (by rw[b.keys];exact hn.1)];exact .cons hv b
  ·let' ih:=ih hn.2;simp only[e,if_false,PySem.stored,List.any_cons,decide_false,Bool.false_or,XM] at ih ⊢;split
   ·rename_i hk;rw[Yh hk] at ih;exact .cons a ih
   ·rename_i hk;rw[Yg hk] at ih;rw[List.cons_append];exact .cons a ih
theorem rT(M:Cd T knd Zl){q:List (K×PV)}{a:Addr}(x:eT h (cu Zl q) (g9 T G h (cu Zl q)) a):∃Zj,h.DictOf knd a Zj∧FA T G h q Zj:=by
 obtain⟨es,n,e,⟨_,ko⟩,x⟩:=x;have key:∀(q:List (K×PV)) (l:List DictEntry),g9 T G h (cu Zl q) l->(∀e∈l,Exists fun k=>knd.is k e.key=true∧e.hash=knd.hash k)∧∃Zj,Pairs knd l Zj∧FA T G h q Zj:=by
  intro q;induction q with
  |nil=>intro l x;obtain rfl:=x;exact⟨fun z h=>(nomatch h),[],.nil,.nil⟩
  |cons y r ih=>
   intro l x;obtain⟨e,r',rfl,e1,e2,e3,e4⟩:=x;obtain⟨i1,Zj,i2,i3⟩:=ih r' e4;let' hk:=M.to _ _ _ _ e1;refine⟨fun e' he=>?_,(y.1,e.val)::Zj,.cons hk rfl i2,.cons e3 i3⟩;rcases Xo.mp he with rfl|he
   ·exact⟨y.1,hk,e2.trans (M.hash _)⟩
   ·exact i1 e' he
 obtain⟨k1,Zj,k2,k3⟩:=key q es.toList x;exact⟨Zj,⟨_,es,n,e,⟨rfl,rfl,rfl⟩,rfl,fun e he=>k1 e (Array.mem_toList_iff.mpr he),k2,by rw[k3.keys];exact((da M.toEmb q).mp ko.2)⟩,k3⟩
theorem mz(M:Cd T knd Zl){h0:Heap}{a:Addr}{q:List (K×PV)}{Zj:List (K×Value)}(d:h.DictOf knd a Zj)(x:FA T G h0 q Zj)(hm:a≠sysModules)(ok:(q.map (·.1)).Nodup->eF (cu Zl q)):
  eT h (cu Zl q) (g9 T G h0 (cu Zl q)) a:=by
 obtain⟨⟨c,dd,dt,sl⟩,es,ep,e,⟨e1,e2,e3⟩,ed,kk,pr,nd⟩:=d;dsimp only at e1 e2 e3 ed;subst e1 e2 e3 ed;refine⟨es,ep,e,⟨hm,ok (by rw[<-x.keys];exact nd)⟩,?_⟩;let' ů:∀e∈es.toList,Exists fun k=>knd.is k e.key=true∧e.hash=knd.hash k:=(fun e he=>kk e (Array.mem_toList_iff.mp he))
 clear kk nd e ok;generalize es.toList=l at pr ů;induction x generalizing l with
|nil=>cases pr;exact rfl
| @cons k p v q Zj a b ih=>
  cases pr with
  | @cons e kv Į kvs' h1 h2 h3=>obtain⟨k',z1,z2⟩:=ů e Xy;have:=knd.inj _ _ _ z1 h1;subst this;exact⟨e,Į,rfl,M.of _ _ _ _ h1,z2.trans (M.hash _).symm,h2▸a,ih Į h3 fun e he=>ů e (XB _ he)⟩
end
theorem kg(T:Tp):Cd T (intKind T.prog T.w) .int where
 toEmb:=rr T.prog T.w
 to:=fun G h k v x=>by obtain⟨t,rfl⟩:=x;exact Y5 k
 of:=fun G h k v x=>Value.isInt_shape x
theorem kn(T:Tp):Cd T (strKind T.prog T.w) .str where
 toEmb:=ru T.prog T.w
 to:=fun G h k v x=>by obtain⟨t,rfl⟩:=x;exact Y5 k
 of:=fun G h k v x=>Value.isStrOf_shape x
class inductive FT(T:Tp)(G:Gh)(h:Heap):List (List Int×PV)->List (List Int×Addr×Value)->Prop
|nil:FT T G h [] []
|cons {k:List Int}{p:PV}{a:Addr}{v:Value} {q xs}:V T G h (gO k) (.ref a)->V T G h p v->FT T G h q xs->FT T G h ((k,p)::q) ((k,a,v)::xs)
noncomputable abbrev TK(T:Tp):=tupleKind (intKind T.prog T.w)
theorem FT.keys{q xs}(x:FT T G h q xs):xs.map (·.1)=q.map (·.1):=by
 induction x with
|nil=>rfl
|cons _ _ _ ih=>exact YH (_:: ·) ih
theorem FT.length{q xs}(x:FT T G h q xs):xs.length=q.length:=by
 have:=YH List.length x.keys
 rwa [Xm,Xm] at this
theorem FT.lat(y:jz G h G' h'){q xs}(x:FT T G h q xs):FT T G' h' q xs:=by
 induction x with
|nil=>exact .nil
|cons a b _ ih=>exact .cons (a.lat y) (b.lat y) ih
theorem FT.at{q xs}(x:FT T G h q xs)(k:List Int):ph T G h (kE k q) ((atKey xs k).map (·.2)):=by
 induction x with
|nil=>exact trivial
| @cons k' p a v q xs _ b _ ih=>
  unfold kE;unfold atKey at ih ⊢;rw[List.find?_cons];by_cases e:k'=k
  ·rw[Yh e,Yc e];exact b
  ·rw[Yg e,Yd e];exact ih
theorem wj{k:List Int}{v:Value}(x:V T G h (gO k) v):∃a,v=.ref a∧(TK T).is h k a:=by
 obtain⟨a,rfl,_,items,n,e,hzz,y⟩:=x;refine⟨a,rfl,_,items,n,e,rfl,rfl,?_⟩;clear hzz;generalize items.toList=l at y;induction k generalizing l with
|nil=>obtain rfl:=y;exact .nil
|cons i r ih=>obtain⟨v,r',rfl,y1,y2⟩:=y;exact .cons ((kg T).to _ _ _ _ y1) (ih _ y2)
theorem FT.stored{q xs}(x:FT T G h q xs)(hn:(q.map (·.1)).Nodup){k:List Int}{p:PV}{a:Addr}{v:Value}(hk:V T G h (gO k) (.ref a))(hv:V T G h p v):
  FT T G h (j9 k p q) (storedH xs k a v):=by
 induction x with
|nil=>exact .cons hk hv .nil
| @cons k' p' a' v' q xs ka b c ih=>
  rw[XM,YS] at hn;unfold j9;by_cases e:k'=k
  ·subst e;rw[storedH_old (p:=(a',v')) (by simp[atKey]),Yh rfl,XM,map_putAt_of_not_mem xs k' v (by rw[c.keys];exact hn.1)];unfold putAt;rw[Yh rfl];exact .cons ka hv c
  ·have ih:=ih hn.2;have e1:atKey ((k',a',v')::xs) k=atKey xs k:=by simp[atKey,e]
   rw[Yg e];cases hm:atKey xs k with
   |none=>rw[storedH_new hm] at ih;rw[storedH_new (e1.trans hm),List.cons_append];exact .cons ka b ih
   |some av=>
    rw[storedH_old hm] at ih;rw[storedH_old (e1.trans hm),XM];have:putAt k v (k',a',v')=(k',a',v'):=by unfold putAt;exact Yg e
    rw[this];exact .cons ka b ih
theorem tC{q:List (List Int×PV)}{a:Addr}(x:eT h (cu gO q) (g9 T G h (cu gO q)) a):∃xs,h.DictOfH (TK T) a xs∧FT T G h q xs:=by
 obtain⟨es,n,e,⟨_,ko⟩,x⟩:=x;have key:∀(q:List (List Int×PV)) (l:List DictEntry),g9 T G h (cu gO q) l->∃xs,l=xs.map (entryOfKey (TK T))∧(∀x∈xs,(TK T).is h x.1 x.2.1)∧FT T G h q xs:=by
  intro q;induction q with
  |nil=>intro l x;obtain rfl:=x;exact⟨[],rfl,fun w h=>(nomatch h),.nil⟩
  |cons y r ih=>
   intro l x;obtain⟨⟨eh,ek,ev⟩,r',rfl,e1,e2,e3,e4⟩:=x;obtain⟨xs,i1,i2,i3⟩:=ih r' e4;obtain⟨a,ha,hk⟩:=wj e1;dsimp only at ha e2;subst ha;refine⟨(y.1,a,ev)::xs,?_,fun z hz=>?_,.cons e1 e3 i3⟩
   ·rw[XM,<-i1,e2,(iQ T.prog T.w).hash];rfl
   ·rcases Xo.mp hz with rfl|hz
    ·exact hk
    ·exact i2 z hz
 obtain⟨xs,k1,k2,k3⟩:=key q es.toList x;exact⟨xs,⟨_,es,n,e,⟨rfl,rfl,rfl⟩,rfl,k1,k2,by rw[k3.keys];exact((da (iQ T.prog T.w) q).mp ko.2)⟩,k3⟩
theorem AL{h0:Heap}{a:Addr}{q:List (List Int×PV)}{xs}(d:h.DictOfH (TK T) a xs)(x:FT T G h0 q xs)(hm:a≠sysModules):eT h (cu gO q) (g9 T G h0 (cu gO q)) a:=by
 obtain⟨⟨c,dd,dt,sl⟩,es,ep,e,⟨e1,e2,e3⟩,ed,kk,Ű,nd⟩:=d;dsimp only at e1 e2 e3 ed;subst e1 e2 e3 ed;refine⟨es,ep,e,⟨hm,uF T (by rw[<-x.keys];exact nd)⟩,?_⟩;rw[kk];clear kk nd e Ű;induction x with
|nil=>exact rfl
| @cons k p a' v q xs hk b c ih=>exact⟨_,_,rfl,hk,((iQ T.prog T.w).hash k).symm,b,ih⟩
theorem oE{a:Addr}(h:a≠sysModules):(a==sysModules)=false:=Y4.mpr h
theorem uK{K:Type}[DecidableEq K]{prog:Program}{w:World}{A:Around}{s:Shared}{knd:HeapKind prog w K}{d a:Addr}{k:K}{xs:List (K×Addr×Value)}{E:Value->Shared->Prop}{Q:Value->Shared->Prop}(hu:knd.room A.in1)(ű:knd.is s.heap k a)(hd:(d==sysModules)=false)(hm:s.heap.DictOfH knd d xs)
  (h:Q (.bool (!(atKey xs k).isSome)) {s with toks:=s.toks+knd.draws k}):wpAny (model prog w) A (compareOp .NotIn (.ref a) (.ref d)) Q E s:=by
 refine(?_:wpAny _ _ (do return .bool (!(<-contains (.ref d) (.ref a)))) Q E s);refine X9 ?_;unfold contains
 try with_reducible refine YD ?_
 refine X9 (wpAny_specialOf hm.typeIs slot_dict_contains.lookup ?_);refine(?_:wpAny _ _ (if(some (Value.builtin "dict.__contains__")==some Value.none)=true then _ else _) _ E s);rw[Yg (by rw[beq_builtin_none];exact Yy)];refine X9 (wpAny_callSpecialUnlessNone?_slot (name:=Str.ofString "__contains__") hm.typeIs slot_dict_contains
  (Zb slot_dict_contains hm.typeIs entry_dict_contains ?_ (args_dict_contains _ _)))
 refine(?_:wpAny _ _ (dictGet d (.ref a)>>= _) _ _ s);refine X9 (wpAny_dictGet_heap hu ű hm ?_);cases hf:atKey xs k with
|some p=>rw[hf] at h;refine(?_:wpAny _ _ (ret (.bool true)) _ _ _);exact Yb ⟨_,rfl,Y9 (Yb h)⟩
|none=>rw[hf] at h;refine(?_:wpAny _ _ (Builtin.Dict.pendingKey? d (.ref a)>>= _) _ _ _);exact X9 (wpAny_pendingKey_other hd (Yb ⟨_,rfl,Y9 (Yb h)⟩))
structure w5(T:Tp)(G:Gh)(s:Shared)(A:Around)(d:Addr)(key:Value)(r:Option PV):Prop where
 isin:∀(Q:Value->Shared->Prop),(∀tk,Q (.bool r.isSome) {s with toks:=tk})->W T A (compareOp .In key (.ref d)) Q s
 į:∀(Q:Value->Shared->Prop),(∀tk,Q (.bool (!r.isSome)) {s with toks:=tk})->W T A (compareOp .NotIn key (.ref d)) Q s
 item:∀(Q:Value->Shared->Prop) p,r=some p->(∀v tk,V T G s.heap p v->Q v {s with toks:=tk})->W T A (getItem (.ref d) key) Q s
 Ų:∀(Q:Value->Shared->Prop),(∀v tk,V T G s.heap (r.getD .none) v->Q v {s with toks:=tk})->W T A (call (.builtin "dict.get") [.ref d,key]) Q s
 ų:∀(Q:Value->Shared->Prop) p u,V T G s.heap p u->(∀v tk,V T G s.heap (r.getD p) v->Q v {s with toks:=tk})->W T A (call (.builtin "dict.get") [.ref d,key,u]) Q s
theorem C4{K:Type}[DecidableEq K]{knd:KeyKind T.prog T.w K}{Zl:K->PV}(M:Cd T knd Zl){q:List (K×PV)}{i:K}{a:Addr}{key:Value}(x:eT s.heap (cu Zl q) (g9 T G s.heap (cu Zl q)) a)(hk:V T G s.heap (Zl i) key):
  w5 T G s A a key (kE i q):=by
 have hd:(a==sysModules)=false:=by obtain⟨_,_,_,m,_⟩:=x;exact oE m.1
 obtain⟨Zj,d,f⟩:=rT M x;have ZU:=M.to _ _ _ _ hk;have fa:=f.at i;exact⟨fun Q hQ=>wpAny_in_of ZU hd d.mapOf (fa.isSome▸hQ _),fun Q hQ=>wpAny_notIn_of ZU hd d.mapOf (fa.isSome▸hQ _),fun Q p e hQ=>by obtain⟨v,ev,hv⟩:=(e▸fa:ph T G s.heap (some p) _).some;exact wpAny_getItem_of ZU d.mapOf ev (hQ _ _ hv),
  fun Q hQ=>call_meetsIn F.slot_dict_get d.typeIs F.entry_dict_get (F.args_dict_get_2 _ _) (meets_dict_get _ _ ZU hd) ⟨_,d.mapOf,hQ _ _ (fa.getD gP)⟩,
  fun Q p u hu hQ=>call_meetsIn F.slot_dict_get d.typeIs F.entry_dict_get (F.args_dict_get_3 _ _ _) (meets_dict_get_default _ _ ZU hd u) ⟨_,d.mapOf,hQ _ _ (fa.getD hu)⟩⟩
theorem Cj{n:Nat}(rm:fF n A):(TK T).room A.in1:=tupleKind_room_in1 (by have:=rm.units;show A.units+1<9900;exact XQ (Yx this) (by decide))
theorem KT{n:Nat}(rm:fF n A){q:List (List Int×PV)}{i:List Int}{a:Addr}{key:Value}(x:eT s.heap (cu gO q) (g9 T G s.heap (cu gO q)) a)(hk:V T G s.heap (gO i) key):
  w5 T G s A a key (kE i q):=by
 have hd:(a==sysModules)=false:=by obtain⟨_,_,_,m,_⟩:=x;exact oE m.1
 obtain⟨xs,d,f⟩:=tC x;obtain⟨b,rfl,ZU⟩:=wj hk;let' fa:=f.at i;let' hu:(TK T).room A.in1:=Cj rm;let' fs:=(Option.isSome_map (f:=(·.2)) (x:=atKey xs i)).symm.trans fa.isSome;exact⟨fun Q hQ=>wpAny_in_heap hu ZU hd d (fs▸hQ _),fun Q hQ=>uK hu ZU hd d (fs▸hQ _),fun Q p e hQ=>by
   obtain⟨v,ev,hv⟩:=(e▸fa:ph T G s.heap (some p) _).some;obtain⟨av,e1,rfl⟩:=XN.mp ev;exact wpAny_getItem_heap hu ZU d e1 (hQ _ _ hv),
  fun Q hQ=>call_meetsIn F.slot_dict_get d.typeIs F.entry_dict_get (F.args_dict_get_2 _ _) (meetsH_dict_get _ _ b hd) ⟨hu,i,xs,ZU,d,hQ _ _ (fa.getD gP)⟩,
  fun Q p u hv hQ=>call_meetsIn F.slot_dict_get d.typeIs F.entry_dict_get (F.args_dict_get_3 _ _ _) (meetsH_dict_get_default _ _ b hd u) ⟨hu,i,xs,ZU,d,hQ _ _ (fa.getD hv)⟩⟩
theorem Cv{l:List (PV×PV)}{k:PV}{K:Option PV->Prop}{v key:Value}{n:Nat}(rm:fF n A)(x:tn T G s.heap l v)(ik:cY k=true)(hk:V T G s.heap k key)(H:aL (aC l k) K):
  ∃r d,K r∧v=.ref d∧w5 T G s A d key r:=by
 obtain⟨a,rfl,y⟩:=x;obtain⟨_,_,_,⟨_,ko⟩,_⟩:=id y;cases uJ ko ik H with
|i q i=>rw[lJ (rr T.prog T.w)] at H;exact⟨_,a,H,rfl,C4 (kg T) y hk⟩
|s q i=>rw[lJ (ru T.prog T.w)] at H;exact⟨_,a,H,rfl,C4 (kn T) y hk⟩
|t q i=>rw[lJ (iQ T.prog T.w)] at H;exact⟨_,a,H,rfl,KT rm y hk⟩
theorem SH{l l':List (PV×PV)}{k p:PV}{key u:Value}{n:Nat}{a:Addr}(rm:fF n A)(x:eT s.heap l (g9 T G s.heap l) a)(hz:l.length≤4000000)(ik:cY k=true)(hk:V T G s.heap k key)(hp:V T G s.heap p u)(H:dJ l k p=some l')
  {Q:Unit->Shared->Prop}(hQ:∀h' tk,Heap.SameBut a s.heap h'->(jz G s.heap G h'->eT h' l' (g9 T G h' l') a)->Q () {s with heap:=h',toks:=tk}):W T A (setItem (.ref a) key u) Q s:=by
 obtain⟨_,_,_,⟨hm,ko⟩,_⟩:=id x;let' sz:∀{K:Type}{Zl:K->PV}{q:List (K×PV)},(cu Zl q).length≤4000000->q.length≤sizeLine:=(fun h=>ay (by unfold cu at h;rwa [Xm] at h))
 let' hn:=ko.2;cases yY (p:=p) ko ik (aL.of H) with
|i q i=>let' M:=kg T;let' nd:=(da M.toEmb q).mp hn;rw[j0 M.toEmb] at H;obtain rfl:=Xn H;obtain⟨Zj,d,f⟩:=rT M x;exact wpAny_setItem_pairs (M.to _ _ _ _ hk) d (fun h' hh hs=>hQ _ _ hs fun L=>mz M hh ((f.stored nd hp).lat L) hm (oA T)) (by exact(f.length)▸sz hz)
|s q i=>let' M:=kn T;let' nd:=(da M.toEmb q).mp hn;rw[j0 M.toEmb] at H;obtain rfl:=Xn H;obtain⟨Zj,d,f⟩:=rT M x;exact wpAny_setItem_pairs (M.to _ _ _ _ hk) d (fun h' hh hs=>hQ _ _ hs fun L=>mz M hh ((f.stored nd hp).lat L) hm (nR T)) (by exact(f.length)▸sz hz)
|t q i=>let' M:=iQ T.prog T.w;rw[j0 M] at H;obtain rfl:=Xn H;obtain⟨xs,d,f⟩:=tC x;obtain⟨b,rfl,ZU⟩:=wj hk;exact wpAny_setItem_heap (Cj rm) ZU d (fun h' hh hs=>hQ _ _ hs fun L=>AL hh ((f.stored ((da M q).mp hn) hk hp).lat L) hm) (by exact(f.length)▸sz hz)
end
section
open PySem.W
variable{T:Tp}{G G':Gh}{s:Shared}{st st':St}{A:Around}{h h':Heap}
inductive PK(T:Tp)(G:Gh)(s:Shared)(K:PV×St->Prop)(v:Value)(s':Shared):Prop
|i (r:PV×St) (x:K r) (y:PE T G s r.2 r.1 v s')
theorem PG.pk{K:PV×St->Prop}{p:PV}{v:Value}{s':Shared}(R:aG T G s st)(k:K (p,st))(x:PG T G s p v s'):PK T G s K v s':=⟨_,k,x.pe R⟩
theorem qT{a:Addr}{o:Zk}(ha:G.own a=.fz)(x:gY T G h (fun dx=>G.own dx=.fz) a o):V T G h (dR o) (.ref a):=by cases o<;>exact⟨a,rfl,ha,x⟩
noncomputable def Gh.with(G:Gh)(a:Addr)(t:iW)(la ga:List Addr):Gh:={own:=fun b=>if b=a then t else G.own b,la:=la,ga:=ga,n:=G.n,top:=G.top,lk:=G.lk}
theorem Gh.Zr(G:Gh)(a:Addr)(t:iW)(la ga:List Addr):(G.with a t la ga).own a=t:=Yh rfl
theorem Gh.Ô(G:Gh){a b:Addr}(t:iW)(la ga:List Addr)(h:b≠a):(G.with a t la ga).own b=G.own b:=Yg h
def wF(G:Gh)(h:Heap)(a:Addr):Prop:=(G.own a=.fz∧h.get? a=none)∨G.own a=.fr G.n (.it a)
theorem aG.ZN(R:aG T G s st){a:Addr}(h:s.heap.get? a=none):wF G s.heap a:=.inl ⟨R.fresh h,h⟩
theorem aG.ý(R:aG T G s st){a:Addr}(L:wF G s.heap a){h':Heap}(tk:Nat)(k:∀b o,b≠a->s.heap.get? b=some o->h'.get? b=some o)(hm:∃o,h'.get? a=some o)
  (t:iW) (la ga:List Addr) {st':St}(ė:G.la<+:la) (ù:G.ga<+:ga) (gl:ga.length=st'.g.length) (ll:la.length=st'.l.length) (ht:∀n k,t=.fr n k->n≤G.top∧∀c,k=.it c->c=a)
  (hg:∀(i:Nat) (e:Ent) (b:Addr),st'.g[i]?=some e->ga[i]?=some b->(st.g[i]?=some e∧G.ga[i]?=some b)∨(jz G s.heap (G.with a t la ga) h'->dp T (G.with a t la ga) h' (.gl i false) b e))
  (gk:∀(i:Nat) (e:Ent),st'.g[i]?=some e->e.k.ZA=false∧bT e.o=true)
  (hl:∀(i:Nat) (e:Ent) (b:Addr),st'.l[i]?=some e->la[i]?=some b->(st.l[i]?=some e∧G.la[i]?=some b)∨(jz G s.heap (G.with a t la ga) h'->dp T (G.with a t la ga) h' (dX G.n i e.k) b e)) {X:Nat->b5->Prop} (hx:∀n k,G.own a=.fr n k->X n k):
  aG T (G.with a t la ga) {s with heap:=h',toks:=tk} st'∧cB X G s (G.with a t la ga) {s with heap:=h',toks:=tk}:=by
 have M:Mv (· =a) G s (G.with a t la ga) {s with heap:=h',toks:=tk}:=⟨fun b d=>G.Ô _ _ _ d,fun b o d=>k b o d,fun b d e=>L.elim (fun x=>by rw[d,x.1] at e;injection e) (fun x=>by rw[d,x] at e;injection e),
  fun b o d e f=>L.elim (fun x=>by rw[d,x.2] at f;injection f) (fun x=>by rw[d,x] at e;injection e),
  fun b d hl=>L.elim (fun x=>by obtain⟨⟨o,e⟩,_⟩:=R.lkd b hl;rw[d,x.2] at e;injection e) (fun x=>by have:=(R.lkd b hl).2;rw[d,x] at this;injection this),
  fun b d hn=>by subst d;exact⟨hm,fun n k e=>ht n k ((G.Zr _ _ _ _).symm.trans e)⟩,rfl,fun z z z z z h=>h,ù,rfl,rfl⟩
 have ĭ:∀b t,G.own b=t->t≠.fz->t≠.fr G.n (.it a)->b≠a:=fun b t e h1 h2 d=>by subst d;exact L.elim (fun x=>h1 (e.symm.trans x.1)) fun x=>h2 (e.symm.trans x)
 have La:=M.lt (nl:=false) fun z=>ė
 exact⟨R.mv M R.nle gl ll (fun i e b h1 h2=>(hg i e b h1 h2).imp (fun x=>⟨x.1,x.2,fun c d e=>ĭ c _ e (fun h=>by injection h) (fun h=>by injection h)⟩) (· La)) gk fun i e b h1 h2=>(hl i e b h1 h2).imp (fun x=>⟨x.1,x.2,rfl,ė,fun c d e=>ĭ c _ e (fun h=>by injection h) nofun⟩) (· La),
  Ex.mv R M ė rfl (fun z=>rfl) fun b n k e d=>hx n k (d▸e)⟩
theorem aG.İ(R:aG T G s st){a:Addr}(L:wF G s.heap a){h':Heap}(tk:Nat)(k:∀b o,b≠a->s.heap.get? b=some o->h'.get? b=some o)(hm:∃o,h'.get? a=some o){X:Nat->b5->Prop}(hx:∀n k,G.own a=.fr n k->X n k):
  aG T (G.with a (.fr G.n (.it a)) G.la G.ga) {s with heap:=h',toks:=tk} st∧cB X G s (G.with a (.fr G.n (.it a)) G.la G.ga) {s with heap:=h',toks:=tk}:=
 R.ý L tk k hm _ _ _ (Xq _) (Xq _) R.glen R.llen (fun n k e=>by injection e with e1 e2;subst e1 e2;exact⟨R.nle,fun c e=>by injection e with e;exact e.symm⟩) (fun i e b h1 h2=>.inl ⟨h1,h2⟩) R.gk (fun i e b h1 h2=>.inl ⟨h1,h2⟩) hx
theorem nU{α:Type}{l:List α}{x y:α}{i:Nat}(h:(l++[x])[i]?=some y):l[i]?=some y∨(i=l.length∧x=y):=by
 rcases Nat.lt_trichotomy i l.length with hi|rfl|hi
 ·rw[Ys hi] at h;exact .inl h
 ·rw[List.getElem?_concat_length] at h;injection h with h;exact .inr ⟨rfl,h⟩
 ·rw[List.getElem?_eq_none (by rw[Xl];exact hi)] at h;injection h
theorem Dc{α β:Type}{l:List α}{q:List β}(hl:l.length=q.length){x y:α}{u w:β}{i:Nat}(h1:(q++[u])[i]?=some w)(h2:(l++[x])[i]?=some y):(q[i]?=some w∧l[i]?=some y)∨(i=q.length∧u=w∧x=y):=by
 rcases nU h1 with a|⟨a,b⟩<;>rcases nU h2 with c|⟨c,d⟩
 ·exact .inl ⟨a,c⟩
 ·exact absurd ((XO.mp a).1) (by rw[c,hl];exact YU _)
 ·exact absurd ((XO.mp c).1) (by rw[a,hl];exact YU _)
 ·exact .inr ⟨a,b,d⟩
theorem aG.alloc(R:aG T G s st){a:Addr}(L:wF G s.heap a){h':Heap}(tk:Nat)(k:∀b o,b≠a->s.heap.get? b=some o->h'.get? b=some o){o:Zk}{d:DK}{K:PV×St->Prop}(H:aL (Mine.Internal.alloc st d o) K)
  (ho:∀G' dk,jz G s.heap G' h'->gY T G' h' dk a o) {X:Nat->b5->Prop} (hx:∀n k,G.own a=.fr n k->X n k):
  ∃G' r,K r∧aG T G' {s with heap:=h',toks:=tk} r.2∧cB X G s G' {s with heap:=h',toks:=tk}∧V T G' h' r.1 (.ref a):=by
 have ent:∀{t la ga},jz G s.heap (G.with a t la ga) h'->¬G.lk a->dp T (G.with a t la ga) h' t a ⟨o,.mut⟩:=fun La lk=>⟨G.Zr _ _ _ _,ho _ _ La,fun w=>lk,(fun h=>by injection h)⟩
 have lk:¬G.lk a:=fun hl=>L.elim (fun x=>by obtain⟨⟨o,e⟩,_⟩:=R.lkd a hl;rw[x.2] at e;injection e) (fun x=>by have:=(R.lkd a hl).2;rw[x] at this;injection this)
 have hm:∃o,h'.get? a=some o:=by
  have La:jz G s.heap (G.with a .ct G.la G.ga) h':=⟨fun b o e f=>have nb:b≠a:=fun d=>L.elim (fun x=>by rw[d,x.2] at f;injection f) (fun x=>by rw[d,x] at e;injection e)
   ⟨k b o nb f,(G.Ô _ _ _ nb).trans e⟩,fun w=>Xq _,Xq _⟩
  exact(ho _ (fun w=>True) La).get
 have pre:∀(l:List Addr),l<+:l++[a]:=fun l=>List.prefix_append _ _
 cases d with
|frozen=>obtain⟨R',X'⟩:=R.ý L tk k hm .fz G.la G.ga (Xq _) (Xq _) R.glen R.llen nofun (fun i e b h1 h2=>.inl ⟨h1,h2⟩) R.gk (fun i e b h1 h2=>.inl ⟨h1,h2⟩) hx;exact⟨_,_,H,R',X',qT (G.Zr _ _ _ _) (ho _ _ X'.lat)⟩
|loc=>
  obtain⟨R',X'⟩:=R.ý (st':={st with l:=st.l++[⟨o,.mut⟩]}) L tk k hm (.fr G.n (.obj st.l.length false)) (G.la++[a]) G.ga (pre _) (Xq _) R.glen (by rw[Xl,Xl,R.llen];rfl) (fun n k e=>by injection e with e1 e2;subst e1 e2;exact⟨R.nle,nofun⟩)
   (fun i e b h1 h2=>.inl ⟨h1,h2⟩) R.gk (fun i e b h1 h2=>(Dc R.llen h1 h2).imp id fun Æ La=>by obtain⟨x,y,z⟩:=Æ;subst x y z;exact ent La lk) hx
  exact⟨_,_,H,R',X',a,by show(G.la++[a])[st.l.length]?=_;rw[<-R.llen,List.getElem?_concat_length],rfl⟩
|glob=>
  obtain⟨Ď,H⟩:=aF H;obtain⟨R',X'⟩:=R.ý (st':={st with g:=st.g++[⟨o,.mut⟩]}) L tk k hm (.gl st.g.length false) G.la (G.ga++[a]) (Xq _) (pre _) (by rw[Xl,Xl,R.glen];rfl) R.llen nofun
   (fun i e b h1 h2=>(Dc R.glen h1 h2).imp id fun Æ La=>by obtain⟨x,y,z⟩:=Æ;subst x y z;exact ent La lk) (fun i e h1=>(nU h1).elim (R.gk i e) fun q82=>by obtain⟨_,x⟩:=q82;subst x;exact⟨rfl,Ď⟩) (fun i e b h1 h2=>.inl ⟨h1,h2⟩) hx
  exact⟨_,_,H,R',X',a,by show(G.ga++[a])[st.g.length]?=_;rw[<-R.glen,List.getElem?_concat_length],rfl⟩
inductive NO(T:Tp)(G:Gh)(s:Shared)(o:Zk)(v:Value)(s':Shared):Prop
|i (h':Heap) (tk:Nat) (a:Addr) (x:s'={s with heap:=h',toks:=tk}) (y:gn s.heap h') (z:v=.ref a) (w:s.heap.get? a=none) (u:∀G' dk,jz G s.heap G' h'->gY T G' h' dk a o)
theorem NO.pk{K:PV×St->Prop}{o:Zk}{v:Value}{s':Shared}{d:DK}(R:aG T G s st)(H:aL (Mine.Internal.alloc st d o) K)(x:NO T G s o v s'):PK T G s K v s':=by
 obtain⟨h',tk,a,rfl,k,rfl,hn,ho⟩:=x;obtain⟨G',r,x,x1,x2,x3⟩:=R.alloc (R.ZN hn) tk (fun b o z=>k b o) H ho (X:=Xe G.n) fun n k e=>by rw[R.fresh hn] at e;injection e
 exact⟨r,x,G',x1,x2,x3⟩
abbrev NL(T:Tp)(G:Gh)(s:Shared)(l:List PV):=NO T G s (.lst l)
theorem NL.mk{l:List PV}{items:Array Value}{h':Heap}{tk:Nat}{a:Addr}{n:Nat}(k:gn s.heap h')(hn:s.heap.get? a=none)(e:h'.get? a=some (bD items n))(hz:l.length≤4000000)(hs:Vs T G s.heap l items.toList):NL T G s l (.ref a) {s with heap:=h',toks:=tk}:=
 ⟨h',tk,a,rfl,k,rfl,hn,fun G' dk L=>⟨items,n,e,hz,hs.lat L⟩⟩
theorem NL.push{l:List PV}{items:Array Value}(hz:l.length≤4000000)(hs:Vs T G s.heap l items.toList):NL T G s l (.ref s.heap.objs.size) {s with heap:=s.heap.push (bD items 0)}:=
 NL.mk (tk:=s.toks) (bt _ _) (aV _) (XF _ rfl) hz hs
theorem dg{α:Type}{l:List α}{i j:Nat}{x y:α}(h:(l.set i x)[j]?=some y):(i=j∧x=y)∨(i≠j∧l[j]?=some y):=by
 rw[List.getElem?_set] at h;by_cases e:i=j
 ·rw[Yh e] at h;split at h
  ·injection h with h;exact .inl ⟨e,h⟩
  ·injection h
 ·rw[Yg e] at h;exact .inr ⟨e,h⟩
structure Cy(T:Tp)(G:Gh)(s:Shared)(st:St)(p:PV)(o:Zk)(K:St->Prop)(a:Addr)(t:iW)(e:Ent):Prop where
 ent:dp T G s.heap t a e
 vw:gN st p=some e.o
 nt:∀l,p≠.tup l
 nl:(∃i,p=.glob i)->bT e.o=true
 ne:t≠.fz∧t.d≠.fz∧t≠t.d
 go:∀h' tk,(∀b ob,b≠a->G.own b≠t.d->s.heap.get? b=some ob->h'.get? b=some ob)->(∀b,(∃ob,s.heap.get? b=some ob)->∃ob,h'.get? b=some ob)->
   (jz G s.heap G h'->gY T G h' (fun dx=>G.own dx=t.d) a o)->((∃i,p=.glob i)->bT o=true)->
   ∃st',K st'∧(aG T G {s with heap:=h',toks:=tk} st'∧cB (Xe G.n) G s G {s with heap:=h',toks:=tk})
theorem tg{a b:Addr}{t u:iW}(h:G.own a=t)(e:b=a)(h':G.own b=u):t=u:=by subst e;exact h.symm.trans h'
theorem Mv.turn(R:aG T G s st){a:Addr}{t:iW}{e:Ent}(E:dp T G s.heap t a e)(mu:e.k.ZS=true)(ht:(∃i,t=.gl i false)∨∃i,t=.fr G.n (.obj i false)){h':Heap}{tk:Nat}
  (k:∀b ob,b≠a->G.own b≠t.d->s.heap.get? b=some ob->h'.get? b=some ob) (kt:∀b,(∃ob,s.heap.get? b=some ob)->∃ob,h'.get? b=some ob):Mv (fun b=>b=a∨G.own b=t.d) G s G {s with heap:=h',toks:=tk}:=by
 have td:∀b,b=a∨G.own b=t.d->G.own b=t∨G.own b=t.d:=fun b d=>d.imp (fun e=>(YH G.own e).trans E.own) id
 have nz:∀u,u=t∨u=t.d->u≠.ct∧u≠.fz∧∀n k,u=.fr n k->∃i d,k=.obj i d:=fun u hu=>by
  rcases ht with⟨i,rfl⟩|⟨i,rfl⟩<;>rcases hu with rfl|rfl
  ·exact⟨(fun h=>by injection h),(fun h=>by injection h),nofun⟩
  ·exact⟨(fun h=>by injection h),(fun h=>by injection h),nofun⟩
  ·exact⟨(fun h=>by injection h),(fun h=>by injection h),fun n k e=>by injection e with _ e;exact⟨i,_,e.symm⟩⟩
  ·exact⟨(fun h=>by injection h),(fun h=>by injection h),fun n k e=>by injection e with _ e;exact⟨i,_,e.symm⟩⟩
 exact⟨fun z z=>rfl,fun b o d=>k b o (fun e=>d (.inl e)) fun e=>d (.inr e),fun b d=>(nz _ (td b d)).1,fun b o d e=>absurd e (nz _ (td b d)).2,fun b d hl=>d.elim (fun d=>absurd (d▸hl) (E.mu mu)) (fun d=>by
   have:=(R.lkd b hl).2;rw[d] at this;rcases ht with⟨i,rfl⟩|⟨i,rfl⟩<;>injection this),
  fun b d hn=>⟨kt b (R.there b hn),fun n k e=>R.lev b n k e⟩,rfl,fun z z z z z h=>h,Xq _,rfl,rfl⟩
theorem aG.turn(R:aG T G s st){p:PV}{o:Zk}{v:Value}{K:St->Prop}(H:aL (Lx st p o) K)(hv:V T G s.heap p v):∃a t e,v=.ref a∧Cy T G s st p o K a t e:=by
 cases p with
|loc i=>
  obtain⟨a,ea,rfl⟩:=hv;obtain⟨e,he,H⟩:=(ab H).get;obtain⟨mu,H⟩:=aF H;have E:dp T G s.heap (.fr G.n (.obj i false)) a e:=by
   have:=R.l i e a he ea;cases hk:e.k with
   |ZG=>rw[hk] at mu;injection mu
   |_=>rw[hk] at this;exact this
  refine⟨a,_,e,rfl,E,by show(st.l[i]?).map _=_;rw[he];rfl,nofun,nofun,⟨(fun h=>by injection h),(fun h=>by injection h),nofun⟩,fun h' tk k kt ho Ď=>⟨_,H,?_⟩⟩;have M:=Mv.turn (tk:=tk) R E mu (.inr ⟨i,rfl⟩) k kt;have L:=M.lt (nl:=false) fun z=>Xq _
  refine⟨R.mv M R.nle R.glen (by rw[List.length_set];exact R.llen) (fun j f b h1 h2=>.inl ⟨h1,h2,fun c d e1=>not_or.mpr ⟨fun e2=>(nomatch tg E.own e2 e1),fun e2=>(nomatch e2.symm.trans e1)⟩⟩) R.gk fun j f b h1 h2=>?_,
   Ex.mv R M (Xq _) rfl (fun z=>rfl) fun b n k e1 d=>?_⟩
  ·rcases dg h1 with⟨rfl,rfl⟩|⟨É,h1⟩
   ·have h2:G.la[i]?=some b:=h2;rw[ea] at h2;obtain rfl:=Xn h2;exact .inr ⟨E.own,ho L,fun z=>E.mu mu,(fun h=>by injection h)⟩
   ·exact .inl ⟨h1,h2,rfl,Xq _,fun c d e1=>not_or.mpr ⟨fun e2=>by have:=tg E.own e2 e1;injection this with _ this;injection this with this;exact É this,fun e2=>by have:=e2.symm.trans e1;injection this with _ this;injection this with this;exact É this⟩⟩
  ·rcases d with d|d
   ·have:=tg E.own d e1;injection this with e2 e3;exact⟨e2.symm,_,_,e3.symm⟩
   ·have:=d.symm.trans e1;injection this with e2 e3;exact⟨e2.symm,_,_,e3.symm⟩
|glob i=>
  obtain⟨a,ea,rfl⟩:=hv;obtain⟨e,he,H⟩:=(ab H).get;obtain⟨mu,H⟩:=aF H;have E:=R.g i e a he ea;refine⟨a,_,e,rfl,E,by show(st.g[i]?).map _=_;rw[he];rfl,nofun,fun z=>(R.gk i e he).2,⟨(fun h=>by injection h),(fun h=>by injection h),nofun⟩,fun h' tk k kt ho Ď=>⟨_,H,?_⟩⟩;have M:=Mv.turn (tk:=tk) R E mu (.inl ⟨i,rfl⟩) k kt;have L:=M.lt (nl:=false) fun z=>Xq _
  refine⟨R.mv M R.nle (by rw[List.length_set];exact R.glen) R.llen (fun j f b h1 h2=>?_) (fun j f h1=>(dg h1).elim (fun Æ=>by obtain⟨_,x⟩:=Æ;subst x;exact⟨rfl,Ď ⟨i,rfl⟩⟩) fun x=>R.gk j f x.2) (fun j f b h1 h2=>.inl ⟨h1,h2,rfl,Xq _,fun c d e1=>not_or.mpr ⟨fun e2=>(nomatch tg E.own e2 e1),fun e2=>(nomatch e2.symm.trans e1)⟩⟩),
   Ex.mv R M (Xq _) rfl (fun z=>rfl) fun b n k e1 d=>?_⟩
  ·rcases dg h1 with⟨rfl,rfl⟩|⟨É,h1⟩
   ·have h2:G.ga[i]?=some b:=h2;rw[ea] at h2;obtain rfl:=Xn h2;exact .inr ⟨E.own,ho L,fun z=>E.mu mu,(fun h=>by injection h)⟩
   ·exact .inl ⟨h1,h2,fun c d e1=>not_or.mpr ⟨fun e2=>by have:=tg E.own e2 e1;injection this with this;exact É this,fun e2=>by have:=e2.symm.trans e1;injection this with this;exact É this⟩⟩
  ·rcases d with d|d
   ·exact nomatch tg E.own d e1
   ·exact nomatch d.symm.trans e1
|_=>exact H.elim
section
variable{p:PV}{o:Zk}{K:St->Prop}{a:Addr}{t:iW}{e:Ent}
theorem Cy.only(x:Cy T G s st p o K a t e){h':Heap}(tk:Nat)(k:∀b,b≠a->h'.get? b=s.heap.get? b)(ho:jz G s.heap G h'->gY T G h' (fun dx=>G.own dx=t.d) a o)(Ď:(∃i,p=.glob i)->bT o=true):
  ∃st',K st'∧(aG T G {s with heap:=h',toks:=tk} st'∧cB (Xe G.n) G s G {s with heap:=h',toks:=tk}):=
 x.go h' tk (fun b ob hb z e=>(k b hb).trans e) (fun b ⟨ob,e⟩=>by
  by_cases hb:b=a
  ·exact hb▸(ho ⟨fun b o e f=>⟨(k b fun h=>x.ne.1 (tg x.ent.own h e)).trans f,e⟩,fun z=>Xq _,Xq _⟩).get
  ·exact⟨ob,(k b hb).trans e⟩) ho Ď
theorem eH{l:List PV}(h:cN st p=some l):gN st p=some (.lst l):=by
 obtain⟨o,e,h⟩:=XC.mp h;cases o with
|lst q=>injection h with h;exact h▸e
|_=>injection h
theorem y8{x:Nat×YA}(h:ge st p=some x):gN st p=some (.inst x.1 x.2):=by
 obtain⟨o,e,h⟩:=XC.mp h;cases o with
|inst c f=>injection h with h;exact h▸e
|_=>injection h
theorem Cy.lst{l l':List PV}(x:Cy T G s st p (.lst l') K a t e)(hi:gN st p=some (.lst l)):∃items n,s.heap.get? a=some (bD items n)∧l.length≤4000000∧Vs T G s.heap l items.toList∧
  ∀(f:Array Value->Array Value) (tk:Nat),l'.length≤4000000->Vs T G s.heap l' (f items).toList->((∃i,p=.glob i)->aj l=true->aj l'=true)->
   ∃st',K st'∧(aG T G {s with heap:=s.heap.update a (Obj.mapSeq f),toks:=tk} st'∧cB (Xe G.n) G s G {s with heap:=s.heap.update a (Obj.mapSeq f),toks:=tk}):=by
 have e1:e.o=.lst l:=Xn (x.vw.symm.trans hi);have ob:=x.ent.obj;rw[e1] at ob;obtain⟨items,n,h1,h2,h3⟩:=ob;refine⟨items,n,h1,h2,h3,fun f tk hz hx Ď=>?_⟩;have hs:(s.heap.update a (Obj.mapSeq f)).get? a=some (bD (f items) (if(f items).size==items.size then n else n+1)):=Heap.get?_update_self _ h1 rfl;exact x.only tk (fun b hb=>Heap.get?_update_other _ _ (Ne.symm hb)) (fun L=>⟨_,_,hs,hz,hx.lat L⟩) fun hg=>Ď hg (by have:=x.nl hg;rw[e1] at this;exact this)
end
theorem jc{l:List PV}:∀{r:List PV},aj (l++r)=(aj l&&aj r):=by
 induction l with
|nil=>intro r;exact rfl
|cons v l ih=>intro r;show(aw v&&aj (l++r))=((aw v&&aj l)&&aj r);rw[ih,Bool.and_assoc]
theorem cD{l:List PV}:aj l=true↔∀v∈l,aw v=true:=by
 induction l with
|nil=>exact⟨fun z=>nofun,fun z=>rfl⟩
|cons v l ih=>rw[List.forall_mem_cons,<-ih];exact Bool.and_eq_true_iff
theorem dv{p x:PV}(h:we p x=true)(hg:∃i,p=.glob i):aw x=true:=by obtain⟨i,rfl⟩:=hg;exact h
theorem cF{α:Type}{f:PV->Option α}{as:List PV}{vs:List Value}{K:α->Prop}(hv:Vs T G h as vs)(H:aL (iT f as) K):∃p u,vs=[u]∧V T G h p u∧aL (f p) K:=by
 match as with
|[]=>exact H.elim
|[p]=>obtain⟨u,r,rfl,h1,rfl⟩:=hv;exact⟨p,u,rfl,h1,H⟩
|_::_::_=>exact H.elim
theorem qC{α:Type}{f:PV->PV->Option α}{as:List PV}{vs:List Value}{K:α->Prop}(hv:Vs T G h as vs)(H:aL (vh f as) K):∃p q u w,vs=[u,w]∧V T G h p u∧V T G h q w∧aL (f p q) K:=by
 match as with
|[]=>exact H.elim
|[p]=>exact H.elim
|[p,q]=>obtain⟨u,_,rfl,h1,w,_,rfl,h2,rfl⟩:=hv;exact⟨p,q,u,w,rfl,h1,h2,H⟩
|_::_::_::_=>exact H.elim
def Mg(f:Î)(id:String):Prop:=∀{T:Tp}{G:Gh}{s:Shared}{st:St}{A:Around}{n:Nat}{p:PV}{v:Value}{as:List PV}{vs:List Value}{K:PV×St->Prop},fF n A->aG T G s st->V T G s.heap p v->Vs T G s.heap as vs->aL (f st p as) K->W T A (call (.builtin id) (v::vs)) (PK T G s K) s
theorem yB:Mg Zm "list.append":=fun{T G s st A n p v as vs K} rm R hv hs H=>by
 obtain⟨l,hl,H⟩:=(ab H).get;obtain⟨x,u,rfl,hx,H⟩:=cF hs H;obtain⟨hz,H⟩:=aF H;obtain⟨a,t,e,rfl,Tu⟩:=R.turn (ab H) hv;obtain⟨items,m,h1,h2,h3,go⟩:=Tu.lst (eH hl);obtain⟨st',hK,R',X'⟩:=go (fun xs=>xs.push u) s.toks (bW (az hz).1) (by rw[YX];exact h3.append (bA hx iC)) fun hg n=>by rw[jc,n];exact(Bool.and_true _).trans (dv (az hz).2 hg)
 exact call_meets F.slot_list_append ⟨_,h1,rfl⟩ F.entry_list_append (F.args_list_append_2 _ _) (list_append a items m u (ay (by exact(h3.size)▸h2))) ⟨h1,_,hK,G,R',X',gP⟩
theorem yN:Mg Z9 "list.extend":=fun{T G s st A n p v as vs K} rm R hv hs H=>by
 obtain⟨l,hl,H⟩:=(ab H).get;obtain⟨x,u,rfl,hx,H⟩:=cF hs H;obtain⟨r,⟨b,rfl,hb⟩,H⟩:=Ah R hx (ab H);obtain⟨hz,H⟩:=aF H;obtain⟨a,t,e,rfl,Tu⟩:=R.turn (ab H) hv;obtain⟨items,m,h1,h2,h3,go⟩:=Tu.lst (eH hl);have z:=bW (az hz).1;rw[Xl,<-h3.size] at z;have fin:∀(items2:Array Value) (k:Nat) (mk:Array Value->Nat->Obj),s.heap.get? b=some (mk items2 k)->Vs T G s.heap r items2.toList->items.size+items2.size≤4000000∧(¬(!items.isEmpty&&Builtin.List.listTooLong (items.size+items2.size))=true)∧PK T G s K .none {s with heap:=s.heap.update a (Obj.mapSeq fun xs=>xs++items2)}:=fun items2 k mk hb Z0=>by
  have z2:items.size+items2.size≤4000000:=by rw[Z0.size];exact z
  refine⟨z2,?_,?_⟩
  ·have:Builtin.List.listTooLong (items.size+items2.size)=false:=Yd (Yn.mpr (ay z2));rw[this,Bool.and_false];exact Yy
  ·obtain⟨st',hK,R',X'⟩:=go (fun xs=>xs++items2) s.toks (bW (az hz).1) (h3.append' Z0) fun hg n=>by
    rw[jc,n];exact dv (x:=.lst r) (az hz).2 hg
   exact⟨_,hK,G,R',X',gP⟩
 rcases hb with⟨items2,k,hb,_,Z0⟩|⟨items2,k,hb,_,Z0⟩
 ·obtain⟨z2,z3,q⟩:=fin items2 k bD hb Z0;exact call_meets F.slot_list_extend ⟨_,h1,rfl⟩ F.entry_list_extend (F.args_list_extend_2 _ _) (AutoSeq1.list_extend_list_list_0 a items m b items2 k z3 (ay (Xk (XH _ _) z)) (XX (ay z2))) ⟨h1,hb,q⟩
 ·obtain⟨z2,z3,q⟩:=fin items2 k cT hb Z0;exact call_meets F.slot_list_extend ⟨_,h1,rfl⟩ F.entry_list_extend (F.args_list_extend_2 _ _) (AutoSeq1.list_extend_list_tuple_0 a items m b items2 k z3 (ay (Xk (XH _ _) z)) (XX (ay z2))) ⟨h1,hb,q⟩
theorem Vs.sub{l:List PV}{vs:List Value}(x:Vs T G h l vs)(f:∀{α:Type},List α->List α)(j:Nat->Option Nat)(hl:∀{α β:Type}(a:List α) (b:List β),a.length=b.length->(f a).length=(f b).length)(hf:∀{α:Type}(a:List α) i,(f a)[i]?=(j i).bind fun k=>a[k]?):Vs T G h (f l) (f vs):=by
 refine .of_get (hl _ _ x.length) fun i p v e1 e2=>?_
 rw[hf] at e1 e2;cases hj:j i with
|none=>rw[hj] at e1;injection e1
|some k=>rw[hj] at e1 e2;obtain⟨u,e3,hv⟩:=x.get (show l[k]?=some p from e1);exact Xn (e3.symm.trans e2)▸hv
theorem Vs.take{l:List PV}{vs:List Value}(x:Vs T G h l vs)(n:Nat):Vs T G h (l.take n) (vs.take n):=
 x.sub (fun l=>l.take n) (fun i=>if i<n then some i else none) (fun a b e=>by rw[Yr,Yr,e]) fun a i=>by rw[List.getElem?_take];by_cases h:i<n<;>simp[h]
theorem Vs.drop{l:List PV}{vs:List Value}(x:Vs T G h l vs)(n:Nat):Vs T G h (l.drop n) (vs.drop n):=
 x.sub (fun l=>l.drop n) (fun i=>some (n+i)) (fun a b e=>by rw[YN,YN,e]) fun a i=>List.getElem?_drop
theorem LC:Mg Ė "list.pop":=fun{T G s st A n p v as vs K} rm R hv hs H=>by
 match as,hs,H with
|_::_,_,H=>exact H.elim
|[],hs,H=>
  obtain rfl:=hs;obtain⟨l,hl,H⟩:=(ab H).get;obtain⟨x,hx,H⟩:=(ab H).get;obtain⟨a,t,e,rfl,Tu⟩:=R.turn (ab H) hv;obtain⟨items,m,h1,h2,h3,go⟩:=Tu.lst (eH hl);have e1:=h3.size;rw[List.getLast?_eq_getElem?] at hx;obtain⟨u,hu,þ⟩:=h3.get hx;rw[<-e1,Yk] at hu;have ÿ:items.size-1<items.size:=(Array.getElem?_eq_some_iff.mp hu).1;have hp:(items.eraseIdxIfInBounds (items.size-1)).toList=items.toList.take (l.length-1):=by unfold Array.eraseIdxIfInBounds;rw[dif_pos ÿ,Array.toList_eraseIdx,List.eraseIdx_eq_dropLast (by rw[Yl];exact YB (XQ (Nat.zero_le _) ÿ)),List.dropLast_eq_take,h3.length]
  obtain⟨st',hK,R',X'⟩:=go (fun xs=>xs.eraseIdxIfInBounds (items.size-1)) s.toks (by rw[List.length_dropLast];exact Xk (YM _ _) h2) (by rw[hp,List.dropLast_eq_take];exact h3.take _) fun hg n=>cD.mpr fun w hw=>cD.mp n w (List.dropLast_subset _ hw)
  exact call_meets F.slot_list_pop ⟨_,h1,rfl⟩ F.entry_list_pop (F.args_list_pop_1 _) (MeetsSeq.list_pop_last a items m u hu (ay (Xk (XY e1) (Xk h2 (by decide))))) ⟨h1,_,hK,G,R',X',þ.lat X'.lat⟩
theorem yO:Mg À "list.insert":=fun{T G s st A n p v as vs K} rm R hv hs H=>by
 obtain⟨l,hl,H⟩:=(ab H).get;obtain⟨i,x,ui,u,rfl,hi,hx,H⟩:=qC hs H;obtain⟨i,t,rfl,H⟩:=bG hi (ab H);obtain⟨hz,H⟩:=aF H;obtain⟨h0,h1⟩:=Ye (az (az hz).1).1;have Ŵ:=bW (az (az hz).1).2;obtain⟨a,tg,e,rfl,Tu⟩:=R.turn (ab H) hv;obtain⟨items,m,g1,g2,g3,go⟩:=Tu.lst (eH hl);have e:=g3.size;have hk:min i.toNat items.size=i.toNat:=Nat.min_eq_left (Xk (Int.toNat_le.mpr h1) (XY e.symm));obtain⟨st',hK,R',X'⟩:=go (fun xs=>have k:=if i<0 then(i+(xs.size:Int)).toNat else min i.toNat xs.size;(xs.extract 0 k).push u++xs.extract k) s.toks (by
   rw[Xl,XG,Yr,YN];rw[XG] at Ŵ;rw[Nat.min_eq_left (Int.toNat_le.mpr h1),<-XS,Nat.add_sub_cancel' (Int.toNat_le.mpr h1)];exact Ŵ) (by
  dsimp only;rw[Yg (YC.mpr h0),hk];have:((items.extract 0 i.toNat).push u++items.extract i.toNat).toList=items.toList.take i.toNat++u::items.toList.drop i.toNat:=by rw[YY,YX,Array.toList_extract,Array.toList_extract,Xr];simp;exact List.take_of_length_le (by simp)
  rw[this];exact(g3.take _).append (bA hx (g3.drop _))) fun hg n=>by
  refine cD.mpr fun w hw=>?_
  rcases Ym.mp hw with hw|hw
  ·exact cD.mp n w (List.take_subset _ _ hw)
  ·rcases Xo.mp hw with rfl|hw
   ·exact dv (az hz).2 hg
   ·exact cD.mp n w (List.drop_subset _ _ hw)
 exact call_meets F.slot_list_insert ⟨_,g1,rfl⟩ F.entry_list_insert (F.args_list_insert_3 _ _ _) (AutoSeq1.list_insert_list_int_val_1 a items m i t u (by simp[Builtin.List.listFitsIndex];exact⟨Yj (by decide) h0,Int.lt_of_le_of_lt h1 (Yo.mpr (XQ g2 (by decide)))⟩) (by rw[ma];rw[XG] at Ŵ;exact Xk (XY e) (Xk g2 (by decide)))) ⟨g1,_,hK,G,R',X',gP⟩
theorem Lu:Mg MV "dict.get":=fun{T G s st A n p v as vs K} rm R hv hs H=>by
 obtain⟨l,hl,H⟩:=Kc R hv (ab H);have two:∀{k d:PV}{key:Value},V T G s.heap k key->aL (i0 l st k d) K->∃r e,K (r.getD d,st)∧v=.ref e∧w5 T G s A e key r:=fun hk H=>by obtain⟨ik,H⟩:=aF H;exact Cv rm hl ik hk (ab H)
 match as,hs,H with
|[],hs,H=>exact H.elim
|[k],hs,H=>obtain⟨u,_,rfl,hk,rfl⟩:=hs;obtain⟨r,e,hK,rfl,As⟩:=two hk H;exact As.Ų _ fun v tk hv=>⟨_,hK,(PG.here tk hv).pe R⟩
|[k,d],hs,H=>obtain⟨u,_,rfl,hk,w,_,rfl,hd,rfl⟩:=hs;obtain⟨r,e,hK,rfl,As⟩:=two hk H;exact As.ų _ _ _ hd fun v tk hv=>⟨_,hK,(PG.here tk hv).pe R⟩
|_::_::_::_,hs,H=>exact H.elim
end
section
open PySem.W
variable{T:Tp}{G G':Gh}{s:Shared}{st st':St}{A:Around}{h h':Heap}{K:PV×St->Prop}
theorem W.pk{p:PV}{m:Sem Value}(R:aG T G s st)(k:K (p,st))(x:W T A m (PG T G s p) s):W T A m (PK T G s K) s:=x.mono fun y y z=>z.pk R k
theorem W.nk{o:Zk}{d:DK}{m:Sem Value}(R:aG T G s st)(H:aL (Mine.Internal.alloc st d o) K)(x:W T A m (NO T G s o) s):W T A m (PK T G s K) s:=x.mono fun y y z=>z.pk R H
theorem sH{α:Type}(l:List α):∀n,iv l n=(List.replicate n l).flatten:=by
 intro n;induction n with
|zero=>exact rfl
|succ n ih=>rw[iv,ih,List.replicate_succ,List.flatten_cons]
theorem pF{α:Type}(l:List α)(n:Nat):(iv l n).length=n*l.length:=by rw[sH,List.length_flatten,List.map_replicate,List.sum_replicate_nat]
theorem Vs.times{l:List PV}{vs:List Value}(x:Vs T G h l vs):∀n,Vs T G h (iv l n) ((List.replicate n vs).flatten):=by
 intro n;induction n with
|zero=>exact rfl
|succ n ih=>rw[List.replicate_succ,List.flatten_cons];exact x.append (ih)
theorem vx{items:Array Value}{l:List PV}{k:Nat}{a:Addr}{n:Int}{t:Tok}(ho:s.heap.get? a=some (bD items k))(s1:Vs T G s.heap l items.toList)(h0:0≤n)(h1:n≤10000)(h2:l.length≤1):
  W T A (binaryOp .Mult (.ref a) (.int n t)) (NL T G s (iv l n.toNat)) s:=by
 let' hn:n.toNat≤10000:=Int.toNat_le.mpr h1;let' hsz:items.size*n.toNat≤10000:=Xk (Nat.mul_le_mul_right _ (by rw[s1.size];exact h2)) (by rw[Nat.one_mul];exact hn);refine wpAny_binaryOp_repeat_ref (T:="list") (U:="int") (by decide) ⟨_,ho,rfl⟩ (fun s'=>typeIs_int s' n t) noFill_list_mul F.fills_int_mul F.slot_int_rmul repeat_list F.slot_int_index.lookup
  (call_meets F.slot_int_rmul (typeIs_int s n t) F.entry_int_rmul (F.args_int_rmul_2 _ _) (lm_int_rmul_list_any n t a items k none #[])
   ⟨ho,rfl,⟨_,ho,rfl⟩,call_meets F.slot_list_mul ⟨_,ho,rfl⟩ F.entry_list_mul (F.args_list_mul_2 _ _)
    (lm_list_mul_any a items k none #[] n t (by simp[Builtin.List.listFitsIndex];exact⟨Yj (by decide) h0,Int.lt_of_le_of_lt h1 (by decide)⟩) (Yn.mpr (Xk hsz (by decide))) (by simp[Builtin.List.listTooLong,sizeLine];exact Xk hsz (by decide)))
    ⟨ho,?_⟩⟩)
 rw[PyProof.Rows.listMul_foldl_if];exact NL.push (by rw[pF];exact Xk (YV hn h2) (by decide)) (by simpa using s1.times n.toNat)
theorem vI(R:aG T G s st){l r:List PV}{u v:Value}(hu:V T G s.heap (.tup l) u)(hv:V T G s.heap (.tup r) v)(hz:aq (l++r)=true):W T A (binaryOp .Add u v) (PG T G s (.tup (l++r))) s:=by
 obtain⟨a,rfl,o1,items,n,h1,z1,s1⟩:=id hu;obtain⟨b,rfl,o2,items2,n2,h2,z2,s2⟩:=id hv;have z:=bW hz;have nil:∀{l:List PV}{a:Array Value},Vs T G s.heap l a.toList->a.isEmpty=true->l=[]:=fun x c=>Yw.mp (x.size.symm.trans (Array.isEmpty_iff_size_eq_zero.mp c))
 by_cases c1:items.isEmpty=true
 ·refine concat_meets ⟨_,h1,rfl⟩ ⟨_,h2,rfl⟩ noFill_tuple_add seq_tuple_add F.slot_tuple_add F.entry_tuple_add (F.args_tuple_add_2 _ _) (AutoSeq1.tuple___add___tuple_tuple_0 a items n b items2 n2 c1) ⟨h1,h2,?_⟩;obtain rfl:=nil s1 c1;exact .Zq hv
 ·by_cases c2:items2.isEmpty=true
  ·refine concat_meets ⟨_,h1,rfl⟩ ⟨_,h2,rfl⟩ noFill_tuple_add seq_tuple_add F.slot_tuple_add F.entry_tuple_add (F.args_tuple_add_2 _ _) (AutoSeq1.tuple___add___tuple_tuple_1 a items n b items2 n2 c1 c2) ⟨h1,h2,?_⟩;obtain rfl:=nil s2 c2;rw[Xu];exact .Zq hu
  ·exact P.add_tuple (items:=items) (items2:=items2) h1 h2 c1 c2 ⟨_,s.toks,rfl,bt _ _,iL R z (s1.append' s2)⟩ (by rw[s1.size,s2.size];exact ay (Xl▸z))
theorem FM{n:Nat}(rm:fF n A)(R:aG T G s st){d:DK}{o:Operator}{a b:PV}{u w:Value}(ha:V T G s.heap a u)(hb:V T G s.heap b w)(H:aL (fP st d o a b) K):W T A (binaryOp o u w) (PK T G s K) s:=by
 have lst:aL ((gz st a).bind fun x=>(HA st o x b).bind fun l=>Mine.Internal.alloc st d (.lst l)) K->W T A (binaryOp o u w) (PK T G s K) s:=fun H=>by
  obtain⟨l,⟨c,rfl,items,k,h1,z1,s1⟩,H⟩:=ly R ha (ab H);let' H:=ab H;cases o with
  |Add=>obtain⟨r,⟨c2,rfl,items2,k2,h2,z2,s2⟩,H⟩:=ly R hb (ab H);obtain⟨hz,H⟩:=aF H;let' z:=bW hz;exact W.nk R H (P.add_list h1 h2 (NL.push z (s1.append' s2)) (by rw[s1.size,s2.size];exact ay (Xl▸z)))
  |Mult=>obtain⟨i,t,rfl,H⟩:=bG hb (ab H);obtain⟨hz,H⟩:=aF H;obtain⟨z0,z1,z2⟩:=Ye hz;exact W.nk R H (vx h1 s1 z0 z1 z2)
  |_=>exact H.elim
 cases a with
|int i=>obtain⟨t,rfl⟩:=ha;obtain⟨j,t',rfl,H⟩:=bG hb (ab H);obtain⟨c,H,w⟩:=Dm (ab H);exact w.pk R H
|tup x=>
  let' H:=ab H;cases o with
  |Add=>obtain⟨y,hy,H⟩:=Aa hb (ab H);obtain⟨hz,H⟩:=aF H;exact(vI R ha hy hz).pk R H
  |_=>exact H.elim
|bytes x=>
  obtain⟨z1,t,rfl⟩:=id ha;let' H:=ab H;cases o with
  |Add=>obtain⟨y,⟨z2,t2,rfl⟩,H⟩:=Ao hb (ab H);obtain⟨hz,H⟩:=aF H;let' z:=bW hz;refine W.pk R H (KBy.add_bytes (ay (by rw[List.size_toArray,List.size_toArray,<-Xl];exact z)) fun t' k=>?_);exact(show x.toArray++y.toArray=(x++y).toArray by simp)▸.here _ (mw z)
  |Mult=>obtain⟨i,t',rfl,H⟩:=bG hb (ab H);obtain⟨hz,H⟩:=aF H;obtain⟨g1,g2,g3⟩:=Ye (az hz).1;refine W.pk R H (bytes_mul_any (fun e=>by have:=(az hz).2;rw[e] at this;injection this) (Yj (by decide) g1) (Yj g2 (by decide)) g3 fun t' k=>?_);rw[<-sH];exact .here _ (mw (by rw[pF];exact Xk (YV (show i.toNat≤1000 by exact Int.toNat_le.mpr g2) g3) (by decide)))
  |_=>exact H.elim
|_=>exact lst H
theorem Af{p:PV}{v:Value}(hv:V T G h p v):(v==.none)=qV p:=by
 cases p with
|none=>obtain rfl:=hv;rfl
|bool=>obtain rfl:=hv;rfl
|int=>obtain⟨t,rfl⟩:=hv;rfl
|str=>obtain⟨t,rfl⟩:=hv;rfl
|bytes=>obtain⟨_,t,rfl⟩:=hv;rfl
|loc=>obtain⟨a,_,rfl⟩:=hv;rfl
|glob=>obtain⟨a,_,rfl⟩:=hv;rfl
|_=>obtain⟨a,rfl,_⟩:=hv;rfl
theorem zD{p:PV}{v:Value}(hv:V T G h p v):handedOut v=pure v:=by
 cases p with
|none=>obtain rfl:=hv;rfl
|bool=>obtain rfl:=hv;rfl
|int=>obtain⟨t,rfl⟩:=hv;rfl
|str=>obtain⟨t,rfl⟩:=hv;rfl
|bytes=>obtain⟨_,t,rfl⟩:=hv;rfl
|loc=>obtain⟨a,_,rfl⟩:=hv;rfl
|glob=>obtain⟨a,_,rfl⟩:=hv;rfl
|_=>obtain⟨a,rfl,_⟩:=hv;rfl
theorem xx{p:PV}{v:Value}(hv:V T G h p v)(e:qV p=true):v=.none:=by cases p<;>first|exact hv|injection e
theorem HI{n:Nat}(rm:fF n A)(R:aG T G s st){a b:PV}{u v:Value}{K:Bool->Prop}(ha:V T G s.heap a u)(hb:V T G s.heap b v)(H:aL (qb st a b) K):
  ∃c,K c∧W T A (compareOp .In u v) (PG T G s (.bool c)) s∧W T A (compareOp .NotIn u v) (PG T G s (.bool (!c))) s:=
 hO R hb (ab H) fun b' pb H=>by
  let' seq:∀l,fD a 8=true->gv l 8=true->A.units+1+min (PyData.depthAll (nK l)) (uu a).depth<9900∧A.units+1+min (uu a).depth (PyData.depthAll (nK l))<9900:=(fun l f1 f2=>by have:=(b7 f1).2;have b:A.units+1+8<9900:=XQ (XJ rm.units 9) (by decide);exact⟨XQ (XA (Xk (Nat.min_le_right _ _) this) _) b,XQ (XA (Xk (Nat.min_le_left _ _) this) _) b⟩)
  cases b' with
  |dct l=>obtain⟨ik,H⟩:=aF H;obtain⟨r,d,H,rfl,As⟩:=Cv rm pb ik ha (ab H);exact⟨_,H,As.isin _ fun tk=>.here _ dh,As.į _ fun tk=>.here _ dh⟩
  |tup l=>obtain⟨hf,H⟩:=aF H;obtain⟨as,ra⟩:=ha.reads (az hf).1;obtain⟨c,rfl,_,items,k,e,_,y⟩:=id (pb:V T G s.heap (.tup l) v);obtain⟨bs,rb⟩:=Vs.reads (az hf).2 y;let' hc:=(cZ (az hf).2).1;let' hr:=seq l (az hf).1 (az hf).2;exact⟨_,H,PySem.SeqAt.in_tuple_reads (.tuple e rfl rfl rb) ra hc (b7 (az hf).1).1 (by first|exact hr.1|exact hr.2) (kO (az hf).1 (az hf).2▸.Zq dh),PySem.SeqAt.notIn_tuple_reads (.tuple e rfl rfl rb) ra hc (b7 (az hf).1).1 (by first|exact hr.1|exact hr.2) (kO (az hf).1 (az hf).2▸.Zq dh)⟩
  |lst l=>obtain⟨hf,H⟩:=aF H;obtain⟨as,ra⟩:=ha.reads (az hf).1;obtain⟨c,rfl,items,k,e,_,y⟩:=pb;obtain⟨bs,rb⟩:=Vs.reads (az hf).2 y;let' hc:=(cZ (az hf).2).1;let' hr:=seq l (az hf).1 (az hf).2;exact⟨_,H,PySem.SeqAt.in_list_reads (.list e rfl rfl rb) ra hc (b7 (az hf).1).1 (by first|exact hr.1|exact hr.2) (kO (az hf).1 (az hf).2▸.Zq dh),PySem.SeqAt.notIn_list_reads (.list e rfl rfl rb) ra hc (b7 (az hf).1).1 (by first|exact hr.1|exact hr.2) (kO (az hf).1 (az hf).2▸.Zq dh)⟩
  |_=>exact H.elim
theorem mO{a b:PV}{u v:Value}{f:Int->Int->Bool}{K:Bool->Prop}(ha:V T G h a u)(hb:V T G h b v)(H:aL (qI f a b) K):∃i j t t',u=.int i t∧v=.int j t'∧K (f i j):=by obtain⟨i,t,rfl,H⟩:=bG ha (ab H);obtain⟨j,t',rfl,H⟩:=bG hb (ab H);exact⟨i,j,t,t',rfl,rfl,H⟩
theorem sq{n:Nat}(rm:fF n A)(R:aG T G s st){o:CmpOp}{a b:PV}{u v:Value}{K:Bool->Prop}(ha:V T G s.heap a u)(hb:V T G s.heap b v)(H:aL (aM st o a b) K):
  ∃c,K c∧W T A (compareOp o u v) (PG T G s (.bool c)) s:=by
 let' bb:∀{b:Bool},PG T G s (.bool b) (.bool b) s:=.Zq dh;cases o with
|Eq=>obtain⟨c,k,w,_⟩:=HP rm R ha hb H;exact⟨c,k,w⟩
|NotEq=>obtain⟨c,k,_,w⟩:=HP rm R ha hb (ab H);exact⟨_,k,w⟩
|Lt=>obtain⟨i,j,t,t',rfl,rfl,k⟩:=mO ha hb H;exact⟨_,k,P.lt_int bb⟩
|LtE=>obtain⟨i,j,t,t',rfl,rfl,k⟩:=mO ha hb H;exact⟨_,k,P.le_int bb⟩
|Gt=>obtain⟨i,j,t,t',rfl,rfl,k⟩:=mO ha hb H;exact⟨_,k,P.gt_int bb⟩
|GtE=>obtain⟨i,j,t,t',rfl,rfl,k⟩:=mO ha hb H;exact⟨_,k,P.ge_int bb⟩
|Is=>obtain⟨e,k⟩:=aF H;obtain rfl:=xx hb e;exact⟨_,k,is_none (Af ha▸bb)⟩
|IsNot=>obtain⟨e,k⟩:=aF H;obtain rfl:=xx hb e;exact⟨_,k,isNot_none (Af ha▸bb)⟩
|In=>obtain⟨c,k,w,_⟩:=HI rm R ha hb H;exact⟨c,k,w⟩
|NotIn=>obtain⟨c,k,_,w⟩:=HI rm R ha hb (ab H);exact⟨_,k,w⟩
theorem pP{α:Type}{l:List α}{i:Int}{x:α}(h:cC l i=some x):(0≤i∧i<l.length∧l[i.toNat]?=some x)∨(i<0∧ -(l.length:Int)≤i∧l[(i+l.length).toNat]?=some x):=by
 unfold cC at h;split at h
 ·rename_i h0;exact .inl ⟨h0,Int.lt_of_toNat_lt (XO.mp h).1,h⟩
 ·split at h
  ·rename_i h0 h1;rw[Zf] at h;exact .inr ⟨Int.not_le.mp h0,by have:=Int.add_le_add_left h1 (-(l.length:Int));rwa [Int.add_zero,Int.neg_add_cancel_left] at this,h⟩
  ·injection h
theorem xc{i:Int}{k:Nat}(h:i<k)(z:k≤4000000):i<2^63:=Int.lt_of_lt_of_le h (Yj (Yp.mpr z) (by decide))
theorem w8{i:Int}{k:Nat}(h: -(k:Int)≤i)(z:k≤4000000): -2^63≤i:=Yj (Yj (by decide) (Int.neg_le_neg (Yp.mpr z))) h
theorem Aw{i:Int}{k:Nat}(h0:0≤i)(h1:i<k):seqIndex? i k=some i.toNat:=by unfold seqIndex?;dsimp only;rw[Yg (YC.mpr h0),Yc h0,Yc h1];rfl
theorem DB{i:Int}{k:Nat}(h0:i<0)(h1: -(k:Int)≤i):seqIndex? i k=some (i+k).toNat:=by unfold seqIndex?;dsimp only;rw[Yh h0,Yc (show 0≤i+k from Int.add_left_neg k▸Int.add_le_add_right h1 k),Yc (show i+k<k from Int.lt_of_lt_of_le (Int.add_lt_add_right h0 _) (Int.le_of_eq (Int.zero_add _)))];rfl
theorem tA{l:List PV}{x:PV}{i:Int}{t:Tok}{v:Value}(hv:gp T G s.heap l v)(hx:cC l i=some x):W T A (getItem v (.int i t)) (PG T G s x) s:=by
 obtain⟨a,rfl,h⟩:=hv;rcases h with⟨items,n,h,z,hs⟩|⟨items,n,h,z,hs⟩<;>rw[<-hs.size] at z<;>rcases pP hx with⟨h0,h1,hx⟩|⟨h0,h1,hx⟩<;>obtain⟨u,hu,þ⟩:=hs.get hx<;>rw[Yk] at hu<;>rw[<-hs.size] at h1
 ·exact wpAny_getItem_list ⟨_,h,rfl,_,rfl⟩ h0 (xc h1 z) hu (.Zq þ)
 ·rw[<-hs.size] at hu;exact wpAny_getItem_list_neg ⟨_,h,rfl,_,rfl⟩ h0 h1 (w8 h1 z) hu (.Zq þ)
 ·exact P.getItem_tuple (items:=items) h (Yj (by decide) h0) (xc h1 z) (Aw h0 h1) hu (.Zq þ)
 ·rw[<-hs.size] at hu;exact P.getItem_tuple (items:=items) h (w8 h1 z) (Int.lt_trans h0 (by decide)) (DB h0 h1) hu (.Zq þ)
def mn(t:String):Prop:=∃id,typeLookup (.type t) "__getitem__"=pure (some (.builtin id))
theorem yl:mn "bytes":=⟨_,FB.slot_bytes_getitem.lookup⟩
theorem ng:mn "list":=⟨_,slot_list_getitem.lookup⟩
theorem pR:mn "tuple":=⟨_,PyProof.Rows.slot_tuple_getitem.lookup⟩
theorem Ak:mn "dict":=⟨_,slot_dict_getitem.lookup⟩
theorem gp.ty{l:List PV}{v:Value}(x:gp T G s.heap l v):∃t,mn t∧s.TypeIs v t:=by
 obtain⟨a,rfl,⟨_,_,h,_⟩|⟨_,_,h,_⟩⟩:=x
 ·exact⟨_,ng,_,h,rfl⟩
 ·exact⟨_,pR,_,h,rfl⟩
theorem FE{n:Nat}(rm:fF n A)(R:aG T G s st){o i:PV}{u w:Value}{K:PV->Prop}(ho:V T G s.heap o u)(hi:V T G s.heap i w)(H:aL (item st o i) K):
  (∃t,mn t∧s.TypeIs u t)∧∃x,K x∧W T A (getItem u w) (PG T G s x) s:=by
 have obj:aL ((gN st o).bind fun w=>match w with
  |.lst l=>(aZ i).bind fun i=>cC l i
  |.dct l=>if cY i then(aC l i).bind fun r=>r else .none
  |_=>.none) K->(∃t,mn t∧s.TypeIs u t)∧∃x,K x∧W T A (getItem u w) (PG T G s x) s:=fun H=>kf R ho (ab H) fun q hq H=>by
  cases q with
  |lst l=>obtain⟨i,t,rfl,H⟩:=bG hi (ab H);obtain⟨x,e,k⟩:=H.get;exact⟨gp.ty hq,x,k,tA hq e⟩
  |dct l=>obtain⟨ik,H⟩:=aF H;obtain⟨r,d,H,rfl,As⟩:=Cv rm hq ik hi (ab H);obtain⟨x,rfl,k⟩:=H.get;obtain⟨d',e,_,_,h,_⟩:=hq;obtain rfl:=Value.ref.inj e;exact⟨⟨_,Ak,_,h,rfl⟩,x,k,As.item _ x rfl fun v tk hv=>.here tk hv⟩
  |_=>exact H.elim
 cases o with
|bytes b=>
  obtain⟨z,t',rfl⟩:=ho;obtain⟨i,t,rfl,H⟩:=bG hi (ab H);obtain⟨h0,H⟩:=aF H;obtain⟨c,hc,k⟩:=(ab H).get;refine⟨⟨_,yl,rfl⟩,_,k,?_⟩;rcases pP hc with⟨_,h1,hx⟩|⟨h0',_⟩
  ·refine getItem_bytes (l:=b) (Xk z (by decide)) h0 h1 ?_;rw[Yz,hx];exact .here _ (cM _ _ _)
  ·exact absurd h0 (Int.not_le.mpr h0')
|_=>exact obj H
theorem xr{α:Type}(l:List α)(a b:Option Int):(gI l a b).length≤l.length:=by unfold gI;rw[Yr,YN];exact Xk (Nat.min_le_right _ _) (YM _ _)
theorem Vs.cut{l:List PV}{vs:List Value}(x:Vs T G h l vs)(a b:Option Int):Vs T G h (gI l a b) (Mine.Internal.gI vs a b):=by unfold Mine.Internal.gI;exact(x.length)▸(x.drop _).take _
theorem uZ(n:Nat)(x:Int):(if x<0 then max (x+n) 0 else min x n)=(fG n x:Int):=by
 unfold fG;by_cases h:x<0
 ·rw[Yh h,Yh h];exact(Int.ofNat_toNat _).symm
 ·rw[Yg h,Yg h,Lean.Omega.Int.ofNat_min,Int.toNat_of_nonneg (YC.mp h)]
theorem BQ(n:Nat)(x:Int):max 0 (min (if x<0 then x+n else x) n)=(fG n x:Int):=by
 rw[<-uZ];by_cases h:x<0
 ·rw[Yh h,Yh h,Int.max_comm,Int.min_eq_left];exact Yj (Int.add_le_add_right (Int.le_of_lt h) _) (Int.le_of_eq (Int.zero_add _))
 ·rw[Yg h,Yg h];exact Int.max_eq_right (Int.le_min.mpr ⟨YC.mp h,Zd _⟩)
theorem yy(n:Nat)(lo hi:Option Int):sliceBounds lo hi none n=((dI n lo:Int),(jS n hi:Int),1):=by
 refine congr (YH (fun(x y:Int)=>(x,y,(1:Int))) (?_:_=_)) (?_:_=_)
 ·cases lo with
  |none=>rfl
  |some a=>exact BQ n a
 ·cases hi with
  |none=>rfl
  |some a=>exact BQ n a
theorem CW(items:Array Value)(lo hi:Option Int):slicePick items lo hi none=(gI items.toList lo hi).toArray:=by rw[kmk_pick_nat items (yy items.size lo hi)];unfold gI;rw[Yl]
theorem ke{v:Value}{k:Option Int}{E:Value->Shared->Prop}{Q:Option Int->Shared->Prop}(hv:IsPart v k)(h:Q k s):wpAny (model T.prog T.w) A (Builtin.Slice.slicePartIndex v) Q E s:=by
 cases hv with
|none=>exact PyProof.Rows.slicePart_none h
|int i t=>exact PyProof.Rows.slicePart_int h
theorem yC(n:Nat)(lo hi:Option Int):Builtin.Slice.sliceAdjust lo hi 1 (n:Int)=((dI n lo:Int),(jS n hi:Int)):=by
 refine(?_:(_,_)=(_,_));refine congr (YH Prod.mk (?_:_=_)) (?_:_=_)
 ·cases lo with
  |none=>rfl
  |some a=>exact uZ n a
 ·cases hi with
  |none=>rfl
  |some a=>exact uZ n a
theorem yg(a b:Nat):Builtin.Slice.slicePlaces (a:Int) (b:Int) 1=b-a:=by
 unfold Builtin.Slice.slicePlaces;rw[Yh (by decide),Int.ediv_one];by_cases h:a<b
 ·rw[Yh (Yo.mpr h),Int.sub_add_cancel];exact Int.toNat_sub b a
 ·rw[Yg (fun e=>h (Yo.mp e)),Nat.sub_eq_zero_of_le (Yn.mp h)];rfl
theorem mq{sl:Addr}{n:Nat}{vl vu:Value}{lo hi:Option Int}{E:Value->Shared->Prop}{Q:Int×Int×Nat->Shared->Prop}(hs:s.heap.IsSliceOf sl vl vu .none)(pl:IsPart vl lo)(pu:IsPart vu hi)
  (h:Q ((dI n lo:Int),1,jS n hi-dI n lo) s):wpAny (model T.prog T.w) A (Builtin.Slice.sliceApplied (.ref sl) (pure (n:Int))) Q E s:=by
 obtain⟨os,ı,Ś,ś⟩:=id hs;unfold Builtin.Slice.sliceApplied Builtin.Slice.sliceFields;refine X9 (X9 (wpAny_field ı ś (x:=vl) rfl (X9 (wpAny_field ı ś (x:=vu) rfl (X9 (wpAny_field ı ś (x:=.none) rfl (Yb ?_)))))));refine X9 (PyProof.Rows.slicePart_none ?_);refine(?_:wpAny _ _ (if((1:Int)==0)=true then _ else _) _ _ s);rw[Yg (by decide)];refine X9 (ke pl (X9 (ke pu (X9 (Yb ?_)))));refine(?_:wpAny _ _ (match Builtin.Slice.sliceAdjust lo hi 1 (n:Int) with|(lo,hi)=>pure (lo,(1:Int),Builtin.Slice.slicePlaces lo hi 1)) _ _ s)
 rw[yC];refine(?_:wpAny _ _ (pure ((dI n lo:Int),(1:Int),Builtin.Slice.slicePlaces (dI n lo:Int) (jS n hi:Int) 1)) _ _ s);rw[yg];exact Yb h
theorem Bc(xs:Array Value)(a k:Nat):((List.range k).filterMap fun(j:Nat)=>xs[((a:Int)+(j:Int)*1).toNat]?)=(xs.toList.drop a).take k:=by
 have e:(fun(j:Nat)=>xs[((a:Int)+(j:Int)*1).toNat]?)=fun j=>xs[a+j]? :=by
  funext j
  rw[Int.mul_one];rfl
 rw[e];have:=pick_run xs a k;rw[List.filterMap_map] at this;exact this
theorem rF(R:aG T G s st){l:List PV}{u:Value}(hu:V T G s.heap (.tup l) u){sl:Addr}{vl vu:Value}{lo hi:Option Int}(hs:s.heap.IsSliceOf sl vl vu .none)(pl:IsPart vl lo)(pu:IsPart vu hi):
  W T A (getItem u (.ref sl)) (PG T G s (.tup (gI l lo hi))) s:=by
 obtain⟨a,rfl,o1,items,n,h,z,x⟩:=id hu;let' e:=x.size;let' ht:PyProof.Rows.IsTup s.heap a items:=⟨_,h,rfl,n,rfl⟩
 obtain⟨os,ı,Ś,ś⟩:=id hs;unfold getItem
 try with_reducible refine YD ?_
 first|refine X9 (Yb ?_)|skip
 refine X9 (wpAny_sequenceKey ht.typeIs (by decide) ?_);refine X9 (wpAny_callSpecial?_slot (name:=Str.ofString "__getitem__") ht.typeIs PyProof.Rows.slot_tuple_getitem
  (Zb PyProof.Rows.slot_tuple_getitem ht.typeIs PyProof.Rows.entry_tuple_getitem ?_ (PyProof.Rows.args_tuple_getitem _ _)))
 refine(?_:wpAny _ _ (Builtin.Tuple.tupleItemsOf (.ref a)>>= _) _ _ s);refine X9 (PyProof.Rows.tupleItemsOf_ ht ?_);refine X9 (wpAny_typeOf (⟨os,ı,Ś⟩:s.TypeIs (.ref sl) "slice") ?_);rw[Yh (by decide)];refine X9 (mq (n:=items.size) hs pl pu ?_);refine(?_:wpAny _ _ (if((dI items.size lo:Int)==0&&(1:Int)==1&&(jS items.size hi-dI items.size lo)==items.size)=true then _ else _) _ _ s);by_cases hw:((dI items.size lo:Int)==0&&(1:Int)==1&&(jS items.size hi-dI items.size lo)==items.size)=true
 ·rw[Yh hw];let' h1:=eq_of_beq (az hw).2;have:gI l lo hi=l:=by unfold gI;rw[<-e,h1,(Int.ofNat.inj (eq_of_beq (az (az hw).1).1):dI items.size lo=0),List.drop_zero,List.take_of_length_le (XY e.symm)]
  refine X9 (m:=Builtin.Tuple.tupleIsExact _) (X9 (wpAny_typeOf ht.typeIs (Yb ?_)));rw[Yh (by decide)];let' q:PG T G s (.tup (gI l lo hi)) (.ref a) s:=this.symm▸.Zq hu
  first
   |exact Yb ⟨_,rfl,Yb q⟩
   |exact X9 (Yb (Yb ⟨_,rfl,Yb q⟩))
   |exact X9 (wpAny_rule (Yb ⟨_,rfl,Yb q⟩))
 ·rw[Yg hw,Bc];let' y:=x.cut lo hi;unfold Mine.Internal.gI at y;rw[x.length] at y;rw[e];let' z2:=Xk (xr l lo hi) z;let' hsz:PySem.sizeOk (.seq ((items.toList.drop (dI l.length lo)).take (jS l.length hi-dI l.length lo)).toArray):=ay (by rw[List.size_toArray,y.length];exact z2);have h9:PG T G s (.tup (gI l lo hi)) (.ref s.heap.objs.size) {s with heap:=s.heap.push {cls:=.type "tuple",data:=.seq ((items.toList.drop (dI l.length lo)).take (jS l.length hi-dI l.length lo)).toArray}}:=
   ⟨_,s.toks,rfl,bt _ _,iL R z2 (by rw[List.toList_toArray];exact y)⟩
  first
   |exact X9 (m:=Builtin.Tuple.tupleExact _) (Za (Yb ⟨_,rfl,Yb h9⟩) hsz)
   |exact X9 (m:=Builtin.Tuple.tupleExact _) (Za (X9 (Yb (Yb ⟨_,rfl,Yb h9⟩))) hsz)
   |exact X9 (X9 (m:=Builtin.Tuple.tupleExact _) (Za (Yb (Yb ⟨_,rfl,Yb h9⟩)) hsz))
   |exact X9 (X9 (m:=Builtin.Tuple.tupleExact _) (Za (Yb ⟨_,rfl,Yb h9⟩) hsz))
theorem aG.Â(R:aG T G s st){p:PV}{l:List PV}{v:Value}(h:cN st p=some l)(hp:∀l,p≠.tup l)(hv:V T G s.heap p v):lX T G s.heap l v:=by
 let' h:=eH h;have key:∀{x:Option Ent},x.map (·.o)=some (.lst l)->x.map (fun e=>dR e.o)=some (.lst l):=fun{x} h=>by obtain⟨e,rfl,e2⟩:=XN.mp h;rw[Option.map_some,e2];rfl
 cases p with
|lst l'=>injection h with h;injection h with h;exact h▸R.plain hv (q:=.lst l') rfl
|tup l'=>exact absurd rfl (hp _)
|loc i=>exact R.plain hv (q:=.lst l) (key h)
|glob i=>exact R.plain hv (q:=.lst l) (key h)
|_=>cases h
theorem yc(R:aG T G s st){d:DK}{o:PV}{u:Value}{sl:Addr}{vl vu:Value}{lo hi:Option Int}(ho:V T G s.heap o u)(hs:s.heap.IsSliceOf sl vl vu .none)(pl:IsPart vl lo)(pu:IsPart vu hi)(H:aL (BK st d o lo hi) K):
  (∃t,mn t∧s.TypeIs u t)∧W T A (getItem u (.ref sl)) (PK T G s K) s:=by
 have lst:(∀l,o≠.tup l)->aL ((cN st o).bind fun l=>Mine.Internal.alloc st d (.lst (gI l lo hi))) K->(∃t,mn t∧s.TypeIs u t)∧W T A (getItem u (.ref sl)) (PK T G s K) s:=fun hn H=>by obtain⟨l,hl,H⟩:=(ab H).get;obtain⟨a,rfl,items,n,h,z,x⟩:=R.Â hl hn ho;refine⟨⟨_,ng,_,h,rfl⟩,W.nk R H (wpAny_getItem_list_slice ⟨_,h,rfl,_,rfl⟩ hs pl pu .none (fun h=>by injection h) ?_ (ay (by exact(x.size)▸z)))⟩;rw[CW];exact NL.push (Xk (xr _ _ _) z) (by exact(List.toList_toArray)▸x.cut lo hi)
 cases o with
|tup l=>exact⟨gp.ty (R.view ho rfl:gp T G s.heap l u),(rF R ho hs pl pu).pk R H⟩
|_=>exact lst nofun H
theorem Vs.rev{l:List PV}:∀{vs:List Value},Vs T G h l vs->Vs T G h l.reverse vs.reverse:=by
 induction l with
|nil=>intro vs x;obtain rfl:=x;exact rfl
|cons p l ih=>intro vs x;obtain⟨v,r,rfl,e1,e2⟩:=x;rw[List.reverse_cons,List.reverse_cons];exact(ih e2).append (bA e1 iC)
theorem GJ(R:aG T G s st){d:DK}{o:PV}{u:Value}{sl:Addr}{t:Tok}(ho:V T G s.heap o u)(hs:s.heap.IsSliceOf sl .none .none (.int (-1) t))(H:aL (Pa st d o) K):
  (∃t,mn t∧s.TypeIs u t)∧W T A (getItem u (.ref sl)) (PK T G s K) s:=by
 have lst:(∀l,o≠.tup l)->aL ((cN st o).bind fun l=>Mine.Internal.alloc st d (.lst l.reverse)) K->(∃t,mn t∧s.TypeIs u t)∧W T A (getItem u (.ref sl)) (PK T G s K) s:=fun hn H=>by obtain⟨l,hl,H⟩:=(ab H).get;obtain⟨a,rfl,items,n,h,z,x⟩:=R.Â hl hn ho;refine⟨⟨_,ng,_,h,rfl⟩,W.nk R H (wpAny_getItem_list_slice ⟨_,h,rfl,_,rfl⟩ hs .none .none (.int _ _) (fun e=>by cases e) ?_ (ay (by rw[x.size];exact z)))⟩;rw[krv_pick];exact NL.push (by rw[YO];exact z) (by rw[List.toList_toArray];exact x.rev)
 cases o with
|tup l=>exact H.elim
|_=>exact lst nofun H
end
section
open PySem.W PyProof.Rows
section
variable{prog:Program}{w:World}{A:Around}{E:Value->Shared->Prop}{s:Shared}
theorem xi{d:Addr}{es:Array DictEntry}{ep:Nat}{Q:Value->Shared->Prop}(hd:(d==sysModules)=false)(ho:s.heap.get? d=some (gf es ep))
  (hQ:Q (.ref s.heap.objs.size) {s with heap:=s.heap.push {cls:=.type "dict_keyiterator",data:=.fields #[.ref d,.int 0 0,.int es.size 0,.int ep 0]}}):
  wpAny (model prog w) A (pyIter (.ref d)) Q E s:=by
 let' hT:s.TypeIs (.ref d) "dict":=⟨_,ho,rfl⟩
 refine wpAny_pyIter_slot hT PySem.F.slot_dict_iter (Zb PySem.F.slot_dict_iter hT PySem.F.entry_dict_iter ?_ (PySem.F.args_dict_iter_1 _));unfold Builtin.«dict.__iter__»;refine X9 ?_;unfold Builtin.Dict.dictSlotNone;refine X9 (wpAny_notOrdered_dict hT ?_);refine(?_:wpAny _ _ (pure (Value.ref d)) _ _ s);refine Yb ?_;refine(?_:wpAny _ _ (Builtin.Dict.showsAll d>>= _) _ _ s);unfold Builtin.Dict.showsAll;rw[Yg (by exact(hd)▸Yy)];refine X9 (Yb ?_);refine X9 (wpAny_dictEntries ho rfl ?_);refine X9 (wpAny_dictEpoch ho rfl ?_)
 refine X9 (Za (Yb ⟨_,rfl,"dict_keyiterator",_,⟨_,XF _ rfl,rfl⟩,PySem.F.slot_dict_keyiterator_next.lookup,?_⟩))
 simpa [rawInt] using hQ
theorem Fj{it d:Addr}{i ep:Nat}{es:Array DictEntry}{e:DictEntry}{Q:Option Value->Shared->Prop}(hit:s.heap.IsKeyIter it d i es.size ep)
  (Ĵ:s.heap.get? d=some (gf es ep)) (hx:es[i]?=some e)
  (hQ:∀h',h'.IsKeyIter it d (i+1) es.size ep->Heap.SameBut it s.heap h'->Q (some e.key) {s with heap:=h'}):
  wpAny (model prog w) A (pyNext (.ref it)) Q E s:=by
 obtain⟨o,ho,hc,hd⟩:=id hit;unfold pyNext;refine X9 (wpAny_attempt (wpAny_callSpecial?_slot (name:=Str.ofString "__next__") hit.typeIs PySem.F.slot_dict_keyiterator_next
  (Zb PySem.F.slot_dict_keyiterator_next hit.typeIs PySem.F.entry_dict_keyiterator_next ?_ (PySem.F.args_dict_keyiterator_next_1 _))))
 refine X9 (Yb ?_);refine X9 ?_;refine X9 ?_
 first|refine X9 (wpAny_typeNameOfWhole_keyiter hit.typeIs (Yb ?_))|refine X9 (wpAny_typeNameOf_keyiter hit.typeIs (Yb ?_))
 refine X9 (wpAny_fieldsOf ho hd ?_);rw[(by decide:Builtin.Dict_items.ownsTuple "dict_keyiterator"=false)];refine(?_:wpAny _ _ (if(Value.ref d==Value.none)=true then _ else _) _ _ s);rw[Yg (show ¬((Value.ref d==Value.none)=true) from Yy)];refine X9 (Yb ?_);refine X9 (wpAny_dictEntries Ĵ rfl ?_);rw[Yg (by simp)];refine X9 (Yb ?_);refine X9 (wpAny_dictEpoch Ĵ rfl ?_);rw[Yg (by simp)];refine Yb ?_;let' ŵ:i<es.size:=(Array.getElem?_eq_some_iff.mp hx).1;let' he:es[i]=e:=(Array.getElem?_eq_some_iff.mp hx).2
 dsimp only;rw[Yg (YC.mpr (Zd i)),Ze,Array.getElem?_eq_getElem ŵ];refine X9 ?_
 first|refine X9 (wpAny_typeNameOfWhole_keyiter hit.typeIs (Yb ?_))|refine X9 (wpAny_typeNameOf_keyiter hit.typeIs (Yb ?_))
 refine X9 (wpAny_isOneOf_keyiter hit.typeIs ?_);refine(?_:wpAny _ _ (setField (.ref it) 1 (rawInt ((i:Int)+1))>>= _) _ _ s);refine X9 (wpAny_setField ho hd (by simp) ?_);have Ù:(s.heap.update it (Obj.mapFields (·.setIfInBounds 1 (rawInt ((i:Int)+1))))).IsKeyIter it d (i+1) es.size ep:=
  ⟨_,Heap.get?_update_self _ ho (Obj.isFreed_of_fields (Obj.data_mapFields hd _)),(Obj.cls_mapFields ..).trans hc,by rw[Obj.data_mapFields hd];simp[rawInt]⟩
 refine X9 (YD ?_);refine X9 (wpAny_isOneOf_keyiter (s:={s with heap:=s.heap.update it (Obj.mapFields (·.setIfInBounds 1 (rawInt ((i:Int)+1))))}) Ù.typeIs ?_);refine(?_:wpAny _ _ (pure es[i].key) _ _ _);exact(he)▸Yb (Yb ⟨_,rfl,Yb (hQ _ Ù (Heap.SameBut.update ..))⟩)
theorem Jd{it d:Addr}{i ep:Nat}{es:Array DictEntry}{Q:Option Value->Shared->Prop}(hh:A.handled=none)(hit:s.heap.IsKeyIter it d i es.size ep)
  (Ĵ:s.heap.get? d=some (gf es ep)) (Ŝ:es.size≤i)
  (hQ:∀h',Heap.ExtBut it s.heap h'->Q none {s with heap:=h'}):wpAny (model prog w) A (pyNext (.ref it)) Q E s:=by
 obtain⟨o,ho,hc,hd⟩:=id hit;unfold pyNext;refine X9 (wpAny_attempt (wpAny_callSpecial?_slot (name:=Str.ofString "__next__") hit.typeIs PySem.F.slot_dict_keyiterator_next
  (Zb PySem.F.slot_dict_keyiterator_next hit.typeIs PySem.F.entry_dict_keyiterator_next ?_ (PySem.F.args_dict_keyiterator_next_1 _))))
 refine X9 (Yb ?_);refine X9 ?_;refine X9 ?_
 first|refine X9 (wpAny_typeNameOfWhole_keyiter hit.typeIs (Yb ?_))|refine X9 (wpAny_typeNameOf_keyiter hit.typeIs (Yb ?_))
 refine X9 (wpAny_fieldsOf ho hd ?_);rw[(by decide:Builtin.Dict_items.ownsTuple "dict_keyiterator"=false)];refine(?_:wpAny _ _ (if(Value.ref d==Value.none)=true then _ else _) _ _ s);rw[Yg (show ¬((Value.ref d==Value.none)=true) from Yy)];refine X9 (Yb ?_);refine X9 (wpAny_dictEntries Ĵ rfl ?_);rw[Yg (by simp)];refine X9 (Yb ?_);refine X9 (wpAny_dictEpoch Ĵ rfl ?_);rw[Yg (by simp)];refine Yb ?_;dsimp only;rw[Yg (YC.mpr (Zd i)),Ze,Array.getElem?_eq_none Ŝ]
 refine X9 ?_
 first|refine X9 (wpAny_typeNameOfWhole_keyiter hit.typeIs (Yb ?_))|refine X9 (wpAny_typeNameOf_keyiter hit.typeIs (Yb ?_))
 refine(?_:wpAny _ _ (setField (.ref it) 0 .none>>= _) _ _ s);refine X9 (wpAny_setField ho hd (by simp) ?_);refine(?_:wpAny _ _ (newExc (.type "StopIteration") []>>= _) _ _ _);refine X9 ?_;delta newExc newTuple;refine X9 (Za ?_ (by size_fits));refine X9 (m:=firstArgMember _ _) (Zc (a:=Value.none) (by first|rfl|(simp only[firstArgMember];rfl)) ?_);refine Za ?_ (by size_fits);delta raiseNew;refine X9 (wpAny_handled ?_);rw[show A.in1.handled=none from hh];refine X9 (Yb (wpAny_throw ?_));refine X9 (wpAny_isInstance (T:="StopIteration") (b:=true) ⟨_,XF _ rfl,rfl⟩ isSubtype_stop ?_)
 exact Yb (hQ _ (((Heap.SameBut.update ..).extBut.push _).push _))
theorem ug(hh:A.handled=none)(I d:Addr)(Á:d≠I)(es:Array DictEntry)(ep:Nat):
  Walks prog w A I [I,d] [I] es.size (fun i v=>∃e,es[i]?=some e∧v=e.key) (fun i h=>h.IsKeyIter I d i es.size ep∧h.get? d=some (gf es ep)) where
 sub:=fun b hb=>by simp at hb;simp[hb]
 frame:=fun z z z st hk=>⟨st.1.at fun o e=>hk I (by simp) o e,hk d (by simp) _ st.2⟩
 item:=fun i s Q E hi st hQ=>by
  refine Fj st.1 st.2 (e:=es[i]) (by simp[hi]) fun h' Ù Ā=>?_
  exact hQ _ h' s.toks ⟨es[i],by simp[hi],rfl⟩ ⟨Ù,(Ā.2 d Á).trans st.2⟩ fun b o hb e=>Ā.extBut b o (fun h=>hb (by simp[h])) e
 done:=fun s Q E st hQ=>Jd hh st.1 st.2 (Xx _) fun h' ã=>hQ h' s.toks fun b o hb e=>ã b o (fun h=>hb (by simp[h])) e
 self:=fun z z z z st hQ=>wpAny_pyIter_keyiter st.1 hQ
theorem Bb{d:Addr}{es:Array DictEntry}{ep:Nat}(hd:(d==sysModules)=false):
  KdlSrc prog w "dict" d d es.size (fun i v=>∃e,es[i]?=some e∧v=e.key) (fun h=>h.get? d=some (gf es ep)) where
 type:=fun z hm=>⟨_,hm,rfl⟩
 there:=fun z hm=>⟨Heap.lt_size hm,Heap.lt_size hm⟩
 keep:=fun z z hm hk=>hk d (.inl rfl) _ hm
 notList:=by decide
 notTuple:=by decide
 hint:=fun z z z z hm hq=>kdl_hint_dict ⟨_,hm,rfl⟩ hq
 iter:=fun z s hh hm=>⟨_,_,(fun z z hq=>xi hd hm hq),ug hh _ d (Nat.ne_of_lt (Heap.lt_size hm)) es ep,⟨⟨_,XF _ rfl,rfl,rfl⟩,Xv _ hm⟩⟩
end
variable{T:Tp}{G G':Gh}{s:Shared}{st st':St}{A:Around}{h h':Heap}{K:PV×St->Prop}
theorem Vs.ints{ns:List Int}:∀{vs:List Value},Vs T G h (ns.map .int) vs->IntsAre vs ns:=by
 induction ns with
|nil=>intro vs x;obtain rfl:=x;exact .nil
|cons n ns ih=>intro vs x;obtain⟨v,r,rfl,⟨t,rfl⟩,z⟩:=x;exact .cons n t (ih z)
theorem Vs.ā{vs:List Value}{ns:List Int}(x:IntsAre vs ns):Vs T G h (ns.map .int) vs:=by
 induction x with
|nil=>exact rfl
|cons n t _ ih=>exact bA (cM _ _ _) ih
theorem fE{items:Array Value}{ns:List Int}(x:IntsAre items.toList ns):∃xs:Array (Int×Tok),items=intItems xs∧ns=numsOf (intItems xs).toList∧xs.size=ns.length:=by
 obtain⟨xs,hx⟩:=x.allInts.items;rw[(by simp:(items.toList.toArray)=items)] at hx;refine⟨xs,hx,?_,?_⟩
 ·rw[<-hx,x.numsOf]
 ·have:=x.length;rw[hx] at this
  simpa [intItems] using this
theorem qE(r:List Int):∀(a:Int),fU a r∈a::r∧∀x∈a::r,x≤fU a r:=by
 induction r with
|nil=>intro a;simp[fU]
|cons b r ih=>
  intro a;obtain⟨h1,h2⟩:=ih (max a b);let' e:fU a (b::r)=fU (max a b) r:=rfl;rw[e];refine⟨?_,fun x hx=>?_⟩
  ·rcases Xo.mp h1 with h|h
   ·rw[h];by_cases ĵ:a≤b
    ·rw[Int.max_def,Yh ĵ];simp
    ·rw[Int.max_def,Yg ĵ];simp
   ·simp[h]
  ·have:=h2 (max a b) Xy;rcases Xo.mp hx with rfl|hx
   ·exact Yj (Int.le_max_left _ _) this
   ·rcases Xo.mp hx with rfl|hx
    ·exact Yj (Int.le_max_right _ _) this
    ·exact h2 x (XB _ hx)
theorem qP(r:List Int):∀(a:Int),gh a r∈a::r∧∀x∈a::r,gh a r≤x:=by
 induction r with
|nil=>intro a;simp[gh]
|cons b r ih=>
  intro a;obtain⟨h1,h2⟩:=ih (min a b);let' e:gh a (b::r)=gh (min a b) r:=rfl;rw[e];refine⟨?_,fun x hx=>?_⟩
  ·rcases Xo.mp h1 with h|h
   ·rw[h];by_cases ĵ:a≤b
    ·rw[Int.min_def,Yh ĵ];simp
    ·rw[Int.min_def,Yg ĵ];simp
   ·simp[h]
  ·have:=h2 (min a b) Xy;rcases Xo.mp hx with rfl|hx
   ·exact Yj this (Int.min_le_left _ _)
   ·rcases Xo.mp hx with rfl|hx
    ·exact Yj this (Int.min_le_right _ _)
    ·exact h2 x (XB _ hx)
theorem oy{xs:Array (Int×Tok)}{j:Nat}(hj:j<xs.size):numAt xs j∈numsOf (intItems xs).toList:=by rw[nums_intItems,numAt_eq];exact getD_mem (by rw[Xm,Yl];exact hj)
theorem qk{xs:Array (Int×Tok)}{a:Int}(h:a∈numsOf (intItems xs).toList):∃j,j<xs.size∧numAt xs j=a:=by rw[nums_intItems] at h;obtain⟨j,hj,rfl⟩:=mem_getD h;rw[Xm,Yl] at hj;exact⟨j,hj,by rw[numAt_eq]⟩
def wm(T:Tp)(b:Ä)(f:Value):Prop:=∀{G:Gh}{s:Shared}{st:St}{A:Around}{n:Nat}{d:DK}{as:List PV}{vs:List Value}{K:PV×St->Prop},fF n A->aG T G s st->Vs T G s.heap as vs->aL (b st d as) K->W T A (call f vs) (PK T G s K) s
theorem ji{p:PV}{v:Value}{K:List Int->Prop}(R:aG T G s st)(hv:V T G s.heap p v)(H:aL (mM st p) K):∃ns:List Int,lX T G s.heap (ns.map .int) v∧K ns:=by obtain⟨l,hl,H⟩:=ly R hv (ab H);obtain⟨ns,rfl,k⟩:=ri H;exact⟨ns,hl,k⟩
theorem KV:wm T Mz (.builtin "len"):=fun{G s st A n d as vs K} rm R hs H=>by
 obtain⟨p,u,rfl,hv,H⟩:=cF hs H;have seq:aL ((cN st p).bind fun l=>some (PV.int l.length,st)) K->W T A (call (.builtin "len") [u]) (PK T G s K) s:=fun H=>by
  obtain⟨l,⟨a,rfl,h⟩,H⟩:=Ah R hv (ab H);rcases h with⟨items,m,h,z,x⟩|⟨items,m,h,z,x⟩
  ·exact W.pk R H (Calls.call_len_list (items:=items) ⟨_,h,rfl,_,rfl⟩ (by rw[x.size];exact Yo.mpr (XQ z (by decide))) (by exact(x.size)▸.here _ (cM _ _ _)))
  ·exact W.pk R H (P.len_tuple (items:=items) h (by rw[x.size];exact Int.not_le.mpr (Yo.mpr (XQ z (by decide)))) (by exact(x.size)▸.here _ (cM _ _ _)))
 cases p with
|bytes b=>obtain⟨z,t,rfl⟩:=hv;refine W.pk R H (len_bytes (by simp;exact Xk z (by decide)) ?_);exact(show(b.toArray.size:Int)=b.length by simp)▸.here _ (cM _ _ _)
|_=>exact seq H
theorem vn{f:Int->List Int->Int}{ns:List Int}{K:Int->Prop}(H:aL (HC f ns) K):∃a r,ns=a::r∧K (f a r):=by cases ns with|nil=>exact H.elim|cons a r=>exact⟨a,r,rfl,H⟩
theorem wA{f:Int->Int->Int}{g:Int->List Int->Int}{id:String}(h2:∀{A:Around}{s:Shared}{G:Gh}{a b:Int}{t u:Tok},A.handled=none->W T A (call (.builtin id) [.int a t,.int b u]) (PG T G s (.int (f a b))) s)
  (h1:∀{A:Around}{s:Shared}{G:Gh}{a:Int}{r:List Int}{v:Value},A.handled=none->lX T G s.heap ((a::r).map .int) v->W T A (call (.builtin id) [v]) (PG T G s (.int (g a r))) s):wm T (CJ f g) (.builtin id):=fun{G s st A n d as vs K} rm R hs H=>by
 have two:aL (vh (fun a b=>(aZ a).bind fun a=>(aZ b).bind fun b=>some (PV.int (f a b),st)) as) K->W T A (call (.builtin id) vs) (PK T G s K) s:=fun H=>by obtain⟨p,q,u,w,rfl,hp,hq,H⟩:=qC hs H;obtain⟨i,t,rfl,H⟩:=bG hp (ab H);obtain⟨j,t',rfl,H⟩:=bG hq (ab H);exact(h2 rm.1).pk R H
 match as,hs,H,two with
|[],_,H,_=>exact H.elim
|[v],hs,H,_=>obtain⟨u,_,rfl,hv,rfl⟩:=hs;obtain⟨ns,hl,H⟩:=ji R hv (ab H);obtain⟨a,r,rfl,H⟩:=vn (ab H);exact(h1 rm.1 hl).pk R H
|_::_::_,_,H,two=>exact two H
theorem LJ:wm T No (.builtin "min"):=wA
 (fun hh=>min_two_ints hh fun h' tk hk=>⟨h',tk,rfl,hk,by
  rename_i a b _ _;by_cases hc:b<a
  ·rw[Yh hc,Int.min_eq_right (Int.le_of_lt hc)];exact cM _ _ _
  ·rw[Yg hc,Int.min_eq_left (YC.mp hc)];exact cM _ _ _⟩)
 (fun{A s G a r v} hh hv=>by
  obtain⟨l,rfl,items,n,h,z,x⟩:=hv;obtain⟨xs,rfl,e2,e3⟩:=fE (Vs.ints (ns:=a::r) x);have hsz:0<xs.size:=by rw[e3];exact XT _
  refine min_intList hh ⟨_,h,rfl,_,rfl⟩ hsz fun v h' tk hv hk=>?_
  obtain⟨t,rfl⟩:=intItems_at hv;obtain⟨h1,h2⟩:=argBest_lt (numAt xs) (xs.size-1);obtain⟨f1,f2⟩:=qP r a;rw[e2] at f1 f2;obtain⟨j,hj,ej⟩:=qk f1;let' u2:=f2 _ (oy (j:=argBest (fun i j=>decide (numAt xs i<numAt xs j)) (xs.size-1)) (Nat.lt_of_le_sub_one hsz h1));rw[show numAt xs (argBest (fun i j=>decide (numAt xs i<numAt xs j)) (xs.size-1))=gh a r from Int.le_antisymm (ej▸(h2 j (Nat.le_sub_one_of_lt hj))) u2];exact⟨h',tk,rfl,hk,cM _ _ _⟩)
theorem J4:wm T N7 (.builtin "max"):=wA
 (fun hh=>max_two_ints hh fun h' tk hk=>⟨h',tk,rfl,hk,by
  rename_i a b _ _;by_cases hc:b>a
  ·rw[Yh hc,Int.max_eq_right (Int.le_of_lt hc)];exact cM _ _ _
  ·rw[Yg hc,Int.max_eq_left (YC.mp hc)];exact cM _ _ _⟩)
 (fun{A s G a r v} hh hv=>by
  obtain⟨l,rfl,items,n,h,z,x⟩:=hv;obtain⟨xs,rfl,e2,e3⟩:=fE (Vs.ints (ns:=a::r) x);have hsz:0<xs.size:=by rw[e3];exact XT _
  refine max_intList hh ⟨_,h,rfl,_,rfl⟩ hsz fun v h' tk hv hk=>?_
  obtain⟨t,rfl⟩:=intItems_at hv;obtain⟨h1,h2⟩:=argBest_gt (numAt xs) (xs.size-1);obtain⟨f1,f2⟩:=qE r a;rw[e2] at f1 f2;obtain⟨j,hj,ej⟩:=qk f1;let' u2:=f2 _ (oy (j:=argBest (fun i j=>decide (numAt xs i>numAt xs j)) (xs.size-1)) (Nat.lt_of_le_sub_one hsz h1));rw[show numAt xs (argBest (fun i j=>decide (numAt xs i>numAt xs j)) (xs.size-1))=fU a r from Int.le_antisymm u2 (ej▸(h2 j (Nat.le_sub_one_of_lt hj)))];exact⟨h',tk,rfl,hk,cM _ _ _⟩)
theorem LG:wm T Qj (.builtin "sum"):=fun rm R hs H=>by obtain⟨p,u,rfl,hv,H⟩:=cF hs H;obtain⟨ns,⟨l,rfl,items,n,h,z,x⟩,H⟩:=ji R hv (ab H);obtain⟨xs,rfl,e2,e3⟩:=fE x.ints;refine W.pk R H (sum_intListG rm.1 ⟨_,h,rfl,_,rfl⟩ fun h' tk t' hk=>⟨h',tk,rfl,hk,?_⟩);rw[preSum_eq,List.take_of_length_le (by simp),<-nums_intItems,<-e2];exact cM _ _ _
theorem BY:wm T By (.type "tuple"):=fun{G s st A n d as vs K} rm R hs H=>by
 obtain⟨p,u,rfl,hv,H⟩:=cF hs H;obtain⟨l,hl,H⟩:=(ab H).get;have lst:lX T G s.heap l u->W T A (call (.type "tuple") [u]) (PK T G s K) s:=fun⟨a,e,items,n,h,z,x⟩=>by subst e;exact W.pk R H (call_tuple_list (items:=items) ⟨_,h,rfl,n,rfl⟩ (fun h' hk=>⟨_,s.toks,rfl,fun b o e=>Xv _ (hk b o e),iL (R.grow s.toks hk) z (x.lat (.grow _ G hk))⟩) (by exact(x.size)▸ay z))
 cases p with
|tup l'=>
  injection (eH hl).symm with e;injection e with e;subst e
  obtain⟨a,rfl,_,items,n,h,z,x⟩:=id hv;exact W.pk R H (call_tuple_same (items:=items) ⟨_,h,rfl,n,rfl⟩ (.Zq hv))
|_=>exact lst (R.Â hl nofun hv)
theorem sJ{l:List PV}{v:Value}(x:gp T G s.heap l v):W T A (call (.type "list") [v]) (NL T G s l) s:=by
 obtain⟨a,rfl,⟨items,n,h,z,x⟩|⟨items,n,h,z,x⟩⟩:=x
 ·exact call_list_seq a (T:="list") (.inl rfl) h rfl rfl (fun h' c' hk hn=>NL.mk (tk:=s.toks) hk (aV _) hn z x) (by exact(x.size)▸ay z)
 ·exact call_list_seq a (T:="tuple") (.inr rfl) h rfl rfl (fun h' c' hk hn=>NL.mk (tk:=s.toks) hk (aV _) hn z x) (by exact(x.size)▸ay z)
theorem g9.keys:∀{l:List (PV×PV)}{es:List DictEntry},g9 T G h l es->Vs T G h (l.map (·.1)) (es.map (·.key))
|[],es,x=>by obtain rfl:=x;exact rfl
|(k,p)::l,es,x=>by obtain⟨e,r,rfl,y,_,_,z⟩:=x;exact bA y z.keys
theorem jH{es:Array DictEntry}{acc:Array Value}(x:ItemsOf (fun i v=>∃e,es[i]?=some e∧v=e.key) acc es.size):acc.toList=es.toList.map (·.key):=by
 obtain⟨h1,h2⟩:=x;apply List.ext_getElem?;intro i;rw[Yk,List.getElem?_map,Yk];rcases Nat.lt_or_ge i es.size with hi|hi
 ·obtain⟨e,he,hv⟩:=h2 i acc[i] (by simp[h1,hi]);have:acc[i]?=some acc[i]:=by simp[h1,hi]
  rw[this,he,hv];rfl
 ·rw[Array.getElem?_eq_none (Xk (XY h1) hi),Array.getElem?_eq_none hi];rfl
theorem EF:wm T H8 (.type "list"):=fun{G s st A n d as vs K} rm R hs H=>by
 obtain⟨p,u,rfl,hv,H⟩:=cF hs H;refine kf R hv (ab (ab H)) fun o ho H=>?_
 cases o with
|lst l=>obtain⟨_,H⟩:=aF H;exact(sJ ho).nk R H
|dct l=>obtain⟨hz,H⟩:=aF H;obtain⟨a,rfl,es,m,h,⟨hm,_⟩,x⟩:=ho;let' z:=bW hz;let' e:=x.keys.length;rw[Xm,Yl] at e;refine W.nk R H (kdl_call (Bb (oE hm)) rm.1 h (by exact(e)▸ay z) fun h' tk acc' c' hk hn hi=>NL.mk hk (aV _) hn z ?_);exact(jH hi)▸x.keys
|_=>exact H.elim
theorem wx{ns:List Int}:∀{b:List UInt8},mQ ns=some b->(∀n∈ns,0≤n∧n<256)∧ns.map (fun n=>n.toNat.toUInt8)=b:=by
 induction ns with
|nil=>intro b h;injection h with h;exact⟨nofun,h⟩
|cons n ns ih=>
  intro b h;unfold mQ at h;split at h
  ·rename_i hn;obtain⟨q,hq,h⟩:=XC.mp h;obtain rfl:=Xn h;obtain⟨h1,h2⟩:=ih hq;exact⟨List.forall_mem_cons.mpr ⟨Ye hn,h1⟩,YH (_:: ·) h2⟩
  ·injection h
theorem Ca:wm T Cc (.type "bytes"):=fun{G s st A n d as vs K} rm R hs H=>by
 obtain⟨p,u,rfl,hv,H⟩:=cF hs H;obtain⟨ns,⟨l,rfl,items,n,h,z,x⟩,H⟩:=ji R hv (ab H);obtain⟨b,hb,H⟩:=(ab H).get;obtain⟨h1,h2⟩:=wx hb;refine W.pk R H (call_bytes_ints (vs:=items.toList) (by rw[(by simp:(items.toList.toArray)=items)];exact⟨_,h,rfl,_,rfl⟩) x.ints h1 (by rw[x.length];exact ay z) rm.1 fun h' t k hk=>⟨h',k,rfl,hk,?_⟩);let' e2:byteArr ns=b.toArray:=YH List.toArray h2;rw[e2];refine mw ?_;rw[<-h2,Xm]
 rwa [Xm] at z
theorem Jm:wm T Qg (.builtin "ord"):=fun{G s st A n d as vs K} rm R hs H=>by
 obtain⟨p,u,rfl,hv,H⟩:=cF hs H;cases p with
|str x=>
  obtain⟨t,rfl⟩:=hv;obtain⟨⟨l⟩⟩:=x
  match l,H with
  |[],H=>exact H.elim
  |[c],H=>exact W.pk R H (ord_of_one rfl (.here _ (cM _ _ _)))
  |_::_::_,H=>exact H.elim
|_=>exact H.elim
theorem Li:wm T P0 (.type "int"):=fun{G s st A n d as vs K} rm R hs H=>by
 obtain⟨p,u,rfl,hv,H⟩:=cF hs H;cases p with
|bool b=>obtain rfl:=hv;exact W.pk R H (call_int_bool (.here _ (cM _ _ _)))
|int i=>obtain⟨t,rfl⟩:=hv;exact W.pk R H (call_int_int (.Zq (cM _ _ _)))
|_=>exact H.elim
theorem q7{i:Int}{t:Tok}:W T A (call (.builtin "isinstance") [.int i t,.type "tuple"]) (PG T G s (.bool false)) s:=
 call_isinstance (isinstance_false_int (by decide) (by rfl') (by rw[isSubtype_type];rfl')) (PG.here _ dh)
end
section
open PySem.W PyProof.Rows
variable{T:Tp}{G G':Gh}{s:Shared}{st st':St}{A:Around}{h h':Heap}{K:PV×St->Prop}
theorem qr(x:Int):∀l,(wf x l).Perm (x::l):=by
 intro l;induction l with
|nil=>exact .refl _
|cons y r ih=>
  unfold wf;split
  ·exact .refl _
  ·exact((ih).cons y).trans (.swap x y r)
theorem mZ:∀l,(p8 l).Perm l:=by
 intro l;induction l with
|nil=>exact .refl _
|cons x r ih=>exact(qr x _).trans ((ih).cons x)
theorem tD(x:Int){l:List Int}:l.Pairwise (· ≤ ·)->(wf x l).Pairwise (· ≤ ·):=by
 induction l with
|nil=>intro _;simp[wf]
|cons y r ih=>
  intro h;rw[List.pairwise_cons] at h;unfold wf;split
  ·rename_i Þ;refine List.pairwise_cons.mpr ⟨fun z hz=>?_,List.pairwise_cons.mpr h⟩;rcases Xo.mp hz with rfl|hz
   ·exact Þ
   ·exact Yj Þ (h.1 z hz)
  ·rename_i Þ;refine List.pairwise_cons.mpr ⟨fun z hz=>?_,ih h.2⟩;rcases Xo.mp ((qr x r).mem_iff.mp hz) with rfl|hz
   ·exact Int.le_of_lt (Int.not_le.mp Þ)
   ·exact h.1 z hz
theorem re:∀l,(p8 l).Pairwise (· ≤ ·):=by
 intro l;induction l with
|nil=>exact .nil
|cons x r ih=>exact tD x (ih)
theorem jd:∀{a b:List Int},a.Perm b->a.Pairwise (· ≤ ·)->b.Pairwise (· ≤ ·)->a=b
|[],b,p,_,_=>(List.Perm.nil_eq p)
|x::r,[],p,_,_=>by have:=p.length_eq;simp at this
|x::r,y::q,p,ha,hb=>by
  rw[List.pairwise_cons] at ha hb;have e:x=y:=by
   have h1:=p.mem_iff.mp (Xy (a:=x) (l:=r));have h2:=p.mem_iff.mpr (Xy (a:=y) (l:=q));rcases Xo.mp h1 with h1|h1
   ·exact h1
   ·rcases Xo.mp h2 with h2|h2
    ·exact h2.symm
    ·exact Int.le_antisymm (ha.1 y h2) (hb.1 x h1)
  subst e;rw[jd (List.Perm.cons_inv p) ha.2 hb.2]
theorem n7{ns:List Int}{v:Value}(hz:ns.length<64)(hv:lX T G s.heap (ns.map .int) v):W T A (call (.builtin "sorted") [v]) (NL T G s ((p8 ns).map .int)) s:=by
 obtain⟨l,rfl,items,n,h,z,x⟩:=hv;refine sorted_ints (vs:=items.toList) (by rw[(by simp:(items.toList.toArray)=items)];exact⟨_,h,rfl,_,rfl⟩) x.ints (by rw[x.length,Xm];exact hz) fun fi ns' h1 h2 h3=>?_
 obtain rfl:ns'=p8 ns:=jd (h2.trans (mZ ns).symm) h3 (re ns);obtain⟨e',he⟩:=sortedAll_at s.heap items.toList fi;exact NL.mk (tk:=s.toks) (fun b o hb=>sortedAll_old hb) (Heap.get?_none_of_le (Nat.le_succ _)) he (by rw[Xm,(mZ ns).length_eq];exact Xk (XW hz) (by decide)) (Vs.ā h1)
noncomputable def xO(ns:List Int){α:Type}:KasT α->Option α
|.ret a=>some a
|.ask i j k=>match ns[i]?,ns[j]? with
  |some x,some y=>xO ns (k (decide (x<y)))
  |z,w=>none
theorem sh{w:World}{prog:Program}{κ:SortKind}{vs:List Value}{ns:List Int}{α:Type}{Q:α->Shared->Prop}
  (hc:∀i j x y (C:Bool->Shared->Prop),ns[i]?=some x->ns[j]?=some y->C (decide (x<y)) s->kas_ask prog w A κ vs i j C s):
  ∀(t:KasT α) {r:α},xO ns t=some r->Q r s->t.kasWp (kas_ask prog w A κ vs) Q s
|.ret a,r,h,q=>by obtain rfl:=Xn h;exact q
|.ask i j k,r,h,q=>by
  unfold xO at h;cases hx:ns[i]? with
  |none=>rw[hx] at h;injection h
  |some x=>
   cases hy:ns[j]? with
   |none=>rw[hx,hy] at h;injection h
   |some y=>rw[hx,hy] at h;exact hc i j x y _ hx hy (sh hc _ h q)
noncomputable def ZM:Array Nat:=#[5,3,6,0,1,2,7,4]
theorem GT:xO jG (kas_sort 8)=some ZM:=by decide+kernel
theorem Gk{ns:List Int}:∀{vs:List Value},Vs T G h (ns.map fun i=>.tup [.int i]) vs->
  ∃fs:List Value,KatTups h vs fs∧fs.length=ns.length∧(∀v∈fs,∃i t,v=.int i t)∧
   ∀(i:Nat) (x:Int),ns[i]?=some x->∃a o t n,vs[i]?=some (Value.ref a)∧h.get? a=some o∧o.data=Data.seq #[Value.int x t] n:=by
 induction ns with
|nil=>intro vs x;obtain rfl:=x;exact⟨[],.nil,rfl,nofun,nofun⟩
|cons k ns ih=>
  intro vs x;obtain⟨v,r,rfl,y,z⟩:=x;obtain⟨fs,h1,h2,h3,h4⟩:=ih z;obtain⟨a,rfl,_,items,n,e,_,w,r',e1,⟨t,rfl⟩,e2⟩:=y;obtain rfl:=e2;let' ei:items=#[.int k t]:=Array.toList_inj.mp e1;subst ei;refine⟨.int k t::fs,.cons e rfl rfl rfl h1,YH (·+1) h2,fun v hv=>?_,fun i x hx=>?_⟩
  ·rcases Xo.mp hv with rfl|hv
   ·exact⟨_,_,rfl⟩
   ·exact h3 v hv
  ·cases i with
   |zero=>obtain rfl:=Xn hx;exact⟨a,_,t,n,rfl,e,rfl⟩
   |succ i=>exact h4 i x hx
theorem vi{l:List (PV×PV)}:∀{ns:List Int},mK l=some ns->l.map (·.1)=ns.map fun i=>.tup [.int i]:=by
 induction l with
|nil=>intro ns h;obtain rfl:=Xn h;rfl
|cons x r ih=>intro ns h;obtain⟨i,h1,h⟩:=XC.mp h;obtain⟨q,h2,h⟩:=XC.mp h;obtain rfl:=Xn h;rw[XM,ih h2,JL h1];rfl
theorem r5{a:Addr}{vs:List Value}{n:Nat}{P:PySem.Fin->Shared->Prop}{E:Value->Shared->Prop}(ho:s.heap.get? a=some (seqObj "list" vs.toArray n))(hv:Vs T G s.heap (jG.map fun i=>.tup [.int i]) vs)
  (Ŷ:G.own a≠.fz)
  (h:∀h' e,(∀b o,b≠a->s.heap.get? b=some o->h'.get? b=some o)->h'.get? a=some (seqObj "list" (ZM.toList.map fun i=>vs.getD i Value.none).toArray e)->P (.done (.ret .none)) {s with heap:=h'}):
  wpAny (model T.prog T.w) A (Builtin.«list.sort» ⟨[.ref a],[]⟩) P E s:=by
 let' ha:a<s.heap.objs.size:=Heap.lt_size ho;have hlen:vs.length=8:=(hv.length)
 obtain⟨e1,τ⟩:∃e1,(s.heap.update a (Obj.mapSeq fun z=>(#[]:Array Value))).get? a=some (seqObj "list" #[] e1):=⟨_,get?_update_seq ho fun z=>#[]⟩
 have k1:∀b o,b≠a->s.heap.get? b=some o->(((s.heap.update a (Obj.mapSeq fun z=>(#[]:Array Value))).push (seqObj "tuple" vs.toArray 0)).push (seqObj "list" #[] 0)).get? b=some o:=
  fun b o hb e=>Xv _ (Xv _ (((Heap.SameBut.update s.heap a (Obj.mapSeq fun z=>(#[]:Array Value))).2 b hb).trans e))
 let' ŷ:(((s.heap.update a (Obj.mapSeq fun z=>(#[]:Array Value))).push (seqObj "tuple" vs.toArray 0)).push (seqObj "list" #[] 0)).get? a=some (seqObj "list" #[] e1):=Xv _ (Xv _ τ);let' L:jz G s.heap G (((s.heap.update a (Obj.mapSeq fun z=>(#[]:Array Value))).push (seqObj "tuple" vs.toArray 0)).push (seqObj "list" #[] 0)):=⟨fun b o e f=>⟨k1 b o (fun x=>Ŷ (x▸e)) f,e⟩,fun z=>Xq _,Xq _⟩
 obtain⟨fs,t1,t2,t3,t4⟩:=Gk (hv.lat L);rw[list_sort_plain];refine X9 (listItems_at ho rfl ?_);refine X9 (listUpdate_at ho rfl ?_ (by rw[List.size_toArray,sizeLine_eq];rw[hlen];decide) (Nat.zero_le _));refine X9 (seqEpoch_at τ rfl ?_);refine X9 (wpAny_newTuple ?_ (by show vs.length≤_;rw[sizeLine_eq];rw[hlen];decide));refine X9 (wpAny_newList ?_ (Nat.zero_le _));refine YD ?_;refine(?_:wpAny (model T.prog T.w) A _ P E {s with heap:=((s.heap.update a (Obj.mapSeq fun z=>(#[]:Array Value))).push (seqObj "tuple" vs.toArray 0)).push (seqObj "list" #[] 0)})
 have υ:¬vs.toArray.size<2:=by rw[List.size_toArray];rw[hlen];decide
 rw[Yg υ,Yg υ];refine X9 (kat_kind (T:=.type "int") t1 (by rw[t2];decide) (fun v hv=>by obtain⟨i,t,rfl⟩:=t3 v hv;exact Looks.of_pure rfl) (by decide) ?_)
 refine X9 (YE (kat_run (Q:=fun st' s'=>arrOf st'=ZM.map (kas_item (vs.toArray.zip vs.toArray))∧failedOf st'=none∧s'={s with heap:=((s.heap.update a (Obj.mapSeq fun z=>(#[]:Array Value))).push (seqObj "tuple" vs.toArray 0)).push (seqObj "list" #[] 0)})
  (G:=fun p s'=>p=ZM∧s'={s with heap:=((s.heap.update a (Obj.mapSeq fun z=>(#[]:Array Value))).push (seqObj "tuple" vs.toArray 0)).push (seqObj "list" #[] 0)})
  rfl (by rw[hlen];decide) (by rw[hlen];decide) (fun p' st' s' a1 a2 a3 a4=>⟨a4.1▸a2,a3,a4.2⟩) (by
   rw[hlen];refine sh (ns:=jG) (fun i j x y C hx hy hC=>?_) _ GT ⟨rfl,rfl⟩;obtain⟨a1,o1,u1,n1,g1,g2,g3⟩:=t4 i x hx;obtain⟨a2,o2,u2,n2,g4,g5,g6⟩:=t4 j y hy;delta kas_ask;have e1:vs.getD i Value.none=.ref a1:=by rw[Yz,g1];rfl
   have e2:vs.getD j Value.none=.ref a2:=by rw[Yz,g4];rfl
   rw[e1,e2];refine kat_lt g2 g3 g5 g6 (kat_cons (wpAny_eqBool_int ?_));by_cases Þ:x=y
   ·have:(x==y)=true:=by simpa using Þ
    rw[this];refine kat_yes (kat_nil ?_);have:decide (x<y)=false:=by rw[Yd];exact YC.mpr (Int.le_of_eq Þ.symm)
    rw[this] at hC;exact hC
   ·have:(x==y)=false:=by simpa using Þ
    exact(this)▸kat_no (oneLt_int hC))) ?_ fun z z e=>e)
 rintro⟨⟨⟩,st'⟩ s' ⟨har,hf,rfl⟩;dsimp only;rw[(kat_snds rfl har)];refine X9 (seqEpoch_at ŷ rfl ?_);refine X9 (listUpdate_at ŷ rfl ?_ (Nat.zero_le _) (by rw[List.size_toArray,Xm,sizeLine_eq];decide));rw[hf];simp only[bne_self_eq_false,Bool.false_eq_true,if_false];refine Yb (h _ _ (fun b o hb e=>?_) (get?_update_seq ŷ _));exact(Heap.get?_update_ne _ _ _ _ hb).trans (k1 b o hb e)
theorem Vs.pick{l:List PV}{vs:List Value}(x:Vs T G h l vs):∀(p:List Nat),(∀i∈p,i<l.length)->Vs T G h (p.map fun i=>l.getD i .none) (p.map fun i=>vs.getD i Value.none)
|[],_=>rfl
|i::p,hp=>by let' hi:=hp i Xy;obtain⟨v,e,hv⟩:=x.get (XK hi);refine bA ?_ (x.pick p fun j hj=>hp j (XB _ hj));refine(?_:V T G h (l.getD i .none) (vs.getD i Value.none));rw[Yz,Yz,e,XK hi];exact hv
theorem oU(hh:A.handled=none)(R:aG T G s st){l:List (PV×PV)}{v:Value}(hv:tn T G s.heap l v)(ho:mK l=some jG):
  W T A (call (.builtin "sorted") [v]) (NL T G s (pX.map fun i=>.tup [.int i])) s:=by
 obtain⟨d,rfl,es,n,h,⟨hm,_⟩,x⟩:=hv;let' xk:=x.keys;rw[vi ho] at xk;have e:es.size=8:=by have:=xk.length;rw[Xm,Yl] at this;exact this
 refine Calls.call_function_entry kind_sorted plain_sorted entry_sorted (args_sorted1 _) ?_;unfold Builtin.«sorted»;refine X9 (m:=checkCount "sorted" 1 1 _) (Yb ?_);refine X9 (kdu_collect (Bb (oE hm)) hh h (by rw[e,sizeLine_eq];decide) fun h' tk acc hk hi=>?_);rw[<-(jH hi)] at xk;refine X9 (wpAny_newList ?_ (by rw[xk.length,sizeLine_eq];decide));have hn:s.heap.get? h'.objs.size=none:=by
  cases hg:s.heap.get? h'.objs.size with
  |none=>rfl
  |some o=>have:=hk _ _ hg;rw[aV] at this;injection this
 let' kp:∀b o,b≠h'.objs.size->s.heap.get? b=some o->(h'.push (seqObj "list" acc.toList.toArray 0)).get? b=some o:=(fun b o z e=>Xv _ (hk b o e))
 let' Ÿ:(h'.push (seqObj "list" acc.toList.toArray 0)).get? h'.objs.size=some (seqObj "list" acc.toList.toArray 0):=XF _ rfl;let' X:=(R.İ (R.ZN hn) tk kp ⟨_,Ÿ⟩ (X:=Xe G.n) fun n k e=>by rw[R.fresh hn] at e;injection e).2;let' φ:∀b o,s.heap.get? b=some o->b≠h'.objs.size:=(fun b o hb e=>by rw[e,hn] at hb;injection hb)
 refine X9 (YD (Zb slot_list_sort ⟨_,Ÿ,rfl⟩ entry_list_sort (r5 (s:={s with heap:=h'.push (seqObj "list" acc.toList.toArray 0),toks:=tk}) (G:=G.with h'.objs.size (.fr G.n (.it h'.objs.size)) G.la G.ga) Ÿ (xk.lat X.lat) (by rw[Gh.Zr];nofun) fun h2 e2 k2 g2=>⟨_,rfl,?_⟩) (args_list_sort _)));refine Yb ⟨_,rfl,NL.mk (fun b o hb=>k2 b o (φ b o hb) (kp b o (φ b o hb) hb)) hn g2 (by decide) ?_⟩;exact(xk.pick ZM.toList (by decide):_)
theorem yL:wm T xT (.builtin "sorted"):=fun{G s st A n d as vs K} rm R hs H=>by
 obtain⟨p,u,rfl,hv,H⟩:=cF hs H;refine hO R hv (ab H) fun o ho H=>?_
 cases o with
|lst l=>obtain⟨ns,rfl,H'⟩:=ri (ab H);obtain⟨hz,H'⟩:=aF H';exact(n7 hz ho).nk R H'
|dct l=>obtain⟨ns,hn,H⟩:=(ab H).get;obtain⟨hz,H⟩:=aF H;subst hz;exact(oU rm.1 R ho hn).nk R H
|_=>exact H.elim
section
variable{prog:Program}{w:World}{A:Around}{E:Value->Shared->Prop}
theorem rU:typeLookup (.type "list") (Str.ofString "keys")=pure none:=am_miss_of_fast (by decide+kernel)
theorem jt{s:Shared}{a:Addr}{items:Array Value}{k:Nat}{Q:Option Value->Shared->Prop}(hx:s.heap.get? a=some (bD items k))(hA:A.handled=none)
  (h:∀h' tk,(∀b ob,s.heap.get? b=some ob->h'.get? b=some ob)->Q none {s with heap:=h',toks:=tk}):wpAny (model prog w) A (getAttr? (.ref a) (Str.ofString "keys")) Q E s:=by
 obtain⟨hp,g,d,tk,os⟩:=s;let' hT:∀ú,(⟨hp,g,d,ú,os⟩:Shared).TypeIs (.ref a) "list":=(fun z=>⟨_,hx,rfl⟩)
 let' f1:=sub_AttributeError;let' f3:=F.slot_list_getattribute.lookup;let' f4:=F.slot_list_getattribute.bind (.ref a);let' f5:=am_list_getattr_none;unfold getAttr? getAttrBy? getAttrBy
 repeat (any_goals (first|assumption|exact hT _|((with_reducible show wpAny _ _ (call (Value.builtin "list.__getattribute__") _ _) _ _ _);refine call_meets F.slot_list_getattribute (hT _) am_entry_list_getattribute (F.args_list_getattribute_2 _ _) (meets_getattribute_miss_list a items k #[] (Str.ofString "keys") _ rU (by decide+kernel) (by decide+kernel)) ⟨hx,hA,fun h' ú e Ï=>?_⟩)|wp_step))
 obtain⟨t',u',he⟩:=Ï.there;refine(?_:wpAny _ _ (getattributeRaised _ _ _ _ _ _ _) _ _ _);unfold getattributeRaised
 repeat (any_goals (first|assumption|wp_step))
 exact h _ _ Ï.keeps
end
section
variable{prog:Program}{w:World}{A:Around}{E:Value->Shared->Prop}
theorem uj{s:Shared}{a:Addr}{items:Array Value}{m:Nat}{Q:Option (Array Value)->Shared->Prop}(e:s.heap.get? a=some (cT items m))(h:Q (some items) s):wpAny (model prog w) A (seqItems? (.ref a)) Q E s:=by unfold seqItems?;exact X9 (wpAny_load e (Yb h))
theorem ft:entryFor table "dict.update.loop"=some Builtin.«dict.update.loop»:=entryFor_of_fast (by rfl')
theorem cy:plainId "dict.update.loop"=true:=by decide+kernel
def uU(h:Heap)(v:Value)(k:Int)(u:Value):Prop:=∃a t m,v=.ref a∧h.get? a=some (cT #[.int k t,u] m)
theorem sk{R:Result->Shared->Prop}{I ax D:Addr}(Á:ax≠I)(hh:A.handled=none){items:Array Value}{base:Heap}(Ź:D≠I)(ź:D≠ax)(χ:base.get? I=none)(hfD:base.get? D=none)(Zj:List (Int×Value))(hlen:Zj.length=items.size)
  (hp:∀(j:Nat) (x:Int×Value),Zj[j]?=some x->∃v,items[j]?=some v∧uU base v x.1 x.2) (hsz:items.size≤4000000) (k:Nat):∀(i:Nat) (t:Tok) (acc:List (Int×Value)) (s:Shared),items.size-i=k->i≤items.size->
  s.heap.IsListIter I ax i->s.heap.IsList ax items->s.heap.DictOf (PySem.intKind prog w) D acc->(∀b o,base.get? b=some o->s.heap.get? b=some o)->acc.length≤i->
  (∀h' tk,h'.DictOf (PySem.intKind prog w) D (merged acc (Zj.drop i))->(∀b o,b≠I->b≠D->s.heap.get? b=some o->h'.get? b=some o)->R (.ok (.ret .none)) {s with heap:=h',toks:=tk})->
  codeAny (model prog w) A (.builtin "dict.update.loop" ⟨[.ref D,.ref I,.int i t,.none],[]⟩) R s:=by
 have W:=Walks.list (prog:=prog) (w:=w) (A:=A.in1) (by exact hh) I ax Á items;induction k with
|zero=>
  intro i t acc s hk hi hit Ż hd hb ä hR;have Ă:=YR hi (Nat.sub_eq_zero_iff_le.mp hk);refine codeAny_builtin ft ?_;rw[Around.under_plainId cy _];refine(?_:wpAny _ A.in1 (pyNext (.ref I)>>= _) _ _ s);refine X9 (W.done s _ _ (Ă▸⟨hit,Ż⟩) fun h' tk ZU=>?_);refine(?_:wpAny _ A.in1 (Builtin.Dict.addKeywords D []>>= _) _ _ _);refine X9 (Yb (Yb ?_));have:=hR h' tk (by
   rw[List.drop_eq_nil_of_le (XY (hlen.trans Ă.symm))];obtain⟨o,es,ep,e,r⟩:=hd;exact⟨o,es,ep,ZU _ _ (by simpa using Ź) e,r⟩) (fun b o h1 h2 e=>ZU b o (by simpa using h1) e)
  exact this
|succ k ih=>
  intro i t acc s hk hi hit Ż hd hb ä hR;have Z5:=Nat.lt_of_sub_eq_succ hk;refine codeAny_builtin ft ?_;rw[Around.under_plainId cy _];refine(?_:wpAny _ A.in1 (pyNext (.ref I)>>= _) _ _ s);refine X9 (W.item i s _ _ Z5 ⟨hit,Ż⟩ fun v h' tk hP Ķ ZU=>?_);have Ę:=fun b o hb e=>ZU b o (by simpa using hb) e
  have hx:=XK (Nat.lt_of_lt_of_eq Z5 hlen.symm);obtain⟨v',e1,a,u,m,rfl,e2⟩:=hp i _ hx;rw[hP] at e1;obtain rfl:=Xn e1;have e3:h'.get? a=some (cT #[.int Zj[i].1 u,Zj[i].2] m):=Ę _ _ (fun e=>by rw[e,χ] at e2;injection e2) (hb _ _ e2);refine X9 (YD ?_);refine X9 (wpAny_tryCatch ?_);have hT:({s with heap:=h',toks:=tk}:Shared).TypeIs (.ref a) "tuple":=⟨_,e3,rfl⟩
  refine X9 (wpAny_typeOf hT ?_);rw[Yh (by decide)];refine X9 (uj e3 (Yb ?_));refine(?_:wpAny _ _ (holding [.int Zj[i].1 u,Zj[i].2] (dictSet D (.int Zj[i].1 u) Zj[i].2)) _ _ _);have ķ:h'.DictOf (PySem.intKind prog w) D acc:=by obtain⟨o,es,ep,e,r⟩:=hd;exact⟨o,es,ep,Ę _ _ Ź e,r⟩
  refine YD (wpAny_dictSet_pairs (hsz:=ay (Xk ä (Xk hi hsz))) (intKind_is prog w Zj[i].1 u) ķ fun h2 hm2 Z0=>?_);have k2:=fun b o h1 h3 e=>(Z0.2 b h3).trans (Ę b o h1 e)
  refine(?_:wpAny _ _ (again (.builtin "dict.update.loop" ⟨[.ref D,.ref I,rawInt ((i:Int)+1),.none],[]⟩)) _ _ _);refine Yb ⟨plainId_quiet cy _,?_⟩;have:=ih (i+1) 0 (stored acc Zj[i].1 Zj[i].2) {s with heap:=h2,toks:=tk+1} (by rw[Nat.sub_add_eq,hk];rfl) Z5 (Ķ.1.at fun o e=>(Z0.2 I (Ne.symm Ź)).trans e) (Ķ.2.at fun o e=>(Z0.2 ax (Ne.symm ź)).trans e) hm2
   (fun b o e=>k2 b o (fun e'=>by rw[e',χ] at e;injection e) (fun e'=>by rw[e',hfD] at e;injection e) (hb b o e)) (by have:=stored_length_le acc Zj[i].1 Zj[i].2;exact Xk this (Yx ä))
   (fun h3 tk3 hm3 hk3=>hR h3 tk3 ((List.drop_eq_getElem_cons (Nat.lt_of_lt_of_eq Z5 hlen.symm))▸(hm3)) fun b o h1 h4 e=>hk3 b o h1 h4 (k2 b o h1 h4 e))
  exact this
theorem uD{s:Shared}{ax:Addr}{items:Array Value}{n:Nat}(hh:A.handled=none)(ĸ:s.heap.get? ax=some (bD items n))(Zj:List (Int×Value))(hlen:Zj.length=items.size)(hsz:items.size≤4000000)
  (hp:∀(j:Nat) (x:Int×Value),Zj[j]?=some x->∃v,items[j]?=some v∧uU s.heap v x.1 x.2) {Q:Value->Shared->Prop}
  (h:∀h' tk,h'.DictOf (PySem.intKind prog w) s.heap.objs.size (merged [] Zj)->(∀b o,s.heap.get? b=some o->h'.get? b=some o)->Q (.ref s.heap.objs.size) {s with heap:=h',toks:=tk}):
  wpAny (model prog w) A (call (.type "dict") [.ref ax]) Q E s:=by
 refine callType_codes (Q₁:=fun obj s₁=>obj=.ref s.heap.objs.size∧s₁={s with heap:=s.heap.push {cls:=.type "dict",data:=.dict #[]}}) F.kt_called_dict (F.kt_typeCall_dict_1 _) F.entry_dict_init (kt_code_dict_new _ ⟨rfl,rfl⟩) ?_;rintro obj s₁ ⟨rfl,rfl⟩;have ę:(s.heap.push {cls:=.type "dict",data:=.dict #[]}).DictOf (PySem.intKind prog w) s.heap.objs.size []:=Heap.DictOf.new s.heap;have å:(s.heap.push {cls:=.type "dict",data:=.dict #[]}).get? ax=some (bD items n):=Xv _ ĸ;refine⟨ę.typeIs,F.args_dict_init_2 _ _,?_⟩;unfold Builtin.«dict.__init__»;refine X9 ?_
 refine X9 (wpAny_notOrdered_dict ę.typeIs ?_);refine(?_:wpAny _ _ (pure (s.heap.objs.size,[Value.ref ax])) _ _ _);refine Yb ?_;refine(?_:wpAny _ _ (Builtin.Dict.updateFrom "dict.__init__" s.heap.objs.size (.ref ax) [] .none) _ _ _);refine X9 (wpAny_typeOf (T:="list") ⟨_,å,rfl⟩ ?_);rw[Yh (by decide)];refine X9 (jt å hh fun h1 tk1 k1=>?_);dsimp only[Option.isNone_none];rw[Yh rfl];refine X9 (wpAny_rule ?_);let' ψ:h1.get? ax=some (bD items n):=k1 _ _ å;let' ż:s.heap.get? s.heap.objs.size=none:=aV _;let' Z5:s.heap.objs.size<h1.objs.size:=Heap.lt_size (k1 _ _ (XF _ rfl))
 let' Ž:s.heap.get? h1.objs.size=none:=Heap.get?_none_of_le (XW Z5);refine X9 (wpAny_pyIter_list (items:=items) ⟨_,ψ,rfl,_,rfl⟩ ?_);refine Yb ⟨plainId_quiet cy _,?_⟩;have FL:h1.DictOf (PySem.intKind prog w) s.heap.objs.size []:=by obtain⟨o,es,ep,e,r⟩:=ę;exact⟨o,es,ep,k1 _ _ e,r⟩
 have hd2:(h1.push {cls:=.type "list_iterator",data:=.fields #[.ref ax,.int 0 0]}).DictOf (PySem.intKind prog w) s.heap.objs.size []:=by obtain⟨o,es,ep,e,r⟩:=FL;exact⟨o,es,ep,Xv _ e,r⟩
 have kb:∀b o,s.heap.get? b=some o->(h1.push {cls:=.type "list_iterator",data:=.fields #[.ref ax,.int 0 0]}).get? b=some o:=fun b o e=>Xv _ (k1 b o (Xv _ e))
 refine sk (prog:=prog) (w:=w) (A:=A.in1) (R:=wants (fun r s₂=>r=.none∧Q (.ref s.heap.objs.size) s₂) E) (base:=s.heap) (ax:=ax) (I:=h1.objs.size) (D:=s.heap.objs.size) (fun e=>?_) hh (items:=items) (Nat.ne_of_lt Z5) (fun e=>?_) Ž ż Zj hlen hp hsz items.size 0 0 [] {s with heap:=h1.push {cls:=.type "list_iterator",data:=.fields #[.ref ax,.int 0 0]},toks:=tk1} (Nat.sub_zero _) (Nat.zero_le _)
  ⟨_,XF _ rfl,rfl,rfl⟩ ⟨_,Xv _ ψ,rfl,_,rfl⟩ hd2 kb (Xx _) fun h' tk ķ ZU=>?_
 ·rw[e,Ž] at ĸ;injection ĸ
 ·rw[<-e,ż] at ĸ;injection ĸ
 ·refine⟨rfl,?_⟩;exact h h' tk ķ fun b o e=>ZU b o (fun e'=>by rw[e',Ž] at e;injection e) (fun e'=>by rw[e',ż] at e;injection e) (kb b o e)
end
set_option tactic.hygienic true in
theorem zT{l:List PV}:∀{vs:List Value},l.all lG=true->Vs T G h l vs->∃(q:List (Int×PV)) (Zj:List (Int×Value)),l=q.map (fun x=>PV.tup [.int x.1,x.2])∧FA T G h q Zj∧Zj.length=vs.length∧
  ∀(j:Nat) (x:Int×Value),Zj[j]?=some x->∃v,vs[j]?=some v∧uU h v x.1 x.2:=by
 induction l with
|nil=>intro vs _ x;obtain rfl:=x;exact⟨[],[],rfl,.nil,rfl,nofun⟩
|cons p l ih=>
  intro vs hl x;obtain⟨v,r,rfl,y,z⟩:=x;obtain⟨q,Zj,rfl,f,e,hp⟩:=ih (az hl).2 z;let' hp1:=(az hl).1;unfold lG at hp1;cases ž:oB p with
  |none=>rw[ž] at hp1;injection hp1
  |some kw=>
   rw[ž] at hp1;obtain⟨k,w⟩:=kw;obtain rfl:=qp ž;cases k with
   |int k=>
    obtain⟨a,rfl,_,items,m,e1,_,u1,r1,e2,⟨t,rfl⟩,u2,r2,rfl,hw,hr⟩:=y;obtain rfl:=hr;let' ei:items=#[.int k t,u2]:=Array.toList_inj.mp e2;subst ei;refine⟨(k,w)::q,(k,u2)::Zj,rfl,.cons hw f,YH (·+1) e,fun j x hx=>?_⟩;cases j with
    |zero=>obtain rfl:=Xn hx;exact⟨_,rfl,a,t,m,rfl,e1⟩
    |succ j=>exact hp j x hx
   |_=>injection hp1
theorem mY{K:Type}[DecidableEq K]{w:World}{Zl:K->PV}{hash:K->Int}(M:Emb w Zl hash)(hk:∀k,cY (Zl k)=true)(q:List (K×PV)):∀(acc:List (K×PV)),gg (q.map fun x=>PV.tup [Zl x.1,x.2]) (cu Zl acc)=some (cu Zl (q.foldl (fun a x=>j9 x.1 x.2 a) acc)):=by
 induction q with
|nil=>intro acc;exact rfl
|cons x q ih=>intro acc;refine(?_:(if cY (Zl x.1)=true then(dJ (cu Zl acc) (Zl x.1) x.2).bind (gg _) else none)=_);rw[hk,Yh rfl,j0 M];exact ih _
theorem FA.merged{K:Type}[DecidableEq K]{q:List (K×PV)}{Zj:List (K×Value)}(x:FA T G h q Zj):∀{acc:List (K×PV)}{accv:List (K×Value)},(acc.map (·.1)).Nodup->FA T G h acc accv->FA T G h (q.foldl (fun a x=>j9 x.1 x.2 a) acc) (merged accv Zj):=by
 induction x with
|nil=>intro acc accv _ y;exact y
| @cons k p v q Zj hv _ ih=>intro acc accv nd y;exact ih (v4 k p acc nd) (y.stored nd hv)
structure Iq(T:Tp)(c:Nat)(C:Addr):Prop where
 obj:∃nm q bs sn sub col dd k0 k1 k2 k3 k5 newId,T.h0.get? C=some (excClassObj nm q C (T.cnN c) bs [.type "object"] true sn sub false col dd k0 k1 k2 k3 k5 newId)∧ObjNewFacts newId
 ns:T.h0.Ns (T.cnN c) (T.cns c)
 ď:C≠T.P
 neN:T.cnN c≠T.P
 ga:T.cns c "__getattribute__"=none
 gx:T.cns c "__getattr__"=none
 sa:T.cns c "__setattr__"=none
 atts:∀a∈T.atts,T.meth c a=none->T.cns c (dec a)=none
 meth:∀m f,T.meth c m=some f->∃a o,T.fn f=some a∧T.cns c (dec m)=some (.ref a)∧a≠T.P∧T.h0.get? a=some o∧o.cls=.type "function"∧(∃fd,o.data=.func fd)∧enc (dec m)=some m∧∃y,typeLookup (.type "object") (dec m)=pure y
structure lO(T:Tp):Prop where
 cls:∀c C,T.cls c=some C->Iq T c C
 atts:∀a∈T.atts,typeLookup (.type "object") (dec a)=pure none
 attsN:T.atts.length≤1000
 glob:T.h0.Ns mainGlobals T.mg
 globP:mainGlobals≠T.P
 built:T.h0.Ns builtinsNs T.mb
 builtP:builtinsNs≠T.P
 mods:∃o,T.h0.get? sysModules=some o
 modsP:sysModules≠T.P
theorem lO.æ(B:lO T)(R:aG T G s st){a:Addr}(h:s.heap.get? a=none):a≠sysModules:=by rintro rfl;obtain⟨o,e⟩:=B.mods;rw[(R.old _ _ B.modsP e).1] at h;injection h
theorem FW(B:lO T):wm T HU (.type "dict"):=fun{G s st A n d as vs K} rm R hs H=>by
 obtain⟨p,u,rfl,hv,H⟩:=cF hs H;obtain⟨l,⟨a,rfl,items,m,h,z,x⟩,H⟩:=ly R hv (ab H);obtain⟨hl,H⟩:=aF H;obtain⟨q,Zj,rfl,f,e,hp⟩:=zT hl x;let' e':=x.size;let' M:=kg T;have H:aL (Mine.Internal.alloc st d (.dct (cu .int (q.foldl (fun a x=>j9 x.1 x.2 a) [])))) K:=by have:=ab H;rw[show gg _ []=_ from(mY M.toEmb (fun w=>rfl) q [])] at this;exact this
 refine W.nk R H (uD rm.1 h Zj (by rw[e,Yl]) (by omega) (fun j y hy=>by exact(Yk)▸hp j y hy) fun h' tk ķ hk=>?_);exact⟨h',tk,_,rfl,hk,rfl,aV _,fun G' dk L=>mz M ķ ((f.merged (acc:=[]) (accv:=[]) .nil .nil).lat L) (B.æ R (aV _)) (oA T)⟩
theorem JH:wm T K4 (.builtin "all"):=fun{G s st A n d as vs K} rm R hs H=>by
 obtain⟨p,u,rfl,hv,H⟩:=cF hs H;obtain⟨l,⟨a,rfl,items,m,h,z,x⟩,H⟩:=ly R hv (ab H);obtain⟨bs,rfl,H'⟩:=tS (ab H);have e:=x.size;rw[Xm] at e;have hn:s.heap.get? s.heap.objs.size=none:=aV _;have hb:∀(i:Nat) (b:Bool),bs[i]?=some b->items[i]?=some (.bool b):=fun i b hb=>by
  obtain⟨u,hu,hx⟩:=x.get (i:=i) (p:=.bool b) (by rw[List.getElem?_map,hb];rfl);obtain rfl:=hx
  rwa [Yk] at hu
 refine W.pk R H' (call_all_walk (wpAny_pyIter_list (items:=items) ⟨_,h,rfl,_,rfl⟩ ?_));have Á:a≠s.heap.objs.size:=fun e=>by rw[e,hn] at h;injection h
 refine⟨_,_,_,_,_,_,fun i=>bs.getD i true,rfl,Walks.list (A:=A.in1) rm.1 s.heap.objs.size a Á items,⟨⟨_,XF _ rfl,rfl,rfl⟩,⟨_,Xv _ h,rfl,_,rfl⟩⟩,fun i v s' Q E hP hQ=>?_,fun h' tk hk=>?_⟩
 ·have hi:i<bs.length:=e▸(Array.getElem?_eq_some_iff.mp hP).1;have ω:items[i]?=some v:=hP;rw[hb i bs[i] (XK hi)] at ω;obtain rfl:=Xn ω;refine Y9 ?_;dsimp only at hQ;rw[Yz,XK hi] at hQ;exact hQ
 ·have e2:((List.range items.size).all fun i=>bs.getD i true)=bs.all id:=by
   rw[e];have:(List.range bs.length).map (fun i=>bs.getD i true)=bs:=List.ext_getElem (by rw[Xm,List.length_range]) fun i h1 h2=>by rw[List.getElem_map,List.getElem_range,Yz,XK h2];rfl
   have e3:=YH (List.all · id) this;rw[List.all_map] at e3;exact e3
  exact(e2)▸⟨h',tk,rfl,fun b o Ě=>hk b o (fun hm=>by rw[XU] at hm;rw[hm,hn] at Ě;injection Ě) (Xv _ Ě),dh⟩
end
section
open PySem.W PyProof.Rows
variable{T:Tp}{G G':Gh}{s:Shared}{st st':St}{A:Around}{h h':Heap}
theorem aG.ZB(R:aG T G s st){a:Addr}{m}(x:T.h0.Ns a m)(h:a≠T.P):s.heap.Ns a m:=by obtain⟨o,es,ep,e,r⟩:=x;exact⟨o,es,ep,(R.old _ _ h e).1,r⟩
theorem qg.inst{a dx:Addr}{c:Nat}{mA}(x:qg T h a dx c mA):∃C,T.cls c=some C∧h.Inst a C mA:=by obtain⟨C,e,g,n,d⟩:=x;exact⟨C.1,e.1,_,g,rfl,e.2,.inr ⟨dx,rfl,n,d⟩⟩
theorem eu(a b:Nat)(x:PV)(f:YA):aQ (dK f a x) b=if b=a then some x else aQ f b:=by
 induction f with
|nil=>
  refine(?_:(if a=b then _ else _)=_);by_cases h:a=b
  ·rw[Yh h,Yh h.symm]
  ·rw[Yg h,Yg (Ne.symm h)]
|cons q0 r ih=>
  obtain⟨y,w⟩:=q0;unfold dK;by_cases h:y=a
  ·rw[Yh h];refine(?_:(if y=b then _ else _)=if b=a then _ else if y=b then _ else _);by_cases h2:y=b
   ·rw[Yh h2,Yh (h2.symm.trans h)]
   ·rw[Yg h2,Yg (fun e=>h2 (h.trans e.symm)),Yg h2]
  ·rw[Yg h];refine(?_:(if y=b then _ else aQ (dK r a x) b)=if b=a then _ else if y=b then _ else _);by_cases h2:y=b
   ·rw[Yh h2,Yg (fun e=>h (h2.trans e)),Yh h2]
   ·rw[Yg h2,Yg h2,ih]
theorem nG(a:Nat)(x:PV)(f:YA):∀(k:Nat),(k∈f.map (·.1)∨k=a)↔k∈(dK f a x).map (·.1):=by
 induction f with
|nil=>intro k;exact⟨fun h=>h.elim nofun fun e=>XU.mpr e,fun h=>.inr (XU.mp h)⟩
|cons q0 r ih=>
  obtain⟨y,w⟩:=q0;intro k;unfold dK;split
  ·rename_i h;subst h;exact⟨fun h=>h.elim id fun e=>e▸Xy,.inl⟩
  ·rw[XM,XM,Xo,Xo,<-ih k,or_assoc]
theorem uz(a:Nat)(x:PV){f:YA}:(f.map (·.1)).Nodup->((dK f a x).map (·.1)).Nodup:=by
 induction f with
|nil=>intro _;exact YS.mpr ⟨nofun,.nil⟩
|cons q0 r ih=>
  obtain⟨y,w⟩:=q0;intro h;unfold dK;split
  ·exact h
  ·rename_i Á;exact YS.mpr ⟨fun e=>((nG a x r y).mpr e).elim (YS.mp h).1 Á,ih (YS.mp h).2⟩
theorem sF{a:Nat}{x:PV}(hx:aw x=true){f:YA}:kI f=true->kI (dK f a x)=true:=by
 induction f with
|nil=>intro _;exact(Xp _ _).mpr ⟨hx,rfl⟩
|cons q0 r ih=>
  obtain⟨y,w⟩:=q0;intro h;unfold dK;split
  ·exact(Xp _ _).mpr ⟨hx,(az h).2⟩
  ·exact(Xp _ _).mpr ⟨(az h).1,ih (az h).2⟩
theorem jQ{a b:Nat}(ha:enc (dec a)=some a)(hb:enc (dec b)=some b)(h:dec a=dec b):a=b:=Xn (ha.symm.trans ((YH enc h).trans hb))
theorem gH.get{m:Str->Option Value}:∀{f:List (Nat×PV)},gH T G h f m->∀{a:Nat}{p:PV},aQ f a=some p->∃v,m (dec a)=some v∧V T G h p v
|(k,q)::f,x,a,p,e=>by
  obtain⟨⟨_,v,e1,e2⟩,x⟩:=x;unfold aQ at e;split at e
  ·rename_i hk;subst hk;injection e with e;exact⟨v,e1,e▸e2⟩
  ·exact gH.get x e
theorem gH.enc{m:Str->Option Value}:∀{f:List (Nat×PV)},gH T G h f m->∀a∈f.map (·.1),enc (dec a)=some a
|(k,q)::f,x,a,e=>(Xo.mp e).elim (fun e=>e▸x.1.1) fun e=>gH.enc (f:=f) x.2 a e
theorem gH.keep{m:Str->Option Value}{a:Nat}{v:Value}(ha:Mine.Internal.enc (dec a)=some a){f:List (Nat×PV)}:a∉f.map (·.1)->gH T G h f m->gH T G h f (fun y=>if y=dec a then some v else m y):=by
 induction f with
|nil=>intro _ _;exact trivial
|cons q0 f ih=>obtain⟨k,q⟩:=q0;rintro hn ⟨⟨e0,u,e1,e2⟩,z⟩;exact⟨⟨e0,u,(Yg fun(e:dec k=dec a)=>hn (jQ e0 ha e▸Xy)).trans e1,e2⟩,ih (fun e=>hn (XB _ e)) z⟩
theorem gH.set{m:Str->Option Value}{a:Nat}{x:PV}{v:Value}(ha:Mine.Internal.enc (dec a)=some a)(hx:V T G h x v):
  ∀{f:List (Nat×PV)},(f.map (·.1)).Nodup->gH T G h f m->gH T G h (dK f a x) (fun y=>if y=dec a then some v else m y)
|[],_,_=>⟨⟨ha,v,Yh rfl,hx⟩,trivial⟩
|(k,q)::f,nd,⟨⟨e0,u,e1,e2⟩,z⟩=>by
  obtain⟨n1,n2⟩:=YS.mp nd;unfold dK;split
  ·rename_i hk;subst hk;exact⟨⟨ha,v,Yh rfl,hx⟩,gH.keep ha n1 z⟩
  ·rename_i hk;exact⟨⟨e0,u,(Yg fun e=>hk (jQ e0 ha e)).trans e1,e2⟩,gH.set ha hx n2 z⟩
def PU(T:Tp)(G:Gh)(s:Shared)(K:St->Prop):Unit->Shared->Prop:=fun z s'=>∃st',K st'∧∃G',aG T G' s' st'∧cB (Xe G.n) G s G' s'
theorem PU.of{K:St->Prop}{h':Heap}{tk:Nat}(x:∃st',K st'∧(aG T G {s with heap:=h',toks:=tk} st'∧cB (Xe G.n) G s G {s with heap:=h',toks:=tk})):PU T G s K () {s with heap:=h',toks:=tk}:=by obtain⟨st',k,a,b⟩:=x;exact⟨st',k,G,a,b⟩
theorem jx(B:lO T)(R:aG T G s st){C:Zn}{o x:PV}{a:Nat}{v u:Value}{K:St->Prop}(Õ:a∈T.atts)(hM:∀c m,C.M c m=T.meth c m)(he:enc (dec a)=some a)(hv:V T G s.heap o v)(hx:V T G s.heap x u)(H:aL (Mine.Internal.jU C st o a x) K):
  W T A (PySem.setAttr v (dec a) u) (PU T G s K) s:=by
 obtain⟨⟨c,f⟩,hi,H⟩:=(ab H).get;obtain⟨hc,H⟩:=aF H;have hok:=(az (az hc).1).1;obtain⟨b,t,e,rfl,Tu⟩:=R.turn H hv;have e1:e.o=.inst c f:=Xn (Tu.vw.symm.trans (y8 hi));have ob:=Tu.ent.obj;rw[e1] at ob;obtain⟨dx,mA,hdx,hI,nd,hw,vf⟩:=ob;obtain⟨D,hD,I⟩:=hI.inst;obtain⟨⟨nm,q,bs,sn,sub,col,dd,k0,k1,k2,k3,k5,newId,Ê,_⟩,û,ď,neN,_,_,hsa,ç,_⟩:=B.cls c D hD;have hbC:b≠D:=fun e=>Tu.ne.1 (Tu.ent.own.symm.trans (e▸(R.old _ _ ď Ê).2))
 obtain⟨C',hC',hb,hdb,FL⟩:=hI;obtain rfl:D=C'.1:=Xn (hD.symm.trans hC'.1);refine store_attr PySem.F.store_object (R.old _ _ ď Ê).1 (R.ZB û neN) hsa (ç a Õ ((hM c a).symm.trans (Yu.mp (az (az hc).1).2))) (B.atts a Õ) hbC I (fun h' ú I' hk Ĺ=>?_) (ns:=f.map (dec ∘ (·.1))) (fun y hy=>?_) (by rw[Xm];exact ay (Xk (Ye (az hc).2) (by decide)))
 ·obtain⟨o1,g1,g2,g3,g4,g5⟩:=Ĺ _ hb;have g6:=g5 dx rfl;clear g5;have Ě:h'.get? b=some (zU C' dx):=by
   rw[g1];obtain⟨c1,c2,c3,c4⟩:=o1;dsimp only at g2 g3 g4 g6;subst g2 g3 g4 g6;rfl
  obtain⟨o2,j1,j2,j3,j4⟩:=I';rw[Ě] at j1;injection j1 with j1;subst j1
  obtain⟨j4,_⟩|⟨dx',j4,j5,j6⟩:=j4
  ·cases j4
  injection j4 with j4;subst j4
  have ZU:∀z oz,z≠b->z≠dx->s.heap.get? z=some oz->h'.get? z=some oz:=fun z oz h1 h2 h3=>hk z oz h1 (fun o₀ d0 e1 e2=>by rw[hb] at e1;injection e1 with e1;subst e1;injection e2 with e2;exact e2▸h2) h3
  refine PU.of (Tu.go h' ú (fun z oz h1 h2 h3=>ZU z oz h1 (fun x=>h2 (x▸hdx)) h3) (fun z ⟨oz,hz⟩=>?_) (fun L=>⟨dx,_,hdx,⟨C',hC',Ě,hdb,j6⟩,uz a x nd,fun n w hn=>?_,gH.set he (hx.lat L) nd (vf.lat L)⟩) fun hg=>sF (dv hok hg) (by have:=Tu.nl hg;rw[e1] at this;exact this))
  ·by_cases h1:z=b
   ·exact h1▸⟨_,Ě⟩
   ·by_cases h2:z=dx
    ·exact h2▸qt j6
    ·exact⟨oz,ZU z oz h1 h2 hz⟩
  ·by_cases e:n=dec a
   ·exact⟨a,(nG a x f a).mp (.inr rfl),e⟩
   ·rw[Yg e] at hn;obtain⟨k,hk,e⟩:=hw n w hn;exact⟨k,(nG a x f k).mp (.inl hk),e⟩
 ·obtain⟨w,hw'⟩:=Option.ne_none_iff_exists'.mp hy;obtain⟨k,hk,e⟩:=hw y w hw';obtain⟨z,hz,rfl⟩:=Yt.mp hk;exact Yt.mpr ⟨z,hz,e.symm⟩
theorem Vs.set{l:List PV}{vs:List Value}(x:Vs T G h l vs)(i:Nat){p:PV}{v:Value}(hv:V T G h p v):Vs T G h (l.set i p) (vs.set i v):=by
 refine .of_get (by rw[List.length_set,List.length_set,x.length]) fun j q u e1 e2=>?_
 rcases dg e1 with⟨rfl,rfl⟩|⟨É,e1⟩
 ·rcases dg e2 with⟨_,rfl⟩|⟨h,_⟩
  ·exact hv
  ·exact absurd rfl h
 ·rcases dg e2 with⟨h,_⟩|⟨_,e2⟩
  ·exact absurd h É
  ·obtain⟨w,e3,hw⟩:=x.get e1;exact Xn (e3.symm.trans e2)▸hw
theorem tR{l:Addr}{items:Array Value}{n:Nat}{k:Int}{t:Tok}{v:Value}{E:Value->Shared->Prop}{Q:Unit->Shared->Prop}(ho:s.heap.get? l=some (bD items n))
  (h0:0≤k) (ĺ:k<2^63) (hn:k<items.size)
  (hQ:Q () {s with heap:=s.heap.update l (Obj.mapSeq (·.setIfInBounds k.toNat v))}):
  wpAny (model T.prog T.w) A (setItem (.ref l) (.int k t) v) Q E s:=by
 let' hl:s.heap.IsList l items:=⟨_,ho,rfl,_,rfl⟩
 unfold setItem
 try with_reducible refine YD ?_
 first|refine X9 (Yb ?_)|skip
 refine X9 (wpAny_sequenceKey hl.typeIs (by decide) ?_);refine X9 (wpAny_callSpecial?_slot (name:=Str.ofString "__setitem__") hl.typeIs slot_list_setitem
  (Zb slot_list_setitem hl.typeIs entry_list_setitem ?_ (args_list_setitem _ _ _)))
 refine(?_:wpAny _ _ (Builtin.List.listSubscript? (.int k t)>>= _) _ _ s);refine X9 (wpAny_listSubscript_int (fitsIndex_of h0 ĺ) ?_);clear ĺ;obtain⟨j,rfl⟩:=Int.eq_ofNat_of_zero_le h0;let' Ï:items[j]?=some items[j]:=Array.getElem?_eq_getElem (Yo.mp hn:j<items.size);refine(?_:wpAny _ _ ((seqItemAt l j>>= fun r=>pure (r.map (j,·)))>>= _) _ _ s);refine X9 (X9 (wpAny_seqItemAt ho rfl (Yb ?_)));rw[Ï];refine(?_:wpAny _ _ (setSeqItemAt l j v>>= _) _ _ s);refine X9 (wpAny_setSeqItemAt ho rfl ?_)
 first
  |exact X9 (Yb (Yb ⟨.none,rfl,Yb hQ⟩))
  |exact Yb ⟨.none,rfl,Yb hQ⟩
theorem sO{l:List (PV×PV)}:cJ l=true↔∀x∈l,aw x.1=true∧aw x.2=true:=by
 induction l with
|nil=>exact⟨fun z=>nofun,fun z=>rfl⟩
|cons q0 l ih=>obtain⟨k,v⟩:=q0;rw[List.forall_mem_cons,<-ih];exact(Bool.and_eq_true_iff).trans (and_congr_left fun z=>Bool.and_eq_true_iff)
theorem tQ{k:PV}(h:cY k=true):aw k=true:=by
 cases k with
|tup l=>exact cD.mpr fun v hv=>by obtain⟨i,rfl⟩:=sN v (XV.mp h v hv);rfl
|int=>rfl
|str=>rfl
|_=>injection h
theorem vd{k v:PV}(hk:cY k=true)(hv:aw v=true){l:List (PV×PV)}:∀{l':List (PV×PV)},dJ l k v=some l'->cJ l=true->cJ l'=true:=by
 induction l with
|nil=>intro l' h _;injection h with h;subst h;exact sO.mpr (List.forall_mem_singleton.mpr ⟨tQ hk,hv⟩)
|cons q0 r ih=>
  obtain⟨k',w⟩:=q0;intro l' h hl;let' å:=az hl;obtain⟨b,_,h⟩:=XC.mp h;cases b with
  |true=>injection h with h;subst h;exact(Xp _ _).mpr ⟨(Xp _ _).mpr ⟨(az å.1).1,hv⟩,å.2⟩
  |false=>obtain⟨q,hq,h⟩:=XN.mp h;subst h;exact(Xp _ _).mpr ⟨å.1,ih hq å.2⟩
theorem yf{n:Nat}(rm:fF n A)(R:aG T G s st){o i x:PV}{v w u:Value}{K:St->Prop}(hv:V T G s.heap o v)(hi:V T G s.heap i w)(hx:V T G s.heap x u)(H:aL (nY st o i x) K):W T A (setItem v w u) (PU T G s K) s:=by
 obtain⟨ob,Đ,H⟩:=(ab H).get;cases ob with
|lst l=>
  obtain⟨i,t,rfl,H⟩:=bG hi (ab H);obtain⟨hc,H⟩:=aF H;obtain⟨h0,h1⟩:=Ye (az hc).1;obtain⟨a,tg,e,rfl,Tu⟩:=R.turn H hv;obtain⟨items,m,g1,g2,g3,go⟩:=Tu.lst Đ;let' e:=g3.size;refine tR g1 h0 (Int.lt_trans h1 (Yo.mpr (XQ g2 (by decide)))) (e.symm▸h1) (PU.of (go (·.setIfInBounds i.toNat u) s.toks (by rw[List.length_set];exact g2) (by rw[Array.toList_setIfInBounds];exact g3.set _ hx) fun hg n=>cD.mpr fun w hw=>?_));rcases List.mem_or_eq_of_mem_set hw with hw|rfl
  ·exact cD.mp n w hw
  ·exact dv (az hc).2 hg
|dct l=>
  obtain⟨hc,H⟩:=aF H;obtain⟨l',å,H⟩:=(ab H).get;obtain⟨a,tg,e,rfl,Tu⟩:=R.turn H hv;let' e1:e.o=.dct l:=Xn (Tu.vw.symm.trans Đ);let' ob:=Tu.ent.obj;rw[e1] at ob;refine SH rm ob (bW (az (az hc).1).2) (az (az hc).1).1 hi hx å fun h' tk hs ho=>?_
  exact PU.of (Tu.only tk (fun b hb=>hs.2 b hb) ho fun hg=>vd (az (az hc).1).1 (dv (az hc).2 hg) å (by have:=Tu.nl hg;rw[e1] at this;exact this))
|_=>exact H.elim
theorem sP:∀{fs:YA}{m:Nat},m∈fs.map (·.1)->(aQ fs m).isSome=true
|(k,w)::r,m,h=>by
  unfold aQ;split
  ·rfl
  ·rename_i Á;exact(Xo.mp h).elim (fun h=>absurd h.symm Á) sP
theorem xa(B:lO T)(R:aG T G s st){c:Nat}{f:YA}{x:PV}{a:Nat}{v:Value}{e:Bool}(hi:xl T G s.heap c f v)(Õ:a∈T.atts)(hm:T.meth c a=none)(hx:aQ f a=some x):
  W T A (getAttr v (dec a) e) (PG T G s x) s:=by
 obtain⟨b,rfl,dx,mA,_,hI,nd,hw,vf⟩:=hi;obtain⟨C,hC,I⟩:=hI.inst;obtain⟨⟨nm,q,bs,sn,sub,col,dd,k0,k1,k2,k3,k5,newId,Ê,_⟩,û,ď,neN,ù,_,hsa,ç,_⟩:=B.cls c C hC;obtain⟨u,hu,þ⟩:=vf.get hx;exact load_attr (R.old _ _ ď Ê).1 (R.ZB û neN) ù (ç a Õ hm) (B.atts a Õ) I hu (zD þ) (PG.here _ þ)
theorem Gw(B:lO T)(R:aG T G s st){c m f:Nat}{fs:YA}{v:Value}{pl:Sem Bool}(hi:xl T G s.heap c fs v)(hf:¬(aQ fs m).isSome=true)(hm:T.meth c m=some f){Q:Value×List Value->Shared->Prop}
  (k:∀a,T.fn f=some a->Q (.ref a,[v]) s):W T A (getMethod v (dec m) pl) Q s:=by
 obtain⟨b,rfl,dx,mA,_,hI,nd,hw,vf⟩:=hi;obtain⟨C,hC,I⟩:=hI.inst;let' X:=B.cls c C hC;obtain⟨nm,q,bs,sn,sub,col,dd,k0,k1,k2,k3,k5,newId,Ê,_⟩:=X.obj;obtain⟨a,oa,h1,h2,h3,h4,h5,h6,h7,y,h8⟩:=X.meth m f hm;refine method_of (R.old _ _ X.ď Ê).1 (R.ZB X.ns X.neN) X.ga X.gx h2 (R.old _ _ h3 h4).1 h5 h8 I ?_ (k a h1);cases hq:mA (dec m) with
|none=>rfl
|some w=>obtain⟨k,hk,e⟩:=hw _ w hq;exact absurd (sP (jQ h7 (vf.enc k hk) e▸hk)) hf
end
section
open PySem.W PyProof.Rows
def jo(n i:Nat):iW->iW
|.fr m (.obj j d)=>if m=n∧j=i then .fz else .fr m (.obj j d)
|t=>t
theorem yQ{n i:Nat}{t:iW}(h:∀d,t≠.fr n (.obj i d)):jo n i t=t:=by
 cases t with
|fr m k=>
  cases k with
  |obj j d=>exact Yg fun Zg=>by obtain⟨e1,e2⟩:=Zg;exact h d (e1▸e2▸rfl)
  |_=>rfl
|_=>rfl
theorem ki{n i:Nat}{d:Bool}:jo n i (.fr n (.obj i d))=.fz:=Yh ⟨rfl,rfl⟩
section
variable{T:Tp}{G:Gh}{s:Shared}{st:St}{A:Around}
theorem aG.freeze(R:aG T G s st){i:Nat}{e:Ent}(he:st.l[i]?=some e){a:Addr}(ea:G.la[i]?=some a):
  ∃G',aG T G' s {st with l:=st.l.set i ⟨e.o,.ZG⟩}∧cB (Xe G.n) G s G' s∧V T G' s.heap (dR e.o) (.ref a):=by
 have M:Mv (fun b=>∃d,G.own b=.fr G.n (.obj i d)) G s {G with own:=fun b=>jo G.n i (G.own b)} s:=⟨fun b d=>yQ fun x e=>d ⟨x,e⟩,fun z z z e=>e,fun b Zg e'=>by obtain⟨d,e⟩:=Zg;exact(nomatch e.symm.trans e'),fun b o Z6 e'=>by obtain⟨d,e⟩:=Z6;exact(nomatch e.symm.trans e'),
  fun b Zg hl=>by obtain⟨d,e⟩:=Zg;exact⟨fun z e=>e,by show iY (jo G.n i (G.own b))=true;rw[e,ki];rfl⟩,fun b Z6 hn=>by obtain⟨d,e⟩:=Z6;exact absurd (show jo G.n i (G.own b)=.fz by rw[e,ki]) hn,rfl,fun z z z z z h=>h,Xq _,rfl,rfl⟩
 let' E:=R.l i e a he ea;have E':dp T {G with own:=fun b=>jo G.n i (G.own b)} s.heap .fz a ⟨e.o,.ZG⟩:=by
  have zz:∀b,G.own b=dX G.n i e.k∨G.own b=(dX G.n i e.k).d->jo G.n i (G.own b)=.fz:=fun b h=>by
   cases hk:e.k with
   |ZG=>rw[hk] at h;rw[h.elim id id];rfl
   |_=>rw[hk] at h;exact h.elim (fun h=>h▸ki) fun h=>h▸ki
  exact⟨zz a (.inl E.own),E.obj.lt (M.lt (nl:=false) fun z=>Xq _) (fun z e=>e) (fun dx o d e=>⟨e,zz dx (.inr d)⟩) (fun h=>by injection h),(fun h=>by injection h),(fun h=>by injection h)⟩
 refine⟨_,R.mv M R.nle R.glen (by rw[List.length_set];exact R.llen) (fun j f b h1 h2=>.inl ⟨h1,h2,fun c d e ⟨_,e'⟩=>(nomatch e.symm.trans e')⟩) R.gk fun j f b h1 h2=>?_,Ex.mv R M (Xq _) rfl (fun z=>rfl) fun b n k e ⟨d,e'⟩=>?_,qT E'.own E'.obj⟩
 ·rcases dg h1 with⟨rfl,rfl⟩|⟨É,h1⟩
  ·let' h2:G.la[i]?=some b:=h2;rw[ea] at h2;obtain rfl:=Xn h2;exact .inr E'
  ·exact .inl ⟨h1,h2,rfl,Xq _,fun c d e Æ=>by obtain⟨_,e'⟩:=Æ;have:=e.symm.trans e';injection this with _ this;injection this with this;exact É this.symm⟩
 ·have:=e.symm.trans e';injection this with e1 e2;exact⟨e1,_,_,e2⟩
theorem BR(R:aG T G s st){p:PV}{K:PV×St->Prop}{v:Value}(hv:V T G s.heap p v)(H:aL (fi st p) K):∃r,K r∧aw r.1=true∧r.2.g=st.g∧∃G',aG T G' s r.2∧cB (Xe G.n) G s G' s∧V T G' s.heap r.1 v:=by
 have other:aL (if aw p then some (p,st) else none) K->∃r,K r∧aw r.1=true∧r.2.g=st.g∧∃G',aG T G' s r.2∧cB (Xe G.n) G s G' s∧V T G' s.heap r.1 v:=fun H=>⟨_,(aF H).2,(aF H).1,rfl,G,R,Ex.refl _ _ _ _,hv⟩
 cases p with
|loc i=>obtain⟨a,ea,rfl⟩:=hv;obtain⟨e,he,H⟩:=(ab H).get;obtain⟨hn,H⟩:=aF H;exact⟨_,H,hn,rfl,R.freeze he ea⟩
|_=>exact other H
theorem Eh{l:List PV}:∀{G:Gh}{st:St}{K:List PV×St->Prop}{vs:List Value}(R:aG T G s st) (hv:Vs T G s.heap l vs) (H:aL (jJ st l) K),
  ∃r,K r∧aj r.1=true∧r.2.g=st.g∧∃G',aG T G' s r.2∧cB (Xe G.n) G s G' s∧Vs T G' s.heap r.1 vs:=by
 induction l with
|nil=>intro G st K vs R hv H;exact⟨_,H,rfl,rfl,G,R,Ex.refl _ _ _ _,hv⟩
|cons p l ih=>intro G st K vs R hv H;obtain⟨v,r,rfl,h1,h2⟩:=hv;obtain⟨x,H,n1,g1,G1,R1,X1,V1⟩:=BR R h1 (ab H);obtain⟨y,H,n2,g2,G2,R2,X2,V2⟩:=ih R1 (h2.lat X1.lat) (ab H);exact⟨_,H,(Xp _ _).mpr ⟨n1,n2⟩,g2.trans g1,G2,R2,X1.trans (X1.n▸X2),bA (V1.lat X2.lat) V2⟩
end
abbrev IL:=List ((Nat×Nat)×DK)
structure Cx where
 ss:IL
 atts:List Nat
 top:List Nat
structure Sx where
 T:Tp
 C:Zn
 n:Nat
 cx:Cx
structure Fr where
 env:Env
 lev:Nat
 vars:YA
 A:Around
noncomputable def G0(T:Tp):Gh:={own:=fun a=>if a=T.P then .ct else .fz,ga:=[],la:=[],n:=0,top:=0,lk:=fun z=>False}
def k6(h:Heap)(a:Addr):Prop:=∃o,h.get? a=some o∧((∃fd,o.data=.func fd)∨∃nm q C N bs bm sn sub col dd k0 k1 k2 k3 k5 newId,o=excClassObj nm q C N bs bm true sn sub false col dd k0 k1 k2 k3 k5 newId)
structure O2(X:Sx):Prop where
 K:∀x p,X.C.K x=some p->∃v,X.T.mg (dec x)=some v∧V X.T (G0 X.T) X.T.h0 p v
 M:∀c m,X.C.M c m=X.T.meth c m
 F:∀f l g r,X.C.F f l g=some r->∃a,X.T.fn f=some a∧a≠X.T.P∧k6 X.T.h0 a∧
  ∀{G:Gh}{s:Shared}{st:St}{A:Around}{vs:List Value},st.g=g->aG X.T G s st->fF X.n A->aj l=true->Vs X.T G s.heap l vs->W X.T A (call (.ref a) vs) (PE X.T G s {st with g:=r.2} r.1) s
noncomputable def HH:List (Nat×Value):=[(7103854,Value.builtin "len"),(7170414,Value.builtin "min"),(7168376,Value.builtin "max"),(7566701,Value.builtin "sum"),(126922498794852,Value.builtin "sorted"),(500186508389,Value.type "tuple"),(1818850164,Value.type "list"),(1684628340,Value.type "dict"),(6909556,Value.type "int"),(422944466291,Value.type "bytes"),(7303780,Value.builtin "ord"),(6384748,Value.builtin "all"),(497977453406354454504293,Value.builtin "isinstance"),(491260897125,Value.type "range"),(1871080539643590046821,Value.type "enumerate"),(8022384,Value.type "zip")]
structure Lb(X:Sx):Prop where
 atts:∀a,X.cx.atts.contains a=true->a∈X.T.atts
 top:∀k a,X.cx.top.contains k=true->X.T.fn k=some a->X.T.mg (dec k)=some (.ref a)
 off:∀k,¬X.cx.top.contains k=true->enc (dec k)=some k->X.T.mg (dec k)=none
 bi:∀k v,¬X.cx.top.contains k=true->(k,v)∈HH->X.T.mb (dec k)=some v
structure Ok(X:Sx):Prop where
 B:lO X.T
 O:O2 X
 Y:Lb X
def DV(sc sc':Scope):Prop:=∀x,sc'.names.lookup x=sc.names.lookup x∨(sc.names.lookup x=some .free∧sc'.names.lookup x=some .cell)
abbrev wp(X:Sx){α:Type}(F:Fr)(m:Sem α)(Q:α->Shared->Prop)(s:Shared):Prop:=W X.T F.A m Q s
structure At(X:Sx)(sc:Scope)(F:Fr)(G:Gh)(s:Shared)(st:St):Prop where
 R:aG X.T G s st
 E:oS X.T G s.heap F.env F.lev F.vars
 rm:fF X.n F.A
 lv:F.lev≤G.top
 ZK:DV sc F.env.scope
structure fg(X:Sx)(sc:Scope)(F:Fr)(G:Gh)(s:Shared)(G':Gh)(s':Shared)(st':St):Prop where
 a:At X sc F G' s' st'
 x:cB (Xe G.n) G s G' s'
section
variable{X:Sx}{sc:Scope}{F:Fr}{G G' G2:Gh}{s s' s2:Shared}{st st' Zu:St}
theorem fg.trans(a:fg X sc F G s G' s' st')(b:fg X sc F G' s' G2 s2 Zu):fg X sc F G s G2 s2 Zu:=⟨b.a,a.x.trans (a.x.n▸b.x)⟩
theorem fg.refl(a:At X sc F G s st):fg X sc F G s G s st:=⟨a,Ex.refl _ _ _ _⟩
theorem At.ZV(a:At X sc F G s st)(R:aG X.T G' s' st')(x:cB (Xe G.n) G s G' s'):fg X sc F G s G' s' st':=⟨⟨R,a.E.Ç pH x,a.rm,x.top rfl▸a.lv,a.ZK⟩,x⟩
theorem At.grow(a:At X sc F G s st){h':Heap}(tk:Nat)(k:gn s.heap h'):fg X sc F G s G {s with heap:=h',toks:=tk} st:=a.ZV (a.R.grow tk k) (cB.grow _ a.R tk k)
def D2(X:Sx)(sc:Scope)(F:Fr)(G:Gh)(s:Shared)(Q:Value->Shared->Prop)(r:PV×St):Prop:=∀G' v s',fg X sc F G s G' s' r.2->V X.T G' s'.heap r.1 v->Q v s'
def tF(X:Sx)(sc:Scope)(F:Fr)(G:Gh)(s:Shared)(Q:Bool->Shared->Prop)(r:Bool×St):Prop:=∀G' s',fg X sc F G s G' s' r.2->Q r.1 s'
def TM(X:Sx)(sc:Scope)(F:Fr)(G:Gh)(s:Shared)(Q:List Value->Shared->Prop)(r:List PV×St):Prop:=∀G' v s',fg X sc F G s G' s' r.2->Vs X.T G' s'.heap r.1 v->v.length=r.1.length->Q v s'
theorem D2.step{Q:Value->Shared->Prop}{r:PV×St}(a:fg X sc F G s G' s' st')(h:D2 X sc F G s Q r):D2 X sc F G' s' Q r:=fun G2 v s2 b hv=>h G2 v s2 (a.trans b) hv
theorem tF.step{Q:Bool->Shared->Prop}{r:Bool×St}(a:fg X sc F G s G' s' st')(h:tF X sc F G s Q r):tF X sc F G' s' Q r:=fun G2 s2 b=>h G2 s2 (a.trans b)
theorem W.fin{m:Sem Value}{Q:Value->Shared->Prop}(a:fg X sc F G s G' s' st'){K:PV×St->Prop}(k:∀r,K r->D2 X sc F G s Q r)(x:W X.T F.A m (PK X.T G' s' K) s'):wp X F m Q s':=
 x.mono fun v s2 Zg=>by obtain⟨r,hr,G2,R2,X2,hv⟩:=Zg;exact k r hr G2 v s2 (a.trans (a.a.ZV R2 X2)) hv
theorem W.è{m:Sem Value}{Q:Value->Shared->Prop}(a:fg X sc F G s G' s' st'){p:PV}(k:D2 X sc F G s Q (p,st'))(x:W X.T F.A m (PG X.T G' s' p) s'):wp X F m Q s':=
 (x.pk a.a.R (K:=(· =(p,st'))) rfl).fin a fun r (e:r=(p,st'))=>e▸k
def SE(X:Sx)(sc:Scope)(e:Expr)(d:DE):Prop:=
 ∀{F:Fr}{G:Gh}{s:Shared}{st:St}{Q:Value->Shared->Prop},At X sc F G s st->aL (d X.C F.vars st) (D2 X sc F G s Q)->wp X F (eval e F.env) Q s
def ST(X:Sx)(sc:Scope)(e:Expr)(d:DT):Prop:=
 ∀{F:Fr}{G:Gh}{s:Shared}{st:St}{Q:Bool->Shared->Prop},At X sc F G s st->aL (d X.C F.vars st) (tF X sc F G s Q)->wp X F (isTrue e F.env (eval e F.env)) Q s
theorem SE.then{e:Expr}{d:DE}(S:SE X sc e d)(a:fg X sc F G s G' s' st'){β:Type}{f:PV×St->Option β}{K:β->Prop}{Q:Value->Shared->Prop}(H:aL ((d X.C F.vars st').bind f) K)
  (k:∀r G2 v s2,fg X sc F G s G2 s2 r.2->jz G' s'.heap G2 s2.heap->V X.T G2 s2.heap r.1 v->aL (f r) K->Q v s2):wp X F (eval e F.env) Q s':=
 S a.a ((ab H).mono fun r H G2 v s2 b hv=>k r G2 v s2 (a.trans b) b.x.lat hv H)
theorem ST.then{e:Expr}{d:DT}(S:ST X sc e d)(a:fg X sc F G s G' s' st'){β:Type}{f:Bool×St->Option β}{K:β->Prop}{Q:Bool->Shared->Prop}(H:aL ((d X.C F.vars st').bind f) K)
  (k:∀b Zu G2 s2,fg X sc F G s G2 s2 Zu->aL (f (b,Zu)) K->Q b s2):wp X F (isTrue e F.env (eval e F.env)) Q s':=
 S a.a ((ab H).mono fun r H G2 s2 b=>k r.1 r.2 G2 s2 (a.trans b) H)
theorem Jk{c:Const}{k:Nat}{pos:Pos}{p:PV}(h:match c with|.none=>p=.none|.bool b=>p=.bool b|.int i=>p=.int i|.str x=>p=.str x|.bytes b=>p=.bytes b∧aq b=true|_=>False):SE X sc (.Constant c k pos) (yD p):=fun a H=>by
 cases c with
|none=>subst h;exact wpAny_Constant_none (H _ _ _ (.refl a) gP)
|bool b=>subst h;exact wpAny_Constant_bool (H _ _ _ (.refl a) dh)
|int i=>subst h;exact wpAny_Constant_int (H _ _ _ (a.grow _ fun z z e=>e) (cM _ _ _))
|str x=>subst h;exact Calls.Constant_str (H _ _ _ (a.grow _ fun z z e=>e) (HB _ _ _))
|bytes b=>obtain⟨rfl,hz⟩:=h;exact Constant_bytes (H _ _ _ (a.grow _ fun z z e=>e) (mw (bW hz)))
|_=>exact h.elim
noncomputable def bj(x:Str):Bool:= !(x==Str.ofString "__debug__")&& !(x==Str.ofString "__classdict__")
theorem qd{b:Bool}(h:(!b)=true):b=false:=by cases b with|false=>rfl|true=>injection h
theorem cj{x:Str}(h:bj x=true):(x==("__debug__":Str))=false∧(x==("__classdict__":Str))=false:=
 ⟨qd (az h).1,qd (az h).2⟩
theorem bz{x:Str}{k:Nat}(h:enc x=some k):dec k=x∧enc (dec k)=some k:=by
 let' h':=h;unfold enc at h;split at h
 ·rename_i e;obtain rfl:=Xn h;exact⟨e,by rw[e];exact h'⟩
 ·injection h
theorem b6{env:Env}{x:Str}(hs:DV sc env.scope)(h:sc.names.lookup x≠some .free):env.kindOf x=sc.names.lookup x:=(hs x).elim id fun e=>absurd e.1 h
theorem Mh{x:Str}{pos:Pos}{k:Nat}(hx:sc.names.lookup x=some .local∨sc.names.lookup x=some .cell∨sc.names.lookup x=some .free)(hk:enc x=some k)(hn:bj x=true):SE X sc (.Name x pos) (y3 k):=fun{F G s st Q} a H=>by
 obtain⟨p,hp,H⟩:=(ab H).get;obtain⟨hd,-⟩:=bz hk;subst hd;refine wpAny_Name ?_ (cj hn).1;have cell:∀{c},(F.env.kindOf (dec k)=some .cell->c)->(F.env.kindOf (dec k)=some .free->c)->F.env.kindOf (dec k)=some .cell∨F.env.kindOf (dec k)=some .free->c:=fun f g h=>h.elim f g
 rcases hx with e|e
 ·have ZW:=(b6 a.ZK (by rw[e];nofun)).trans e;obtain⟨m,h1,h2,h3⟩:=a.E.loc;obtain⟨v,h4,h5⟩:=h3 k p hp ZW;exact wpAny_loadName_local a.E.kind ZW h1 h4 (H _ _ _ (.refl a) h5)
 ·have ZW:F.env.kindOf (dec k)=some .cell∨F.env.kindOf (dec k)=some .free:=(a.ZK (dec k)).elim (fun h=>e.imp h.trans h.trans) fun h=>.inl h.2
  obtain⟨c,v,h1,h2,h3⟩:=a.E.cell k p hp ZW;rcases ZW with ZW|ZW
  ·exact wpAny_loadName_cell a.E.kind ZW h1 h2 (H _ _ _ (.refl a) h3)
  ·exact wpAny_loadName_free a.E.kind ZW h1 h2 (H _ _ _ (.refl a) h3) (cj hn).2
theorem aG.Ļ{T:Tp}{G:Gh}{s:Shared}{st:St}(R:aG T G s st):jz (G0 T) T.h0 G s.heap:=by
 refine⟨fun a o e f=>?_,fun z=>List.nil_prefix,List.nil_prefix⟩;have:a≠T.P:=by rintro rfl;have e:(if T.P=T.P then iW.ct else .fz)=.fz:=e;rw[Yh rfl] at e;injection e
 exact R.old a o this f
theorem wK{x:Str}{v:Value}{Q:Value->Shared->Prop}(B:lO X.T)(a:At X sc F G s st)(hv:X.T.mg x=some v)(h:Q v s):wp X F (loadGlobal F.env x) Q s:=
 Calls.loadGlobal_global (by exact(a.E.gl)▸a.R.ZB B.glob B.globP) hv h
theorem jP{x:Str}{v:Value}{Q:Value->Shared->Prop}(B:lO X.T)(a:At X sc F G s st)(hn:X.T.mg x=none)(hv:X.T.mb x=some v)(h:Q v s):wp X F (loadGlobal F.env x) Q s:=
 Calls.loadGlobal_builtin (by rw[a.E.gl];exact a.R.ZB B.glob B.globP) hn (by rw[a.E.bu];exact a.R.ZB B.built B.builtP) hv h
theorem er{x:Str}{env:Env}(hs:DV sc env.scope)(e:sc.names.lookup x=some .globalImplicit):env.kindOf x=some .globalImplicit:=(b6 hs (by rw[e];nofun)).trans e
theorem OZ(O:Ok X){x:Str}{pos:Pos}{k:Nat}(hx:sc.names.lookup x=some .globalImplicit)(hk:enc x=some k)(hn:bj x=true):SE X sc (.Name x pos) (T7 k):=fun a H=>by obtain⟨p,hp,H⟩:=(ab H).get;obtain⟨v,h1,h2⟩:=O.O.K k p hp;rw[(bz hk).1] at h1;exact Calls.Name_function_global a.E.kind (er a.ZK hx) (wK O.B a h1 (H _ _ _ (.refl a) (h2.lat a.R.Ļ))) (cj hn).1
theorem T3{l r:Expr}{o:Operator}{pos:Pos}{d:DK}{il ir:DE}(Sl:SE X sc l il)(Sr:SE X sc r ir):SE X sc (.BinOp l o r pos) (Of d o il ir):=
 fun a H=>wpAny_BinOp (Sl.then (.refl a) H fun x G1 u s1 N1 z V1 H=>Sr.then N1 H fun y G2 w s2 N2 L V2 H=>(FM a.rm N2.a.R (V1.lat L) V2 H).fin N2 fun z k=>k)
theorem SZ{e:Expr}{pos:Pos}{ie:DE}(S:SE X sc e ie):SE X sc (.UnaryOp .Not e pos) (Nd ie):=
 fun a H=>wpAny_UnaryOp (S.then (.refl a) H fun x G1 u s1 N1 z V1 H=>by obtain⟨b,rfl,H⟩:=jF V1 (ab H);exact not_value (Y9 (H _ _ _ N1 dh)))
theorem RT{e:Expr}{pos:Pos}{ie:DE}(S:SE X sc e ie):SE X sc (.UnaryOp .USub e pos) (OB ie):=
 fun a H=>wpAny_UnaryOp (S.then (.refl a) H fun x G1 u s1 N1 z V1 H=>by obtain⟨i,t,rfl,H⟩:=bG V1 (ab H);exact P.neg_int (H _ _ _ (N1.trans (N1.a.grow _ fun z z e=>e)) (cM _ _ _)))
class inductive gw(X:Sx)(sc:Scope):List Expr->List DE->Prop
|nil:gw X sc [] []
|cons {e ie es Y7}:SE X sc e ie->(∀env,starEach (e::es) env=(false,eval e env)::starEach es env)->gw X sc es Y7->gw X sc (e::es) (ie::Y7)
class inductive vm(X:Sx)(sc:Scope):List Expr->List DT->Prop
|nil:vm X sc [] []
|cons {e ie es Y7}:ST X sc e ie->vm X sc es Y7->vm X sc (e::es) (ie::Y7)
theorem gw.go{es:List Expr}{Y7:List DE}(S:gw X sc es Y7):∀{F:Fr}{G:Gh}{s:Shared}{st:St}{Q:List Value->Shared->Prop}{pos:Pos},At X sc F G s st->aL (pg Y7 X.C F.vars st) (TM X sc F G s Q)->
  wp X F (spliced (backTo pos (starEach es F.env))) Q s:=by
 induction S with
|nil=>exact fun a H=>wpAny_items_nil (H _ _ _ (.refl a) iC rfl)
|cons h1 h2 _ ih=>exact fun a H=>wpAny_items_cons (h1.then (.refl a) H fun x G1 v s1 N1 z V1 H=>ih N1.a ((ab H).mono fun y H G2 vs s2 N2 V2 hl=>H G2 _ s2 (N1.trans N2) (bA (V1.lat N2.x.lat) V2) (YH (·+1) hl))) (h2 _)
theorem gw.then{es:List Expr}{Y7:List DE}(S:gw X sc es Y7)(a:fg X sc F G s G' s' st'){β:Type}{f:List PV×St->Option β}{K:β->Prop}{Q:List Value->Shared->Prop}{pos:Pos}(H:aL ((pg Y7 X.C F.vars st').bind f) K)
  (k:∀r G2 v s2,fg X sc F G s G2 s2 r.2->jz G' s'.heap G2 s2.heap->Vs X.T G2 s2.heap r.1 v->aL (f r) K->Q v s2):wp X F (spliced (backTo pos (starEach es F.env))) Q s':=
 S.go a.a ((ab H).mono fun r H G2 v s2 b hv z=>k r G2 v s2 (a.trans b) b.x.lat hv H)
theorem gw.length{es:List Expr}{Y7:List DE}(S:gw X sc es Y7):Y7.length=es.length:=by
 induction S with
|nil=>rfl
|cons _ _ _ ih=>exact YH (·+1) ih
theorem nL{C:Zn}{vs:YA}:∀{es:List DE}{st:St} {r},pg es C vs st=some r->r.1.length=es.length
|[],st,r,h=>by obtain rfl:=Xn h;rfl
|e::es,st,r,h=>by obtain⟨x,_,h⟩:=XC.mp h;obtain⟨y,h2,h⟩:=XC.mp h;obtain rfl:=Xn h;exact YH (·+1) (nL h2)
theorem RU{es:List Expr}{Y7:List DE}{pos:Pos}(S:gw X sc es Y7):SE X sc (.BoolOp .And es pos) (Gm Y7):=by
 intro F G s st Q a H;rw[arm_eval_BoolOp];induction S generalizing G s st with
|nil=>exact H.elim
| @cons e ie es Y7 h1 h2 h3 ih=>
  rw[arm_evalEach_cons];cases h3 with
  |nil=>exact h1 a H
  |cons g1 g2 g3=>
   refine X9 (h1.then (.refl a) H fun x G1 v s1 N1 z V1 H=>X9 (Y8 (X9 (YD ?_))));obtain⟨b,rfl,H⟩:=jF V1 (ab H);refine Y9 ?_;cases b with
   |true=>exact ih N1.a (H.mono fun r h=>h.step N1)
   |false=>exact Yb (H _ _ _ N1 V1)
theorem WW{es:List Expr}{Y7:List DE}{pos:Pos}(S:gw X sc es Y7):SE X sc (.BoolOp .Or es pos) (Q1 Y7):=by
 intro F G s st Q a H;rw[arm_eval_BoolOp];induction S generalizing G s st with
|nil=>exact H.elim
| @cons e ie es Y7 h1 h2 h3 ih=>
  rw[arm_evalEach_cons];cases h3 with
  |nil=>exact h1 a H
  |cons g1 g2 g3=>
   refine X9 (h1.then (.refl a) H fun x G1 v s1 N1 z V1 H=>X9 (Y8 (X9 (YD ?_))));obtain⟨b,rfl,H⟩:=jF V1 (ab H);refine Y9 ?_;cases b with
   |false=>exact ih N1.a (H.mono fun r h=>h.step N1)
   |true=>exact Yb (H _ _ _ N1 V1)
theorem FI{e:Expr}{ie:DE}(S:SE X sc e ie)(he:∀env whole,isTrue e env whole=(do let v <-whole;standAt e.pos;holding [v] (truthy v))):ST X sc e (Mo ie):=
 fun a H=>wpAny_isTrue_value (S.then (.refl a) H fun x G1 v s1 N1 z V1 H=>by obtain⟨b,rfl,H⟩:=jF V1 (ab H);exact Y9 (H _ _ N1)) (he _ _)
theorem Gp{e:Expr}{pos:Pos}{te:DT}(S:ST X sc e te):ST X sc (.UnaryOp .Not e pos) (Qh te):=
 fun a H=>wpAny_isTrue_Not (S.then (.refl a) H fun b Zo G1 s1 N1 H=>H _ _ N1)
theorem Go{es:List Expr}{ZH:List DT}(S:vm X sc es ZH):∀{F:Fr}{G:Gh}{s:Shared}{st:St}{Q:Bool->Shared->Prop},At X sc F G s st->aL (rx ZH X.C F.vars st) (tF X sc F G s Q)->wp X F (allTrue .And es F.env) Q s:=by
 induction S with
|nil=>exact fun a H=>wpAny_allTrue_And_nil (H _ _ (.refl a))
|cons h1 _ ih=>exact fun a H=>wpAny_allTrue_And_cons (h1.then (.refl a) H fun b Zo G1 s1 N1 H=>by
   cases b with
   |true=>exact ih N1.a (H.mono fun r h=>h.step N1)
   |false=>exact H _ _ N1)
theorem Fg{es:List Expr}{ZH:List DT}(S:vm X sc es ZH):∀{F:Fr}{G:Gh}{s:Shared}{st:St}{Q:Bool->Shared->Prop},At X sc F G s st->aL (Qk ZH X.C F.vars st) (tF X sc F G s Q)->wp X F (allTrue .Or es F.env) Q s:=by
 induction S with
|nil=>exact fun a H=>wpAny_allTrue_Or_nil (H _ _ (.refl a))
|cons h1 _ ih=>exact fun a H=>wpAny_allTrue_Or_cons (h1.then (.refl a) H fun b Zo G1 s1 N1 H=>by
   cases b with
   |false=>exact ih N1.a (H.mono fun r h=>h.step N1)
   |true=>exact H _ _ N1)
theorem Fw{es:List Expr}{ZH:List DT}{pos:Pos}(S:vm X sc es ZH):ST X sc (.BoolOp .And es pos) (rx ZH):=fun a H=>wpAny_isTrue_BoolOp (Go S a H)
theorem Jg{es:List Expr}{ZH:List DT}{pos:Pos}(S:vm X sc es ZH):ST X sc (.BoolOp .Or es pos) (Qk ZH):=fun a H=>wpAny_isTrue_BoolOp (Fg S a H)
theorem Eo{t a b:Expr}{pos:Pos}{it ia ib:DT}(St:ST X sc t it)(Sa:ST X sc a ia)(Sb:ST X sc b ib):ST X sc (.IfExp t a b pos) (PX it ia ib):=fun a H=>by
 rw[arm_isTrue_IfExp];refine X9 (St.then (.refl a) H fun b Zo G1 s1 N1 H=>?_);cases b with
|true=>exact Sa N1.a (H.mono fun r h=>h.step N1)
|false=>exact Sb N1.a (H.mono fun r h=>h.step N1)
theorem Sj{t a b:Expr}{pos:Pos}{it:DT}{ia ib:DE}(St:ST X sc t it)(Sa:SE X sc a ia)(Sb:SE X sc b ib):SE X sc (.IfExp t a b pos) (M1 it ia ib):=fun a H=>
 wpAny_IfExp (St.then (.refl a) H fun b Zo G1 s1 N1 H=>by
  cases b with
  |true=>exact Sa N1.a (H.mono fun r h=>h.step N1)
  |false=>exact Sb N1.a (H.mono fun r h=>h.step N1))
noncomputable def ol:List CmpOp->List Expr->Bool
|[],[]=>true
|o::os,e::es=>!behindInMarks o e&&ol os es
|z,y=>false
theorem lr:∀{os:List CmpOp}{es:List Expr},ol os es=true->lastMarks os es=false
|[],[],_=>rfl
|[o],[e],h=>qd (az h).1
|[o],e::e'::es,h=>nomatch (az h).2
|o::o'::os,[e],h=>nomatch (az h).2
|o::o'::os,e::e'::es,h=>lr (os:=o'::os) (es:=e'::es) (az h).2
set_option tactic.hygienic true in
theorem pB{pos:Pos}{es:List Expr}{Y7:List DE}(S:gw X sc es Y7):∀{os:List CmpOp}{F:Fr}{G:Gh}{s:Shared}{st:St}{p:PV}{u:Value},ol os es=true->At X sc F G s st->V X.T G s.heap p u->
  (∀{Q:Value->Shared->Prop},aL (sU p os Y7 X.C F.vars st) (fun r=>D2 X sc F G s Q (.bool r.1,r.2))->wp X F (compareChain pos u os (evalEach es F.env)) Q s)∧
  ∀{Q:Bool->Shared->Prop},aL (sU p os Y7 X.C F.vars st) (tF X sc F G s Q)->wp X F (testChain pos u os (evalEach es F.env)) Q s:=by
 induction S with
|nil=>
  intro os F G s st p u hc a hv;cases os with
  |nil=>exact⟨fun H=>H.elim,fun H=>H.elim⟩
  |cons o os=>injection hc
| @cons e ie es Y7 h1 _ h3 ih=>
  intro os F G s st p u hc a hv;cases os with
  |nil=>injection hc
  |cons o os=>
   rw[arm_evalEach_cons];cases h3 with
   |nil=>
    cases os with
    |cons _ _=>cases(az hc).2
    |nil=>
     rw[arm_evalEach_nil];refine⟨fun H=>chain_last (h1.then (.refl a) H fun x G1 w s1 N1 L V1 H=>?_),fun H=>test_last (h1.then (.refl a) H fun x G1 w s1 N1 L V1 H=>?_)⟩<;>obtain⟨c,H,k⟩:=sq a.rm N1.a.R (hv.lat L) V1 (ab H)
     ·exact k.è N1 H
     ·exact k.è (p:=.bool c) N1 fun G2 v s2 N2 hv=>by obtain rfl:=hv;exact Y9 (H _ _ N2)
   | @cons e' ie' Į ies' g1 g2 g3=>
    cases os with
    |nil=>cases(az hc).2
    |cons o' os'=>
     simp only[arm_evalEach_cons] at ih ⊢;refine⟨fun H=>chain_link (h1.then (.refl a) H fun x G1 w s1 N1 L V1 H=>?_),fun H=>test_link (h1.then (.refl a) H fun x G1 w s1 N1 L V1 H=>?_)⟩<;>obtain⟨c,H,k⟩:=sq a.rm N1.a.R (hv.lat L) V1 (ab H)
     ·refine k.mono fun v s2 y=>?_
      obtain⟨G2,R2,X2,V2⟩:=y.pe N1.a.R;have N2:=N1.trans (N1.a.ZV R2 X2);obtain rfl:=V2;refine Y9 ?_;cases c with
      |true=>exact(ih (az hc).2 N2.a (V1.lat X2.lat)).1 (H.mono fun r h=>h.step N2)
      |false=>exact H _ _ _ N2 dh
     ·refine k.mono fun v s2 y=>?_
      obtain⟨G2,R2,X2,V2⟩:=y.pe N1.a.R;have N2:=N1.trans (N1.a.ZV R2 X2);obtain rfl:=V2;refine Y9 ?_;cases c with
      |true=>exact(ih (az hc).2 N2.a (V1.lat X2.lat)).2 (H.mono fun r h=>h.step N2)
      |false=>exact H _ _ N2
theorem SA{l:Expr}{os:List CmpOp}{es:List Expr}{pos:Pos}{il:DE}{Y7:List DE}(Sl:SE X sc l il)(hc:ol os es=true)(S:gw X sc es Y7):SE X sc (.Compare l os es pos) (dB (A1 il os Y7)):=fun a H=>by rw[arm_eval_Compare,markedEach_of_false _ _ _ (lr hc)];exact X9 (Sl.then (.refl a) (ab H) fun x G1 u s1 N1 z V1 H=>(pB S hc N1.a V1).1 (H.mono fun r h=>D2.step N1 h))
theorem ED{l:Expr}{os:List CmpOp}{es:List Expr}{pos:Pos}{il:DE}{Y7:List DE}(Sl:SE X sc l il)(hc:ol os es=true)(S:gw X sc es Y7):ST X sc (.Compare l os es pos) (A1 il os Y7):=fun a H=>by rw[arm_isTrue_Compare,markedEach_of_false _ _ _ (lr hc)];exact X9 (Sl.then (.refl a) H fun x G1 u s1 N1 z V1 H=>(pB S hc N1.a V1).2 (H.mono fun r h=>h.step N1))
end
end
section
open PySem.W PyProof.Rows
variable{X:Sx}{sc:Scope}{F:Fr}{G G' G2:Gh}{s s' s2:Shared}{st st' Zu:St}
theorem gw.é{es:List Expr}{Y7:List DE}(S:gw X sc es Y7)(a:At X sc F G s st)(hz:es.length≤1000){β:Type}{f:List PV×St->Option β}{K:β->Prop}{Q:List Value->Shared->Prop}{pos:Pos}(H:aL ((pg Y7 X.C F.vars st).bind f) K)
  (k:∀r G2 v s2,fg X sc F G s G2 s2 r.2->Vs X.T G2 s2.heap r.1 v->v.length≤1000->r.1.length≤1000->aL (f r) K->Q v s2):wp X F (spliced (backTo pos (starEach es F.env))) Q s:=by
 obtain⟨r,e,H⟩:=(ab H).get;have hr:r.1.length≤1000:=by rw[nL e,S.length];exact hz
 exact S.go a (by exact(e)▸fun G2 v s2 N V2 hl=>k r G2 v s2 N V2 (hl▸hr) hr H)
theorem S5{es:List Expr}{k:Nat}{pos:Pos}{Y7:List DE}(hz:es.length≤1000)(S:gw X sc es Y7):SE X sc (.Tuple es k pos) (Ml Y7):=fun a H=>
 wpAny_Tuple (S.é a hz H fun r G1 v s1 N1 V1 z1 z2 H=>⟨ay (Xk z1 (by decide)),H _ _ _ (N1.trans (N1.a.grow s1.toks (bt _ _))) (iL N1.a.R (Xk z2 (by decide)) (by exact(List.toList_toArray)▸V1))⟩)
theorem RJ{es:List Expr}{pos:Pos}{d:DK}{Y7:List DE}(hz:es.length≤1000)(S:gw X sc es Y7):SE X sc (.List es pos) (MF d Y7):=fun a H=>
 wpAny_List (S.é a hz H fun r G1 v s1 N1 V1 z1 z2 H=>⟨ay (Xk z1 (by decide)),by
  obtain⟨r',hr,G2,R2,X2,V2⟩:=NO.pk N1.a.R H (NL.push (Xk z2 (by decide)) (by rw[List.toList_toArray];exact V1));exact hr _ _ _ (N1.trans (N1.a.ZV R2 X2)) V2⟩)
theorem At.Ö{Y:Nat->b5->Prop}(h:At X sc F G s st)(hY:L7 Y F.lev)(R':aG X.T G' s' st')(x:cB Y G s G' s'):At X sc F G' s' st':=⟨R',h.E.Ç hY x,h.rm,x.top rfl▸h.lv,h.ZK⟩
theorem aG.Z1{T:Tp}(R:aG T G s st)(o:Obj)(tk:Nat)(ho:o.isFreed=false):
  aG T (G.with s.heap.objs.size (.fr G.n (.it s.heap.objs.size)) G.la G.ga) {s with heap:=s.heap.push o,toks:=tk} st∧cB (Xe G.n) G s (G.with s.heap.objs.size (.fr G.n (.it s.heap.objs.size)) G.la G.ga) {s with heap:=s.heap.push o,toks:=tk}:=
 R.İ (R.ZN (aV _)) tk (fun b o' z e=>Xv _ e) ⟨_,XF _ ho⟩ fun n k e=>by rw[R.fresh (aV _)] at e;injection e
theorem Ex.forget{T:Tp}{tp:Bool}(R:aG T G s st){Y:Nat->b5->Prop}{n:Nat}{ws:List Addr}(ha:∀b∈ws,s.heap.get? b=none)(x:Ex tp (fun m k=>Y m k∨(m=n∧∃b∈ws,k=.it b)) G s G' s'):Ex tp Y G s G' s':=
 ⟨x.lat,fun b m k e hx=>x.fr b m k e (by
  rintro(h|⟨rfl,c,hc,rfl⟩)
  ·exact hx h
  ·obtain rfl:=(R.lev _ _ _ e).2 _ rfl;rw[R.fresh (ha _ hc)] at e;injection e),x.lk,x.n,x.top,x.os⟩
theorem nB{n m:Nat}{b:Addr}:¬Xe n m (.it b):=fun Zg=>by obtain⟨_,i,d,e⟩:=Zg;exact nomatch e
class inductive CK:List (Option Expr)->List PV->Prop
|nil:CK [] []
|cons {x:Str}{kd:Nat}{p:Pos} {ks l}:CK ks l->CK (some (.Constant (.str x) kd p)::ks) (.str x::l)
theorem CK.some{ks l}(h:CK ks l):ks.all (·.isSome)=true:=by
 induction h with
|nil=>rfl
|cons _ ih=>exact ih
theorem rN{es:List Expr}{Y7:List DE}(S:gw X sc es Y7):∀{ks:List (Option Expr)}{đ:List PV}{F:Fr}{G:Gh}{s:Shared}{st:St}{pos:Pos}{Q:List (Value×Value)->Shared->Prop},
  CK ks đ->ks.length=es.length->At X sc F G s st->aL (pg Y7 X.C F.vars st) (fun r=>∀G' s' (vs:List (Value×Value)) (q:List (Str×PV)) (Zj:List (Str×Value)),fg X sc F G s G' s' r.2->
   đ.zip r.1=q.map (fun x=>(PV.str x.1,x.2))->Carries (PySem.strKind X.T.prog X.T.w) vs Zj->FA X.T G' s'.heap q Zj->Q vs s')->
  wp X F (evalPairs (pairTrees ks es F.env pos)) Q s:=by
 induction S with
|nil=>intro ks đ F G s st pos Q hk hl a H;obtain rfl:ks=[]:=Yw.mp hl;cases hk;exact pairTrees_nil_walk (H G _ _ [] [] (.refl a) rfl trivial .nil)
| @cons e ie es Y7 h1 _ _ ih=>
  intro ks đ F G s st pos Q hk hl a H;cases ks with
  |nil=>injection hl
  |cons k ks=>
   cases hk with
   | @cons x kd p _ r hr=>
   refine pairTrees_cons_walk (Calls.Constant_str ?_);refine h1.then (a.grow (h':=s.heap) (s.toks+1) fun z z e=>e) H fun v G1 vv s1 N1 z V1 H=>ih hr (Nat.succ.inj hl) N1.a ((ab H).mono fun l H G2 s2 vs q Zj N2 f1 f2 f3=>?_)
   exact H G2 s2 _ ((x,v.1)::q) ((x,vv)::Zj) (N1.trans N2) (YH _ f1) ⟨(kn X.T).to G s.heap x _ (HB _ _ _),rfl,f2⟩ (.cons (V1.lat N2.x.lat) f3)
theorem TJ(O:Ok X){ks:List (Option Expr)}{es:List Expr}{đ:List PV}{pos:Pos}{Y7:List DE}(hz:ks.length≤15)(hl:ks.length=es.length)(hk:CK ks đ)(S:gw X sc es Y7):
  SE X sc (.Dict ks es pos) (MN đ Y7):=fun{F G s st Q} a H=>by
 let' hm:=O.B.æ a.R (aV s.heap);cases ks with
|nil=>obtain rfl:es=[]:=Yw.mp hl.symm;cases S;cases hk;obtain⟨r,hr,G2,R2,X2,V2⟩:=NO.pk (s:=s) (v:=.ref s.heap.objs.size) (s':={s with heap:=s.heap.push (gf #[] 0)}) a.R (show aL (alloc st .glob (.dct [])) _ from H) ⟨_,s.toks,_,rfl,bt _ _,rfl,aV _,fun G' dk L=>⟨#[],0,XF _ rfl,⟨hm,.inl rfl,.nil⟩,rfl⟩⟩;exact wpAny_Dict_empty (hr _ _ _ (a.ZV R2 X2) V2)
|cons k ks=>
  obtain⟨R0,X0⟩:=a.R.Z1 (gf #[] 0) s.toks rfl;let' N0:=a.ZV R0 X0;refine wpAny_Dict_walk (knd:=PySem.strKind X.T.prog X.T.w) hk.some hl (List.cons_ne_nil _ _) hz (rN S hk hl N0.a ((ab H).mono fun r H G1 s1 vs q Zj N1 f1 f2 f3=>?_));obtain⟨g1,g2⟩:=N1.x.fr s.heap.objs.size _ _ (Gh.Zr _ _ _ _ _) nB;refine⟨Zj,f2,⟨_,#[],0,(g1.trans (XF _ rfl):s1.heap.get? s.heap.objs.size=some (gf #[] 0)),⟨rfl,rfl,rfl⟩,rfl,(fun e he=>(Array.not_mem_empty e he).elim),.nil,.nil⟩,fun h' hd Ā=>?_⟩;let' M:=kn X.T;have e:((đ.zip r.1).map fun y=>PV.tup [y.1,y.2])=q.map fun x=>PV.tup [.str x.1,x.2]:=by rw[f1,YW];rfl
  rw[e,show gg _ []=_ from(mY M.toEmb (fun z=>rfl) q [])] at H;let' H:=ab H;obtain⟨G3,r',hr,R3,X3,V3⟩:=N1.a.R.alloc (a:=s.heap.objs.size) (.inr (by exact(N1.x.n:G1.n=G.n)▸g2)) (h':=h') (s1.toks+vs.length) (fun b o hb e=>(Ā.2 b hb).trans e) H
   (fun G' dk L=>mz M hd ((f3.merged (acc:=[]) (accv:=[]) .nil .nil).lat L) hm (nR X.T)) (X:=fun m k=>Xe G.n m k∨(m=G.n∧∃b∈[s.heap.objs.size],k=.it b))
   fun m k e=>by rw[g2] at e;injection e with e1 e2;exact .inr ⟨e1.symm,_,XU.mpr rfl,e2.symm⟩
  exact hr _ _ _ (a.ZV R3 (Ex.forget a.R (ws:=[s.heap.objs.size]) (n:=G.n) (by intro b hb;exact(XU.mp hb)▸aV _) (((N0.trans N1).x.mono fun z z h=>.inl h).trans X3):cB (Xe G.n) G s G3 _)) V3
def lB:Expr->Bool
|.Call f as ks _=>match f with
  |.Name _ _=>!as.isEmpty|| !ks.isEmpty
  |z=>true
|z=>true
theorem xA{o:Expr}(h:lB o=true)(a:Str)(env:Env)(whole:Sem Value):attributeBase o a env whole=whole:=by
 cases o with
|Call f as ks p=>
  cases f with
  |Name x q=>
   cases as with
   |nil=>cases ks with|nil=>injection h|cons _ _=>rfl
   |cons _ _=>rfl
  |_=>rfl
|_=>rfl
theorem O8(O:Ok X){o:Expr}{a:Str}{k:Nat}{pos:Pos}{io:DE}(hb:lB o=true)(ha:enc a=some k)(Õ:k∈X.T.atts)(S:SE X sc o io):SE X sc (.Attribute o a pos) (Hp io k):=fun at_ H=>by rw[arm_eval_Attribute,xA hb];refine X9 (S.then (.refl at_) H fun x G1 u s1 N1 z V1 H=>?_);refine X9 (Y8 (X9 (YD ?_)));obtain⟨y,hy,H⟩:=wI N1.a.R V1 (ab H);obtain⟨hm,H⟩:=aF H;obtain⟨v,hv,H⟩:=(ab H).get;exact((bz ha).1)▸((xa O.B N1.a.R hy Õ ((O.O.M _ _).symm.trans (Yu.mp hm)) hv).è N1 H).mono fun r s2 q=>X9 (wpAny_letTemporaryGo (Yb q))
theorem RV{o i:Expr}{pos:Pos}{io ii:DE}(hn:∀a b c p,i≠.Slice a b c p)(So:SE X sc o io)(Si:SE X sc i ii):SE X sc (.Subscript o i pos) (M3 io ii):=fun a H=>by rw[arm_eval_Subscript];refine X9 (So.then (.refl a) H fun x G1 u s1 N1 s V1 H=>X9 (YD (Si.then N1 H fun y G2 w s2 N2 L V2 H=>?_)));obtain⟨⟨t,⟨id,hl⟩,hT⟩,v,H,hg⟩:=FE a.rm N2.a.R (V1.lat L) V2 (ab H);refine X9 (Y8 (X9 ?_));rw[getitemInPython_of_ne hT.not_modules];refine X9 (wpAny_specialOf hT hl (Yb ?_));exact(by cases i<;>first|rfl|exact absurd rfl (hn _ _ _ _):subscripted i false u w=operate [u,w] (getItem u w))▸X9 (wpAny_operate' ((hg.è N2 H).mono fun r s3 z=>X9 (wpAny_letTemporaryGo (Yb z))))
def SO(X:Sx)(sc:Scope)(e:Option Expr)(d:DO):Prop:=
 ∀{F:Fr}{G G':Gh}{s s':Shared}{st':St}{β:Type}{f:Option Int×St->Option β}{K:β->Prop}{Q:Value->Shared->Prop},fg X sc F G s G' s' st'->aL ((d X.C F.vars st').bind f) K->
  (∀r G2 v s2,fg X sc F G s G2 s2 r.2->jz G' s'.heap G2 s2.heap->IsPart v r.1->aL (f r) K->Q v s2)->wp X F (evalPart e F.env) Q s'
theorem F5:SO X sc none oN:=fun N H k=>by rw[evalPart_none];exact Yb (k _ _ _ _ N (.refl _ _ _) .none H)
theorem EC{e:Expr}{d:DE}(S:SE X sc e d):SO X sc (some e) (oI d):=fun N H k=>by
 rw[evalPart_some];refine S.then N (ab H) fun r G2 v s2 N2 L V2 H=>?_
 obtain⟨i,t,rfl,H⟩:=bG V2 (ab H);exact k _ _ _ _ N2 L (.int _ _) H
theorem DQ{T:Tp}{A:Around}{env:Env}{o:Expr}{lo hi st:Option Expr}{p pos:Pos}{s:Shared}{Q:Value->Shared->Prop}
  (h:W T A (eval o env) (fun u s1=>W T A (eval (.Slice lo hi st p) env) (fun i s2=>(∃t,mn t∧s2.TypeIs u t)∧W T A (getItem u i) Q s2) s1) s):
  W T A (eval (.Subscript o (.Slice lo hi st p) pos) env) Q s:=by
 rw[arm_eval_Subscript];refine X9 (h.mono fun u s1 y=>X9 (YD (y.mono fun i s2 z=>?_)));obtain⟨⟨t,⟨id,hl⟩,hT⟩,hg⟩:=z;refine X9 (Y8 (X9 ?_));rw[getitemInPython_of_ne hT.not_modules];refine X9 (wpAny_specialOf hT hl (Yb ?_));have fin:∀l,W T A (operate l (getItem u i)) (fun r s3=>W T A (letTemporaryGo o u r>>= fun x=>pure r) Q s3) s2:=
  fun l=>wpAny_operate' (hg.mono fun r s3 q=>X9 (wpAny_letTemporaryGo (Yb q)))
 cases st with
|none=>exact X9 (fin _)
|some _=>exact X9 (fin _)
theorem lV{h:Heap}{l u st:Value}:(h.push {cls:=.type "slice",data:=.fields #[l,u,st]}).IsSliceOf h.objs.size l u st:=⟨_,XF _ rfl,rfl,rfl⟩
theorem K3{o:Expr}{lo hi:Option Expr}{p pos:Pos}{io:DE}{d:DK}{ilo ihi:DO}(So:SE X sc o io)(Sl:SO X sc lo ilo)(Sh:SO X sc hi ihi):SE X sc (.Subscript o (.Slice lo hi none p) pos) (z7 d io ilo ihi):=fun{F G s st Q} a H=>
 DQ (So.then (.refl a) H fun x G1 u s1 N1 w V1 H=>wpAny_Slice (Sl N1 H fun y G2 vl s2 N2 L2 pl H=>Sh N2 H fun z G3 vu s3 N3 L3 pu H=>by rw[evalPart_none];let' N4:=N3.trans (N3.a.grow s3.toks (bt s3.heap {cls:=.type "slice",data:=.fields #[vl,vu,Value.none]}));obtain⟨h1,h2⟩:=yc (A:=F.A) N4.a.R (((V1.lat L2).lat L3).lat (Lt.grow _ _ (bt _ _))) lV pl pu H;exact Yb ⟨h1,h2.fin N4 fun w k=>k⟩))
theorem TZ{o:Expr}{k:Nat}{p pk pq pos:Pos}{io:DE}{d:DK}(So:SE X sc o io):SE X sc (.Subscript o (.Slice none none (some (.UnaryOp .USub (.Constant (.int 1) k pk) pq)) p) pos) (NW d io):=fun{F G s st Q} a H=>by refine DQ (So.then (.refl a) H fun x G1 u s1 N1 z V1 H=>wpAny_Slice ?_);rw[evalPart_none];refine Yb (Yb ?_);rw[evalPart_some];refine wpAny_UnaryOp (wpAny_Constant_int (P.neg_int ?_));let' k:=bt s1.heap {cls:=.type "slice",data:=.fields #[Value.none,Value.none,Value.int (-1) (s1.toks+1)]};let' N3:=N1.trans (N1.a.grow (s1.toks+1+1) k);obtain⟨h1,h2⟩:=GJ (A:=F.A) N3.a.R (V1.lat (Lt.grow _ _ k)) lV H;exact⟨h1,h2.fin N3 fun z k=>k⟩
theorem gw.plain{es:List Expr}{Y7:List DE}(S:gw X sc es Y7)(pos:Pos)(env:Env):(backTo pos (starEach es env)).any (·.1)=false:=by
 induction S with
|nil=>rfl
|cons _ h2 _ ih=>rw[h2];refine(?_:(false||(backTo pos (starEach _ env)).any (·.1))=false);rw[ih];rfl
theorem fq{es:List Expr}{Y7:List DE}(S:gw X sc es Y7){f:Value}{pos:Pos}{env:Env}{A:Around}{s:Shared}{Q:Args->Shared->Prop}
  (h:W X.T A (spliced (backTo pos (starEach es env))) (fun vs s'=>Q ⟨vs,[]⟩ s') s):W X.T A (evalArgs f true (backTo pos (starEach es env)) []) Q s:=by
 cases S with
|nil=>rw[arm_starEach_nil] at h ⊢;unfold evalArgs;refine(?_:wpAny _ A (spliced []>>= _) Q no s);exact X9 (h.mono fun vs s' h'=>X9 (Yb (YD (X9 (Yb (X9 (Yb (Yb h'))))))))
|cons h1 h2 h3=>rw[h2] at h ⊢;exact Calls.evalArgs_plain h
theorem gu{es:List Expr}{Y7:List DE}(S:gw X sc es Y7){pos pos':Pos}{env:Env}{A:Around}{s:Shared}{a:Addr}{first:List Value}{Q:Value->Shared->Prop}(ha:a≠X.T.P)
  (hc:k6 X.T.h0 a) (h:W X.T A (spliced (backTo pos (starEach es env))) (fun vs s'=>(∀o,X.T.h0.get? a=some o->s'.heap.get? a=some o)∧W X.T A (call (.ref a) (first++vs)) Q s') s):
  W X.T A (callWith pos' (.ref a) first (backTo pos (starEach es env)) []) Q s:=by
 obtain⟨o,ho,⟨fd,hf⟩|⟨nm,q,C',N,bs,bm,sn,sub,col,dd,k0,k1,k2,k3,k5,newId,rfl⟩⟩:=hc
 ·exact Calls.callWith_function (o:=o) (fd:=fd) (fq S (h.mono fun vs s' x=>⟨⟨x.1 o ho,hf⟩,x.2⟩))
 ·have Ħ:((backTo pos (starEach es env)).any (fun x=>x.fst)||([]:List (Option Str×Sem Value)).any fun x=>x.fst.isNone)=false:=by rw[(S.plain pos env)];rfl
  unfold callWith;refine X9 (YD (fq S (h.mono fun vs s₁ h₁=>?_)));obtain⟨hk,hc⟩:=h₁;obtain⟨hh,g,d,t,os⟩:=s₁;let' hC:=hk _ ho;let' f1:=tc_lookup;let' hT:(⟨hh,g,d,t,os⟩:Shared).TypeIs (.ref a) "type":=⟨_,hC,rfl⟩
  refine X9 (Y8 ?_);refine(?_:wpAny _ _ (keeperOf (.ref a)>>= _) _ _ _);unfold keeperOf specialOf
  repeat (any_goals (first|assumption|with_reducible refine wpAny_loadPart_at hC ?_|with_reducible refine wpAny_load' hC ?_|wp_step))
  rw[Yh (by rfl),Ħ];show wpAny _ _ (call (.ref a) (first++vs) []>>= fun r=>do holding [r] point;pure r) _ _ _;exact X9 (hc.mono fun r s' hr=>X9 (YD (wpAny_point (Yb hr))))
def EM(f:Value):Prop:=(∃id,f=.builtin id)∨∃t,f=.type t
theorem gZ{f:Value}(hf:EM f){es:List Expr}{Y7:List DE}(S:gw X sc es Y7){pos pos':Pos}{env:Env}{A:Around}{s:Shared}{first:List Value}{Q:Value->Shared->Prop}
  (h:W X.T A (spliced (backTo pos (starEach es env))) (fun vs s'=>W X.T A (call f (first++vs)) Q s') s):
  W X.T A (callWith pos' f first (backTo pos (starEach es env)) []) Q s:=by
 rcases hf with⟨id,rfl⟩|⟨t,rfl⟩
 ·exact Calls.callWith_builtin (S.plain pos env) (fq S h)
 ·exact PySem.callWith_type (S.plain pos env) (fq S h)
theorem I0(O:Ok X)(a:At X sc F G s st){f:Nat}{l:List PV}{vs:List Value}{K:PV×St->Prop}(hv:Vs X.T G s.heap l vs)(H:aL (dF X.C f st l) K):∃b,X.T.fn f=some b∧b≠X.T.P∧k6 X.T.h0 b∧W X.T F.A (call (.ref b) vs) (PK X.T G s K) s:=by obtain⟨x,H,n1,g1,G1,R1,X1,V1⟩:=Eh a.R hv (ab H);obtain⟨r,e,H⟩:=(ab H).get;obtain⟨b,h1,h2,h3,h4⟩:=O.O.F _ _ _ _ e;refine⟨b,h1,h2,h3,(h4 rfl R1 a.rm n1 V1).mono fun v s2 y=>⟨_,H,?_⟩⟩;obtain⟨G2,R2,X2,V2⟩:=y;exact⟨G2,R2,X1.trans (X1.n▸X2),V2⟩
theorem IA(O:Ok X){f:Nat}{st:St}{l:List PV}{K:PV×St->Prop}(H:aL (dF X.C f st l) K):∃b,X.T.fn f=some b∧b≠X.T.P∧k6 X.T.h0 b:=by obtain⟨x,_,H⟩:=(ab H).get;obtain⟨r,e,_⟩:=(ab H).get;obtain⟨b,h1,h2,h3,_⟩:=O.O.F _ _ _ _ e;exact⟨b,h1,h2,h3⟩
theorem JZ(O:Ok X){x:Str}{k:Nat}{np pos:Pos}{es:List Expr}{Y7:List DE}(hx:sc.names.lookup x=some .globalImplicit)(hn:bj x=true)(hG:∀a,X.T.fn k=some a->X.T.mg x=some (.ref a))(S:gw X sc es Y7):
  SE X sc (.Call (.Name x np) es [] pos) (vV k Y7):=fun a H=>by
 obtain⟨l,e1,H⟩:=(ab H).get;obtain⟨b,h1,h2,h3⟩:=IA O H;refine PySem.wpAny_Call_Name_kw (keywords:=[]) (Calls.Name_function_global a.E.kind (er a.ZK hx) (wK O.B a (hG b h1) ?_) (cj hn).1);refine gu S h2 h3 (S.go a (e1▸fun G1 vs s1 N1 V1 z=>⟨fun o e=>(N1.a.R.old b o h2 e).1,?_⟩));obtain⟨b',Α,_,_,w⟩:=I0 O N1.a V1 H;obtain rfl:=Xn (h1.symm.trans Α);exact w.fin N1 fun z k=>k
theorem rv(O:Ok X){f:Value}{x:Str}{np pos:Pos}{es:List Expr}{Y7:List DE}(hf:EM f)(hx:sc.names.lookup x=some .globalImplicit)(hn:bj x=true)(hg:X.T.mg x=none)(hm:X.T.mb x=some f)(S:gw X sc es Y7)
  (a:At X sc F G s st) {β:Type}{g:List PV×St->Option β}{K:β->Prop}{Q:Value->Shared->Prop}(H:aL ((pg Y7 X.C F.vars st).bind g) K)
  (k:∀r G2 v s2,fg X sc F G s G2 s2 r.2->Vs X.T G2 s2.heap r.1 v->aL (g r) K->wp X F (call f v) Q s2):wp X F (eval (.Call (.Name x np) es [] pos) F.env) Q s:=
 PySem.wpAny_Call_Name_kw (keywords:=[]) (Calls.Name_function_global a.E.kind (er a.ZK hx) (jP O.B a hg hm (gZ hf S (S.then (.refl a) H fun r G2 v s2 N z V2 H=>k r G2 v s2 N V2 H))) (cj hn).1)
theorem Jv(O:Ok X){f:Value}{x:Str}{np pos:Pos}{es:List Expr}{Y7:List DE}{b:Ä}{d:DK}(hb:wm X.T b f)(hf:EM f)(hx:sc.names.lookup x=some .globalImplicit)(hn:bj x=true)(hg:X.T.mg x=none)(hm:X.T.mb x=some f)(S:gw X sc es Y7):
  SE X sc (.Call (.Name x np) es [] pos) (uW d b Y7):=fun a H=>rv O hf hx hn hg hm S a H fun r G1 v s1 N1 V1 H=>(hb a.rm N1.a.R V1 H).fin N1 fun z k=>k
def qw(p:PV):Option Bool:=(aZ p).bind fun z=>some false
theorem Av(O:Ok X){x t:Str}{np tp pos:Pos}{e:Expr}{ie:DE}(hx:sc.names.lookup x=some .globalImplicit)(hn:bj x=true)(hg:X.T.mg x=none)(hm:X.T.mb x=some (.builtin "isinstance"))
  (Ï:sc.names.lookup t=some .globalImplicit) (hn':bj t=true) (ļ:X.T.mg t=none) (ě:X.T.mb t=some (.type "tuple")) (S:SE X sc e ie) (Ħ:∀env,starEach [e,.Name t tp] env=(false,eval e env)::starEach [.Name t tp] env):
  SE X sc (.Call (.Name x np) [e,.Name t tp] [] pos) (zV qw ie):=fun{F G s st Q} a H=>by
 refine PySem.wpAny_Call_Name_kw (keywords:=[]) (Calls.Name_function_global a.E.kind (er a.ZK hx) (jP O.B a hg hm ?_) (cj hn).1);refine Calls.callWith_builtin (by rw[Ħ];rfl) ?_;rw[Ħ];refine Calls.evalArgs_plain (Calls.spliced_cons (S.then (.refl a) H fun r G1 v s1 N1 z V1 H=>?_));obtain⟨i,t',rfl,H⟩:=bG V1 (ab (ab H));refine(?_:wpAny _ _ (spliced [(false,eval (.Name t tp) F.env)]) _ _ _);exact Calls.spliced_cons (Calls.Name_function_global N1.a.E.kind (er a.ZK Ï) (jP O.B N1.a ļ ě (Calls.spliced_nil (q7.è N1 H))) (cj hn').1)
theorem GK{e:Expr}{ie:DE}:SE X sc e (zV (fun z=>none) ie):=fun a H=>by obtain⟨x,_,H⟩:=(ab H).get;exact H.elim
structure tL(m:Str)(ty id:String)(f:Î):Prop where
 slot:PySem.Slot ty m id
 type:typeOf (.builtin id)=pure (.type "method_descriptor")
 attrs:PlainAttrs ty
 ok:Mg f id
theorem y4{es:List Expr}{Y7:List DE}(S:gw X sc es Y7)(pos:Pos)(env:Env):(backTo pos (starEach es env)).all (fun x=>!x.1)=true:=by
 have:=S.plain pos env;rw[List.any_eq_false] at this;rw[XV];intro x hx;have:=this x hx
 revert this
 cases x.1<;>simp
theorem oR{es:List Expr}{Y7:List DE}(S:gw X sc es Y7){o:Expr}{m:Str}{ap pos:Pos}{env:Env}{A:Around}{s:Shared}{ov:Value}{Q:Value->Shared->Prop}(hl:(ap.endLine==pos.line)=true)(hlen:es.length<20)
  (h:∀pl,W X.T A (getMethod ov m pl) (fun r s'=>∀pos',W X.T A (callWith pos' r.1 r.2 (backTo pos (starEach es env)) []) Q s') s):
  W X.T A (methodCall o m ap pos env ov (es.length+([]:List Keyword).length) (backTo pos (starEach es env)) (backToKw pos (keywordEach [] env))) Q s:=by
 have Ľ:methodCallForm (es.length+([]:List Keyword).length) (backTo pos (starEach es env)) (backToKw pos (keywordEach [] env))=true:=by unfold methodCallForm;rw[y4 S];refine(?_:(true&&true&&decide (es.length+0+0<30))=true);exact Yc (YQ hlen (by decide):es.length<30)
 have ÿ:methodCallPos true o env ap pos=pure pos:=by unfold methodCallPos;rw[hl];rfl
 unfold methodCall;exact(Ľ)▸X9 (YD ((h _).mono fun r s' h'=>X9 (Zc ÿ (h' pos))))
theorem MR(O:Ok X){o:Expr}{m:Str}{k:Nat}{ap pos:Pos}{es:List Expr}{io:DE}{Y7:List DE}{mL mD:Option Î}(hb:lB o=true)(hl:(ap.endLine==pos.line)=true)(hlen:es.length<20)(hm:enc m=some k)
  (hL:∀f,mL=some f->∃id,tL m "list" id f∧∀st p as r,f st p as=some r->(∃i,p=.loc i)∨∃i,p=.glob i) (hD:∀f,mD=some f->∃id,tL m "dict" id f)
  (So:SE X sc o io) (S:gw X sc es Y7):SE X sc (.Call (.Attribute o m ap) es [] pos) (xb mL mD io k Y7):=fun{F G s st Q} a H=>by
 rw[arm_eval_Call,xA hb];refine X9 (So.then (.refl a) H fun x G1 u s1 N1 z V1 H=>X9 (Y8 (oR S hl hlen fun pl=>?_)));obtain⟨w,hw,H⟩:=(ab H).get;have Đ:=N1.a.R.view V1 hw;have ă:∀{ty id:String}{f:Î},tL m ty id f->(∃b ob,u=.ref b∧s1.heap.get? b=some ob∧ob.cls=.type ty∧ob.dict=none)->aL ((pg Y7 X.C F.vars x.2).bind fun y=>f y.2 x.1 y.1) (D2 X sc F G s Q)->
   wp X F (getMethod u m pl) (fun r s'=>∀pos',W X.T F.A (callWith pos' r.1 r.2 (backTo pos (starEach es F.env)) []) Q s') s1:=fun M ⟨b,ob,e,ľ,Β,Ł⟩ H=>by
  subst e;exact getMethod_builtin ⟨ob,ľ,Β⟩ M.attrs M.slot M.type (fun b e=>by obtain rfl:=Value.ref.inj e;exact⟨ob,ľ,Ł⟩) fun pos'=>
   gZ (.inl ⟨_,rfl⟩) S (S.then N1 H fun y G2 vs s2 N2 L V2 H=>(M.ok a.rm N2.a.R (V1.lat L) V2 H).fin N2 fun z k=>k)
 cases w with
|inst c fs=>
  obtain⟨hnf,H⟩:=kj H;obtain⟨f,hM,H⟩:=(ab H).get;rw[O.O.M] at hM;rw[<-(bz hm).1];refine Gw O.B N1.a.R Đ hnf hM fun b hb pos'=>?_
  obtain⟨l,e1,H⟩:=(ab H).get;obtain⟨b',h1,h2,h3⟩:=IA O H;obtain rfl:=Xn (hb.symm.trans h1);refine gu S h2 h3 (S.go N1.a (e1▸fun G2 vs s2 N2 V2 z=>⟨fun o e=>(N2.a.R.old b o h2 e).1,?_⟩));obtain⟨b',Α,_,_,w⟩:=I0 O N2.a (bA (V1.lat N2.x.lat) V2) H;obtain rfl:=Xn (h1.symm.trans Α);exact w.fin (N1.trans N2) fun z k=>k
|lst l=>
  obtain⟨f,hf,H⟩:=(ab H).get;obtain⟨id,M,own⟩:=hL f hf;have hT:∃b ob,u=.ref b∧s1.heap.get? b=some ob∧ob.cls=.type "list"∧ob.dict=none:=by obtain⟨y,e1,H⟩:=(ab H).get;obtain⟨r,e2,_⟩:=H.get;have ho:=own _ _ _ _ e2;obtain⟨b,e,it,n,g,_⟩:=N1.a.R.Â (l:=l) (by unfold cN;rw[hw];rfl) (by rcases ho with⟨i,e⟩|⟨i,e⟩<;>rw[e]<;>nofun) V1;exact⟨b,_,e,g,rfl,rfl⟩
  exact ă M hT H
|dct l=>obtain⟨f,hf,H⟩:=(ab H).get;obtain⟨id,M⟩:=hD f hf;obtain⟨b,e,Į,n,g,_⟩:=Đ;exact ă M ⟨b,_,e,g,rfl,rfl⟩ H
end
section
open PySem.W PyProof.Rows
set_option tactic.hygienic true in
theorem uf{tgt:Expr}{I:Addr}{v:Value}{o:Obj}{nm:String}{s:Shared}{M:Model}{A:Around}{E:Value->Shared->Prop}{Q:Unit->Shared->Prop}(ho:s.heap.get? I=some o)(hc:o.cls=.type nm)
  (hn:["enumerate","zip","dict_itemiterator","dict_reverseitemiterator","odict_iterator","itertools.zip_longest","itertools.pairwise"].contains nm=false) (hQ:Q () s):wpAny M A (letOwnedTupleGo tgt (.ref I) v) Q E s:=by
 have key:wpAny M A (do
  let(.ref r,.ref a):=(Value.ref I,v)|return
  let o <-load r
  match o.cls,o.data with
  |.type n,.fields vs=>
   if["enumerate","zip","dict_itemiterator","dict_reverseitemiterator","odict_iterator","itertools.zip_longest","itertools.pairwise"].contains n&&vs[0]? ==some (rawInt a) then
    rule "for.unpacks-the-owned-tuple"
    updateField r 0 .none
  |_,_=>pure ():Sem Unit) Q E s:=by
  cases v<;>try exact Yb hQ
  refine X9 (wpAny_load ho ?_);rw[hc];cases o.data with
  |fields vs=>dsimp only;rw[hn,Bool.false_and,Yg Yy];exact Yb hQ
  |_=>exact Yb hQ
 cases tgt<;>first|exact Yb hQ|exact key
section
variable{T:Tp}{G G1 G2:Gh}{s s1 s2:Shared}{st Zo Zu:St}
theorem aG.Z2(R:aG T G s st){lk':Addr->Prop}{st':St}(l1:st'.l.length=st.l.length)(g1:st'.g.length=st.g.length)
  (hl:∀(i:Nat) (e:Ent) (a:Addr),st'.l[i]?=some e->G.la[i]?=some a->∃e₀,st.l[i]?=some e₀∧e₀.o=e.o∧dX G.n i e.k=dX G.n i e₀.k∧(e.k.ZS=true->¬lk' a)∧(e.k.Zp=true->lk' a))
  (hg:∀(i:Nat) (e:Ent) (a:Addr),st'.g[i]?=some e->G.ga[i]?=some a->∃e₀,st.g[i]?=some e₀∧e₀.o=e.o∧e.k.ZA=false∧(e.k.ZS=true->¬lk' a)∧(e.k.Zp=true->lk' a))
  (hd:∀a,lk' a->(∃o,s.heap.get? a=some o)∧iY (G.own a)=true):aG T {G with lk:=lk'} s st':=by
 have L:jz G s.heap {G with lk:=lk'} s.heap:=⟨fun a o e f=>⟨f,e⟩,fun z=>Xq _,Xq _⟩
 have tr:∀{t a e e₀},dp T G s.heap t a e₀->e₀.o=e.o->(e.k.ZS=true->¬lk' a)->(e.k.Zp=true->lk' a)->dp T {G with lk:=lk'} s.heap t a e:=fun E h m t=>⟨E.own,h▸E.obj.lt L (fun z e=>e) (fun dx o d e=>⟨e,d⟩) (fun h=>by injection h),m,t⟩
 refine⟨R.old,R.ct.lat (G':={G with lk:=lk'}) (fun a o e f=>⟨f,e⟩) (fun z e=>e),R.ctP,R.there,R.lev,R.nle,g1▸R.glen,l1▸R.llen,fun i e a h1 h2=>?_,fun i e h1=>?_,fun i e a h1 h2=>?_,hd,R.gens⟩
 ·obtain⟨e₀,q0,q1,q2,q3⟩:=hg i e a h1 h2;exact tr (R.g i e₀ a q0 h2) q1 q3.1 q3.2
 ·have hi:i<G.ga.length:=by rw[R.glen,<-g1];exact(XO.mp h1).1
  obtain⟨e₀,q0,q1,q2,q3⟩:=hg i e _ h1 (XK hi);exact⟨q2,q1▸(R.gk i e₀ q0).2⟩
 ·obtain⟨e₀,q0,q1,q2,q3⟩:=hl i e a h1 h2;exact q2▸tr (R.l i e₀ a q0 h2) q1 q3.1 q3.2
theorem Ex.lock{tp:Bool}{Y:Nat->b5->Prop}{lk':Addr->Prop}(h:∀a,G.lk a->lk' a):Ex tp Y G s {G with lk:=lk'} s:=⟨⟨fun a o e f=>⟨f,e⟩,fun z=>Xq _,Xq _⟩,fun b m k e z=>⟨rfl,e⟩,fun b e=>⟨rfl,h b e⟩,rfl,fun z=>rfl,rfl⟩
def jV(G G1:Gh)(lk:Option PV):Prop:=∀p,lk=some p->∃a,¬G.lk a∧((∃i,p=.loc i∧G1.la[i]?=some a)∨∃i,p=.glob i∧G1.ga[i]?=some a)
theorem jV.none(G G1:Gh):jV G G1 none:=nofun
theorem CQ{n i j:Nat}{k k':Lk}(hk:k.ZA=false)(ZU:k'.ZA=false)(h:dX n i k=dX n j k'):i=j:=by
 let' e:∀{i k},k.ZA=false->dX n i k=.fr n (.obj i false):=(fun{i k} h=>by cases k<;>first|rfl|injection h)
 rw[e hk,e ZU] at h;injection h with _ h;injection h
theorem pM(R:aG T G s st){i j:Nat}{a:Addr}{e f:Ent}(h1:st.l[i]?=some e)(h2:G.la[i]?=some a)(h3:st.l[j]?=some f)(h4:G.la[j]?=some a)(he:e.k.ZA=false)(hf:f.k.ZA=false):i=j:=
 CQ he hf ((R.l i e a h1 h2).own.symm.trans (R.l j f a h3 h4).own)
theorem pE(R:aG T G s st){i j:Nat}{a:Addr}{e f:Ent}(h1:st.g[i]?=some e)(h2:G.ga[i]?=some a)(h3:st.g[j]?=some f)(h4:G.ga[j]?=some a):i=j:=by have:=(R.g i e a h1 h2).own.symm.trans (R.g j f a h3 h4).own;injection this
theorem qS(R:aG T G s st){i j:Nat}{a:Addr}{e f:Ent}(h1:st.l[i]?=some e)(h2:G.la[i]?=some a)(h3:st.g[j]?=some f)(h4:G.ga[j]?=some a):False:=by have:=(R.l i e a h1 h2).own.symm.trans (R.g j f a h3 h4).own;cases hk:e.k<;>rw[hk] at this<;>injection this
theorem Ls{k:Lk}(h:k.ZS=true):k.ZA=false:=by cases k<;>first|rfl|injection h
theorem Jb{k:Lk}(h:k.Zp=true):k.ZA=false:=by cases k<;>first|rfl|injection h
theorem sQ{l:List Ent}{i:Nat}(h:cH l i=true):∃o,l[i]?=some ⟨o,.mut⟩∧lT l i=l.set i ⟨o,.Zw⟩:=by
 unfold cH at h;unfold lT;cases e:l[i]? with
|none=>rw[e] at h;injection h
|some x=>
  rw[e] at h;obtain⟨o,k⟩:=x;cases k with
  |«mut»=>exact⟨o,rfl,rfl⟩
  |_=>injection h
theorem p5(l:List Ent)(i:Nat):dW l i=l∨∃o,l[i]?=some ⟨o,.Zw⟩∧dW l i=l.set i ⟨o,.mut⟩:=by
 unfold dW;cases l[i]? with
|none=>exact .inl rfl
|some x=>
  obtain⟨o,k⟩:=x;cases k with
  |Zw=>exact .inr ⟨o,rfl,rfl⟩
  |_=>exact .inl rfl
theorem pC{l:List Ent}{i:Nat}{e:Ent}(h:¬cH l i=true)(he:l[i]?=some e):e.k=.ZG∨e.k=.Zw:=by
 obtain⟨o,k⟩:=e;cases k with
|ZG=>exact .inl rfl
|Zw=>exact .inr rfl
|«mut»=>exact absurd (by unfold cH;rw[he]) h
theorem nX(st:St)(i:Nat):aK st (.loc i)=if cH st.l i then({st with l:=lT st.l i},some (PV.loc i)) else(st,none):=rfl
theorem lZ(st:St)(i:Nat):aK st (.glob i)=if cH st.g i then({st with g:=lT st.g i},some (PV.glob i)) else(st,none):=rfl
theorem nP(st:St)(i:Nat):Mine.Internal.aO st (some (.loc i))={st with l:=dW st.l i}:=rfl
theorem lU(st:St)(i:Nat):Mine.Internal.aO st (some (.glob i))={st with g:=dW st.g i}:=rfl
theorem Gf(R:aG T G s st){p:PV}{v:Value}{o:Zk}(hv:V T G s.heap p v)(ho:gN st p=some o)(hi:∀c f,o≠.inst c f):
  ∃G' a,v=.ref a∧aG T G' s (aK st p).1∧(∀Y,cB Y G s G' s)∧jV G G' (aK st p).2∧(G'.own a=.fz∨G'.lk a):=by
 have same:∀a,v=.ref a->aK st p=(st,none)->(G.own a=.fz∨G.lk a)->∃G' a,v=.ref a∧aG T G' s (aK st p).1∧(∀Y,cB Y G s G' s)∧jV G G' (aK st p).2∧(G'.own a=.fz∨G'.lk a):=fun a e1 e2 h=>by exact(e2)▸⟨G,a,e1,R,fun Y=>Ex.refl _ _ _ _,nofun,h⟩
 have Jc:∀{P:Addr->Prop},lK G P v->aK st p=(st,none)->∃G' a,v=.ref a∧aG T G' s (aK st p).1∧(∀Y,cB Y G s G' s)∧jV G G' (aK st p).2∧(G'.own a=.fz∨G'.lk a):=fun Zg e2=>by obtain⟨a,e,h,_⟩:=Zg;exact same a e e2 (.inl h)
 cases p with
|lst l=>exact Jc hv rfl
|tup l=>exact Jc hv rfl
|dct l=>exact Jc hv rfl
|inst c f=>injection ho with ho;exact absurd ho.symm (hi _ _)
|loc i=>
  obtain⟨a,ea,rfl⟩:=hv;obtain⟨e,he,rfl⟩:=XN.mp ho;have q:=R.l i e a he ea;by_cases hm:cH st.l i=true
  ·obtain⟨ob,ã,Ĝ⟩:=sQ hm;rw[ã] at he;obtain rfl:=Xn he;have e1:aK st (.loc i)=({st with l:=st.l.set i ⟨ob,.Zw⟩},some (.loc i)):=by rw[nX,Yh hm,Ĝ]
   rw[e1];refine⟨{G with lk:=fun b=>G.lk b∨b=a},a,rfl,R.Z2 (st':={st with l:=st.l.set i ⟨ob,.Zw⟩}) List.length_set rfl (fun j f b h1 h2=>?_) (fun j f b h1 h2=>?_) (fun b hb=>hb.elim (R.lkd b) fun hb=>?_),fun Y=>Ex.lock fun b=>.inl,fun p h=>?_,.inr (.inr rfl)⟩
   ·rcases dg h1 with⟨rfl,rfl⟩|⟨É,h1⟩
    ·rw[ea] at h2;obtain rfl:=Xn h2;exact⟨_,ã,rfl,rfl,(fun h=>by injection h),fun z=>.inr rfl⟩
    ·have E:=R.l j f b h1 h2;exact⟨f,h1,rfl,rfl,fun hk h=>h.elim (E.mu hk) fun h=>É (pM R ã ea h1 (h▸h2) rfl (Ls hk)),fun hk=>.inl (E.tm hk)⟩
   ·have E:=R.g j f b h1 h2;exact⟨f,h1,rfl,(R.gk j f h1).1,fun hk h=>h.elim (E.mu hk) fun h=>qS R ã ea h1 (h▸h2),fun hk=>.inl (E.tm hk)⟩
   ·subst hb;exact⟨q.obj.get,by rw[q.own];rfl⟩
   ·obtain rfl:=Xn h;exact⟨a,q.mu rfl,.inl ⟨i,rfl,ea⟩⟩
  ·refine same a rfl (by rw[nX,Yg hm]) ?_;rcases pC hm he with hk|hk
   ·left;rw[q.own,hk];rfl
   ·right;exact q.tm (by rw[hk];rfl)
|glob i=>
  obtain⟨a,ea,rfl⟩:=hv;obtain⟨e,he,rfl⟩:=XN.mp ho;have q:=R.g i e a he ea;by_cases hm:cH st.g i=true
  ·obtain⟨ob,ã,Ĝ⟩:=sQ hm;rw[ã] at he;obtain rfl:=Xn he;have e1:aK st (.glob i)=({st with g:=st.g.set i ⟨ob,.Zw⟩},some (.glob i)):=by rw[lZ,Yh hm,Ĝ]
   rw[e1];refine⟨{G with lk:=fun b=>G.lk b∨b=a},a,rfl,R.Z2 (st':={st with g:=st.g.set i ⟨ob,.Zw⟩}) rfl List.length_set (fun j f b h1 h2=>?_) (fun j f b h1 h2=>?_) (fun b hb=>hb.elim (R.lkd b) fun hb=>?_),fun Y=>Ex.lock fun b=>.inl,fun p h=>?_,.inr (.inr rfl)⟩
   ·have E:=R.l j f b h1 h2;exact⟨f,h1,rfl,rfl,fun hk h=>h.elim (E.mu hk) fun h=>qS R h1 (h▸h2) ã ea,fun hk=>.inl (E.tm hk)⟩
   ·rcases dg h1 with⟨rfl,rfl⟩|⟨É,h1⟩
    ·rw[ea] at h2;obtain rfl:=Xn h2;exact⟨_,ã,rfl,rfl,(fun h=>by injection h),fun z=>.inr rfl⟩
    ·have E:=R.g j f b h1 h2;exact⟨f,h1,rfl,(R.gk j f h1).1,fun hk h=>h.elim (E.mu hk) fun h=>É (pE R ã ea h1 (h▸h2)),fun hk=>.inl (E.tm hk)⟩
   ·subst hb;exact⟨q.obj.get,by rw[q.own];rfl⟩
   ·obtain rfl:=Xn h;exact⟨a,q.mu rfl,.inr ⟨i,rfl,ea⟩⟩
  ·refine same a rfl (by rw[lZ,Yg hm]) ?_;rcases pC hm he with hk|hk
   ·have:=(R.gk i e he).1;rw[hk] at this;injection this
   ·right;exact q.tm (by rw[hk];rfl)
|_=>injection ho
theorem ls{tp:Bool}{Y:Nat->b5->Prop}{lk:Option PV}(R2:aG T G2 s2 Zu)(ė:G1.la<+:G2.la)(ù:G1.ga<+:G2.ga)(x:Ex tp Y G s G2 s2)(hl:jV G G1 lk):
  ∃lk',aG T {G2 with lk:=lk'} s2 (Mine.Internal.aO Zu lk)∧Ex tp Y G s {G2 with lk:=lk'} s2:=by
 have same:Mine.Internal.aO Zu lk=Zu->∃lk',aG T {G2 with lk:=lk'} s2 (Mine.Internal.aO Zu lk)∧Ex tp Y G s {G2 with lk:=lk'} s2:=fun e=>by rw[e];exact⟨_,R2,x⟩
 have un:∀{a},¬G.lk a->Ex tp Y G s {G2 with lk:=fun b=>G2.lk b∧b≠a} s2:=fun ha=>
  ⟨x.lat.trans ⟨fun a o e f=>⟨f,e⟩,fun z=>Xq _,Xq _⟩,x.fr,fun b h=>⟨(x.lk b h).1,(x.lk b h).2,fun e=>ha (e▸h)⟩,x.n,x.top,x.os⟩
 cases lk with
|none=>exact same rfl
|some p=>
  obtain⟨a,ha,⟨i,rfl,hi⟩|⟨i,rfl,hi⟩⟩:=hl p rfl
  ·have ĝ:=dq ė hi;rcases p5 Zu.l i with h|⟨ob,he,h⟩
   ·exact same (by rw[nP,h])
   ·refine⟨fun b=>G2.lk b∧b≠a,(show Mine.Internal.aO Zu (some (.loc i))={Zu with l:=Zu.l.set i ⟨ob,.mut⟩} by rw[nP,h])▸R2.Z2 List.length_set rfl (fun j f b g1 g2=>?_) (fun j f b g1 g2=>?_) (fun b hb=>R2.lkd b hb.1),un ha⟩
    ·rcases dg g1 with⟨rfl,rfl⟩|⟨É,g1⟩
     ·rw[ĝ] at g2;obtain rfl:=Xn g2;exact⟨_,he,rfl,rfl,fun z h=>h.2 rfl,(fun h=>by injection h)⟩
     ·have E:=R2.l j f b g1 g2;exact⟨f,g1,rfl,rfl,fun hk h=>E.mu hk h.1,fun hk=>⟨E.tm hk,fun h=>É (pM R2 he ĝ g1 (h▸g2) rfl (Jb hk))⟩⟩
    ·have E:=R2.g j f b g1 g2;exact⟨f,g1,rfl,(R2.gk j f g1).1,fun hk h=>E.mu hk h.1,fun hk=>⟨E.tm hk,fun h=>qS R2 he ĝ g1 (h▸g2)⟩⟩
  ·have ĝ:=dq ù hi;rcases p5 Zu.g i with h|⟨ob,he,h⟩
   ·exact same (by rw[lU,h])
   ·refine⟨fun b=>G2.lk b∧b≠a,(show Mine.Internal.aO Zu (some (.glob i))={Zu with g:=Zu.g.set i ⟨ob,.mut⟩} by rw[lU,h])▸R2.Z2 rfl List.length_set (fun j f b g1 g2=>?_) (fun j f b g1 g2=>?_) (fun b hb=>R2.lkd b hb.1),un ha⟩
    ·have E:=R2.l j f b g1 g2;exact⟨f,g1,rfl,rfl,fun hk h=>E.mu hk h.1,fun hk=>⟨E.tm hk,fun h=>qS R2 g1 (h▸g2) he ĝ⟩⟩
    ·rcases dg g1 with⟨rfl,rfl⟩|⟨É,g1⟩
     ·rw[ĝ] at g2;obtain rfl:=Xn g2;exact⟨_,he,rfl,rfl,fun z h=>h.2 rfl,(fun h=>by injection h)⟩
     ·have E:=R2.g j f b g1 g2;exact⟨f,g1,rfl,(R2.gk j f g1).1,fun hk h=>E.mu hk h.1,fun hk=>⟨E.tm hk,fun h=>É (pE R2 he ĝ g1 (h▸g2))⟩⟩
end
def Xw(n:Nat)(wr:List Addr):Nat->b5->Prop:=fun m k=>(m=n∧∃i d,k=.obj i d)∨(m=n∧∃b∈wr,k=.it b)
def xV(G:Gh)(wr:List Addr):Prop:=∀b∈wr,G.own b=.fr G.n (.it b)
section
variable{T:Tp}{tp:Bool}{G G1 G2:Gh}{s s1 s2:Shared}{st Zu:St}{A:Around}
theorem aG.steps(R:aG T G s st){wr:List Addr}(ow:xV G wr){h':Heap}(tk:Nat)(k:∀b o,b∉wr->s.heap.get? b=some o->h'.get? b=some o)(hm:∀b∈wr,∃o,h'.get? b=some o):
  aG T G {s with heap:=h',toks:=tk} st∧cB (Xw G.n wr) G s G {s with heap:=h',toks:=tk}:=
 R.Å (own':=G.own) tk (· ∈wr) (fun z z=>rfl) (fun b o d=>k b o d) (fun b d=>.inr ⟨_,_,ow b d,rfl,nofun⟩) (fun b d z=>⟨hm b d,fun n k e=>R.lev b n k e⟩) fun b n k e d=>by have:=e.symm.trans (ow b d);injection this with e1 e2;exact .inr ⟨e1,b,d,e2⟩
theorem aG.dropped(R:aG T G s st){wr:List Addr}(ow:xV G wr){h':Heap}(tk:Nat)(k:∀b o,b∉wr->s.heap.get? b=some o->h'.get? b=some o):
  ∃G',(aG T G' {s with heap:=h',toks:=tk} st∧cB (Xw G.n wr) G s G' {s with heap:=h',toks:=tk}):=
 ⟨_,R.Å (own':=fun b=>if b∈wr then .fz else G.own b) tk (· ∈wr) (fun z d=>Yg d) (fun b o d=>k b o d) (fun b d=>.inr ⟨_,_,ow b d,rfl,nofun⟩) (fun b d hn=>absurd (Yh d) hn) fun b n k e d=>by have:=e.symm.trans (ow b d);injection this with e1 e2;exact .inr ⟨e1,b,d,e2⟩⟩
theorem aG.Ú(R:aG T G s st){wr:List Addr}{h':Heap}(tk:Nat)(k:gn s.heap h')(hn:∀b∈wr,s.heap.get? b=none)(hm:∀b∈wr,∃o,h'.get? b=some o):
  ∃G',aG T G' {s with heap:=h',toks:=tk} st∧cB (Xe G.n) G s G' {s with heap:=h',toks:=tk}∧xV G' wr∧∀b,b∉wr->G'.own b=G.own b:=
 have:=R.Å (own':=fun b=>if b∈wr then .fr G.n (.it b) else G.own b) (X:=Xe G.n) tk (· ∈wr) (fun z d=>Yg d) (fun b o d=>k b o) (fun b d=>.inl ⟨R.fresh (hn b d),hn b d⟩) (fun b d h=>⟨hm b d,fun n k e=>by have:=(Yh d).symm.trans e;injection this with e1 e2;exact⟨e1▸R.nle,fun c ec=>by have:=e2.trans ec;injection this with this;exact this.symm⟩⟩) fun b n k e d=>by rw[R.fresh (hn b d)] at e;injection e
 ⟨_,this.1,this.2,fun b d=>Yh d,fun b d=>Yg d⟩
def VU(T:Tp)(tgt:Expr)(G:Gh)(h:Heap)(p:PV)(v:Value):Prop:=V T G h p v∨(∃es c pos,tgt=.Tuple es c pos)∧∃l a vals,p=.tup l∧v=.ref a∧h.IsTuple a vals∧Vs T G h l vals.toList
structure S7(T:Tp)(A:Around)(tgt:Expr)(G:Gh)(h:Heap)(I:Addr)(wr:List Addr)(items:List PV)(j:Nat)(fp:List Addr)(P:Nat->Value->Heap->Prop)(Md:Nat->Value->Heap->Prop)(S:Nat->Heap->Prop):Prop where
 K:KTurns T.prog T.w A tgt I fp wr items.length P Md S
 self:∀i (s:Shared) (Q:Value->Shared->Prop),S i s.heap->Q (.ref I) s->W T A (pyIter (.ref I)) Q s
 at_:S j h
 ex:∀i h,S i h->∀b∈fp,∃o,h.get? b=some o
 ł:∀b∈fp,b∈wr∨G.own b=.fz∨G.lk b
 val:∀i p v G' h',items[i]?=some p->P i v h'->jz G h G' h'->VU T tgt G' h' p v
 own:xV G wr
def It(T:Tp)(A:Around)(tgt:Expr)(G:Gh)(h:Heap)(I:Addr)(wr:List Addr)(items:List PV)(j:Nat):Prop:=∃fp P Md S,S7 T A tgt G h I wr items j fp P Md S
theorem It.ext{tgt:Expr}{I:Addr}{wr:List Addr}{items:List PV}{j:Nat}(x:It T A tgt G s.heap I wr items j){Y:Nat->b5->Prop}(hY:∀b∈wr,¬Y G.n (.it b))(e:Ex tp Y G s G1 s1):It T A tgt G1 s1.heap I wr items j:=by
 obtain⟨fp,P,Md,S,x⟩:=x;exact⟨fp,P,Md,S,x.K,x.self,x.K.frame _ _ _ x.at_ fun b hb o eo=>(x.ł b hb).elim (fun h=>(e.fr b _ _ (x.own b h) (hY b h)).1.trans eo) fun h=>h.elim (fun h=>(e.lat.fz b o h eo).1) fun h=>(e.lk b h).1.trans eo,
  x.ex,fun b hb=>(x.ł b hb).imp id fun h=>h.imp (fun h=>by obtain⟨o,eo⟩:=x.ex _ _ x.at_ b hb;exact(e.lat.fz b o h eo).2) fun h=>(e.lk b h).2,fun i p v G' h' a1 a2 a3=>x.val i p v G' h' a1 a2 (e.lat.trans a3),fun b hb=>e.n▸(e.fr b _ _ (x.own b hb) (hY b hb)).2⟩
theorem It.next{tgt:Expr}{I:Addr}{wr:List Addr}{items:List PV}{j:Nat}(x:It T A tgt G s.heap I wr items j)(R:aG T G s st){Q:Option Value->Shared->Prop}
  (h1:∀p v s1,items[j]?=some p->W T A (letOwnedTupleGo tgt (.ref I) v) (fun z s2=>aG T G s2 st∧cB (Xw G.n wr) G s G s2∧It T A tgt G s2.heap I wr items (j+1)∧VU T tgt G s2.heap p v) s1->Q (some v) s1)
  (h2:∀G' s1,items.length≤j->aG T G' s1 st->cB (Xw G.n wr) G s G' s1->Q none s1) (hj:j≤items.length):W T A (pyNext (.ref I)) Q s:=by
 obtain⟨fp,P,Md,S,x⟩:=x;by_cases Z5:j<items.length
 ·refine x.K.item j s _ _ Z5 x.at_ fun v h' tk md k1=>h1 items[j] v _ (XK Z5) (x.K.go j v _ _ _ md fun á pv st' k2=>?_)
  obtain⟨R',X'⟩:=R.steps x.own tk (fun b o hb e=>k2 b o hb (k1 b o hb e)) fun b hb=>x.ex _ _ st' b (x.K.sub b hb)
  exact⟨R',X',⟨fp,P,Md,S,x.K,x.self,st',x.ex,x.ł,fun i p v G' h' a1 a2 a3=>x.val i p v G' h' a1 a2 (X'.lat.trans a3),x.own⟩,x.val j _ v G _ (XK Z5) pv X'.lat⟩
 ·obtain rfl:j=items.length:=YR hj (Yn.mp Z5);refine x.K.done s _ _ x.at_ fun h' tk k1=>?_
  obtain⟨G',R',X'⟩:=R.dropped x.own tk k1;exact h2 G' _ (Xx _) R' X'
def t8(T:Tp)(A:Around)(tgt:Expr)(G:Gh)(s:Shared)(st:St)(items:List PV):Value->Shared->Prop:=
 fun it s2=>∃I wr G2,it=.ref I∧aG T G2 s2 st∧cB (Xe G.n) G s G2 s2∧It T A tgt G2 s2.heap I wr items 0∧∀b∈wr,s.heap.get? b=none
theorem br{α:Type}{P:α->Prop}{a:α}{l:List α}(h:P a)(k:∀b∈l,P b):∀b∈a::l,P b:=List.forall_mem_cons.mpr ⟨h,k⟩
theorem ff{α:Type}{P:α->Prop}:∀b∈([]:List α),P b:=nofun
theorem IF{tgt:Expr}{items:List PV}{h':Heap}{tk:Nat}{I:Addr}{fp wr:List Addr}{P:Nat->Value->Heap->Prop}{Md:Nat->Value->Heap->Prop}{S:Nat->Heap->Prop}(R:aG T G s st)(k:gn s.heap h')(hn:∀b∈wr,s.heap.get? b=none)
  (K:KTurns T.prog T.w A tgt I fp wr items.length P Md S) (self:∀i (s:Shared) (Q:Value->Shared->Prop),S i s.heap->Q (.ref I) s->W T A (pyIter (.ref I)) Q s) (h0:S 0 h') (hex:∀i h,S i h->∀b∈fp,∃o,h.get? b=some o) (Ń:∀b∈fp,b∈wr∨G.own b=.fz∨G.lk b)
  (hv:∀i p v G' á,items[i]?=some p->P i v á->jz G s.heap G' á->VU T tgt G' á p v):t8 T A tgt G s st items (.ref I) {s with heap:=h',toks:=tk}:=by
 obtain⟨G',R',X',ow,nw⟩:=R.Ú (wr:=wr) tk k hn fun b hb=>hex _ _ h0 b (K.sub b hb)
 exact⟨I,wr,G',rfl,R',X',⟨fp,P,Md,S,K,self,h0,hex,fun b hb=>Decidable.byCases (p:=b∈wr) .inl fun d=>.inr (((Ń b hb).resolve_left d).imp (fun h=>(nw b d).trans h) fun h=>(X'.lk b h).2),fun i p v ř á e1 e2 e3=>hv i p v ř á e1 e2 (X'.lat.trans e3),ow⟩,hn⟩
end
section
variable{prog:Program}{w:World}{A:Around}{E:Value->Shared->Prop}{s:Shared}
theorem kB{it t:Addr}{i:Nat}{items:Array Value}{x:Value}{Q:Value->Shared->Prop}(hit:s.heap.IsTupleIter it t i)(ht:s.heap.IsTuple t items)(hx:items[i]?=some x)
  (hQ:∀h',h'.IsTupleIter it t (i+1)->Heap.SameBut it s.heap h'->Q x {s with heap:=h'}):wpAny (model prog w) A (Builtin.SmallTypes.nextOf (.ref it)) Q E s:=by
 obtain⟨o,ho,hc,hd⟩:=id hit;obtain⟨ot,Γ,_,nt,Δ⟩:=ht;unfold Builtin.SmallTypes.nextOf;refine X9 (wpAny_callSpecial?_slot (name:=Str.ofString "__next__") hit.typeIs PySem.F.slot_tuple_iterator_next
  (Zb PySem.F.slot_tuple_iterator_next hit.typeIs PySem.F.entry_tuple_iterator_next ?_ (PySem.F.args_tuple_iterator_next_1 _)))
 refine(?_:wpAny _ _ (field (.ref it) 0>>= _) _ _ s);refine X9 (wpAny_field ho hd (x:=.ref t) rfl ?_);refine(?_:wpAny _ _ (if(Value.ref t==Value.none)=true then _ else _) _ _ s);rw[Yg (show ¬((Value.ref t==Value.none)=true) from Yy)];refine(?_:wpAny _ _ (field (.ref it) 1>>= _) _ _ s);refine X9 (wpAny_field ho hd (x:=.int i 0) rfl ?_);refine(?_:wpAny _ _ (seqItems? (.ref t)>>= _) _ _ s);refine X9 (wpAny_seqItems Γ Δ ?_);dsimp only;rw[Ze,hx];refine X9 (wpAny_setField ho hd (by simp) (Yb ⟨x,rfl,Yb (hQ _ ?_ (Heap.SameBut.update ..))⟩))
 exact⟨_,Heap.get?_update_self _ ho (Obj.isFreed_of_fields (Obj.data_mapFields hd _)),(Obj.cls_mapFields ..).trans hc,by
  rw[Obj.data_mapFields hd];simp[rawInt]⟩
theorem kS{it t:Addr}{i:Nat}{items:Array Value}{Q:Value->Shared->Prop}(hh:A.handled=none)(hit:s.heap.IsTupleIter it t i)(ht:s.heap.IsTuple t items)(hx:items[i]?=none)
  (hE:∀h' e,Heap.ExtBut it s.heap h'->(Exists fun o=>h'.get? e=some o∧o.cls=.type "StopIteration")->E (.ref e) {s with heap:=h'}):wpAny (model prog w) A (Builtin.SmallTypes.nextOf (.ref it)) Q E s:=by
 obtain⟨o,ho,hc,hd⟩:=id hit;obtain⟨ot,Γ,_,nt,Δ⟩:=ht;unfold Builtin.SmallTypes.nextOf;refine X9 (wpAny_callSpecial?_slot (name:=Str.ofString "__next__") hit.typeIs PySem.F.slot_tuple_iterator_next
  (Zb PySem.F.slot_tuple_iterator_next hit.typeIs PySem.F.entry_tuple_iterator_next ?_ (PySem.F.args_tuple_iterator_next_1 _)))
 refine(?_:wpAny _ _ (field (.ref it) 0>>= _) _ _ s);refine X9 (wpAny_field ho hd (x:=.ref t) rfl ?_);refine(?_:wpAny _ _ (if(Value.ref t==Value.none)=true then _ else _) _ _ s);rw[Yg (show ¬((Value.ref t==Value.none)=true) from Yy)];refine(?_:wpAny _ _ (field (.ref it) 1>>= _) _ _ s);refine X9 (wpAny_field ho hd (x:=.int i 0) rfl ?_);refine(?_:wpAny _ _ (seqItems? (.ref t)>>= _) _ _ s);refine X9 (wpAny_seqItems Γ Δ ?_);dsimp only;rw[Ze,hx];refine X9 (wpAny_rule (X9 (wpAny_setField ho hd (by simp) ?_)));refine(?_:wpAny _ _ (newExc (.type "StopIteration") []>>= _) _ _ _)
 refine X9 ?_;delta newExc newTuple;refine X9 (Za ?_ (by size_fits));refine X9 (m:=firstArgMember _ _) (Zc (a:=Value.none) (by first|rfl|(simp only[firstArgMember];rfl)) ?_);refine Za ?_ (by size_fits);delta raiseNew;refine X9 (wpAny_handled ?_)
 first|rw[show A.in1.handled=none from hh]|rw[hh]
 refine X9 (Yb (wpAny_throw ?_));exact hE _ _ (((Heap.SameBut.update ..).extBut.push _).push _) ⟨_,XF _ rfl,rfl⟩
theorem uM(hh:A.handled=none)(it l:Addr)(Á:l≠it)(items:Array Value):
  Draws prog w A it [it,l] items.size (fun i v=>items[i]?=some v) (fun i h=>h.IsTupleIter it l i∧h.IsTuple l items) where
 live:=fun z z st=>by obtain⟨o,ho,_⟩:=st.1;exact⟨o,ho⟩
 frame:=fun z z z st hk=>⟨st.1.at fun o e=>hk it (by simp) o e,st.2.at fun o e=>hk l (by simp) o e⟩
 item:=fun i s Q E hi st hQ=>by
  refine kB st.1 st.2 (x:=items[i]) (by simp[hi]) fun h' Ù Ā=>?_
  exact hQ _ h' s.toks (by simp[hi]) ⟨Ù,st.2.extBut Ā.extBut Á⟩ Ā
 done:=fun s Q E st hE=>kS hh st.1 st.2 (by simp) hE
set_option tactic.hygienic true in
theorem Dz{α:Type}{b0:α}{M:Model}{A:Around}{s:Shared}{E:Value->Shared->Prop}{Q:α->Shared->Prop}(h:∀b,Q b s):wpAny M A (pure b0) Q E s:=Yb (h _)
theorem lh(l:Addr)(items:Array Value)(n:Nat):
  Meets (Builtin.«enumerate.__new__» ⟨[.type "enumerate",.ref l],[]⟩) (fun z R s=>s.heap.get? l=some (cT items n)∧
   R (.ok (.ret (.ref (s.heap.push {cls:=.type "tuple_iterator",data:=.fields #[.ref l,.int 0 0]}).objs.size)))
    {s with heap:=(s.heap.push {cls:=.type "tuple_iterator",data:=.fields #[.ref l,.int 0 0]}).push {cls:=.type "enumerate",data:=.fields #[.none,.bool false,.ref s.heap.objs.size,rawInt 0,.none,.none]}}):=
 .of_wp fun prog w A R s h=>by
  obtain⟨hp,g,d,tk,os⟩:=s;obtain⟨hl,h⟩:=h;have hsub:=sub_enumerate;have hL:Heap.IsTuple (Shared.heap ⟨hp,g,d,tk,os⟩) l items:=⟨_,hl,rfl,n,rfl⟩
  wp_walk using AutoSeq1.wpAny_loadPart' hl
  refine wpAny_stack_any fun st=>Dz fun b=>?_
  cases b
  ·wp_walk using AutoSeq1.wpAny_loadPart' hl,PySem.wpAny_pyIter_tuple hL
   exact⟨_,rfl,h⟩
  ·wp_walk using AutoSeq1.wpAny_loadPart' hl,PySem.wpAny_pyIter_tuple hL
   exact⟨_,rfl,h⟩
theorem mr{l:Addr}{items:Array Value}{n:Nat}{Q:Value->Shared->Prop}(hl:s.heap.get? l=some (cT items n))
  (h:∀h',IsEnum h' (s.heap.objs.size+1) s.heap.objs.size 0 .none->h'.IsTupleIter s.heap.objs.size l 0->(∀b o,s.heap.get? b=some o->h'.get? b=some o)->Q (.ref (s.heap.objs.size+1)) {s with heap:=h'}):
  wpAny (model prog w) A (call (.type "enumerate") [.ref l]) Q E s:=by
 refine callType_new PySem.F.called_enumerate (by decide) (PySem.F.typeCall_enumerate_1 _) (PySem.F.newCall_enumerate_1 _) (fun obj=>PySem.F.args_object_init_2 obj _) PySem.F.entry_enumerate_new
  (lh l items n) ⟨hl,?_⟩
 have hz:(s.heap.push {cls:=.type "tuple_iterator",data:=.fields #[.ref l,.int 0 0]}).objs.size=s.heap.objs.size+1:=Heap.size_push ..;refine(?_:_∧_);rw[hz];have he:IsEnum ((s.heap.push {cls:=.type "tuple_iterator",data:=.fields #[.ref l,.int 0 0]}).push
   {cls:=.type "enumerate",data:=.fields #[.none,.bool false,.ref s.heap.objs.size,rawInt 0,.none,.none]}) (s.heap.objs.size+1) s.heap.objs.size 0 .none:=by
  have:=XF (s.heap.push {cls:=.type "tuple_iterator",data:=.fields #[.ref l,.int 0 0]})
   (o:={cls:=.type "enumerate",data:=.fields #[.none,.bool false,.ref s.heap.objs.size,rawInt 0,.none,.none]}) rfl
  rw[hz] at this;exact this
 exact⟨⟨_,he,rfl⟩,h _ he ⟨_,Xv _ (XF _ rfl),rfl,rfl⟩ fun b o x=>Xv _ (Xv _ x)⟩
end
section
variable{T:Tp}{G G1 G2:Gh}{s s1 s2:Shared}{st Zu:St}{A:Around}
theorem iN{tgt:Expr}{items:List PV}{h':Heap}{tk:Nat}{I:Addr}{fp wr:List Addr}{P:Nat->Value->Prop}{S:Nat->Heap->Prop}(R:aG T G s st)(k:gn s.heap h')(hn:∀b∈wr,s.heap.get? b=none)
  (Wk:Walks T.prog T.w A I fp wr items.length P S) (h0:S 0 h') (hex:∀i h,S i h->∀b∈fp,∃o,h.get? b=some o) (Ń:∀b∈fp,b∈wr∨G.own b=.fz∨G.lk b)
  (hgo:∀i h,S i h->∃o nm,h.get? I=some o∧o.cls=.type nm∧["enumerate","zip","dict_itemiterator","dict_reverseitemiterator","odict_iterator","itertools.zip_longest","itertools.pairwise"].contains nm=false)
  (hv:∀i p v,items[i]?=some p->P i v->V T G s.heap p v):t8 T A tgt G s st items (.ref I) {s with heap:=h',toks:=tk}:=
 IF R k hn (KTurns.ofWalks Wk fun i v s Q E st hq=>by obtain⟨o,nm,h1,h2,h3⟩:=hgo i _ st;exact uf h1 h2 h3 hq) (fun i s Q h hq=>Wk.self i s Q no h hq) h0 hex Ń fun i p v G' á e1 e2 e3=>.inl ((hv i p v e1 e2).lat e3)
theorem js{es:List Expr}{c:Nat}{pos:Pos}{items:List PV}{h':Heap}{tk:Nat}{I:Addr}{fp wr:List Addr}{Pt:Nat->Array Value->Prop}{S:Nat->Heap->Prop}{Mid:Nat->Addr->Heap->Prop}(R:aG T G s st)(k:gn s.heap h')(hn:∀b∈wr,s.heap.get? b=none)
  (Wk:WalksT T.prog T.w A I fp wr items.length Pt S Mid) (h0:S 0 h') (hex:∀i h,S i h->∀b∈fp,∃o,h.get? b=some o) (Ń:∀b∈fp,b∈wr∨G.own b=.fz∨G.lk b)
  (hv:∀i p vals,items[i]?=some p->Pt i vals->∃l,p=.tup l∧Vs T G s.heap l vals.toList):t8 T A (.Tuple es c pos) G s st items (.ref I) {s with heap:=h',toks:=tk}:=
 IF R k hn (KTurns.ofWalksU Wk.toU) (fun i s Q h hq=>Wk.self i s Q no h hq) h0 hex Ń fun i p v G' á e1 ⟨Tt,vals,e,hP,hT⟩ e3=>by obtain⟨l,e2,hx⟩:=hv i p vals e1 hP;exact .inr ⟨⟨_,_,_,rfl⟩,l,Tt,vals,e2,e,hT,hx.lat e3⟩
theorem v5{h:Heap}{I a:Addr}{i:Nat}(x:h.IsListIter I a i):∃o,h.get? I=some o∧o.cls=.type "list_iterator":=by obtain⟨o,e,c,_⟩:=x;exact⟨o,e,c⟩
theorem v7{h:Heap}{I a:Addr}{i:Nat}(x:h.IsTupleIter I a i):∃o,h.get? I=some o∧o.cls=.type "tuple_iterator":=by obtain⟨o,e,c,_⟩:=x;exact⟨o,e,c⟩
theorem kP{l:List PV}{items:Array Value}{h:Heap}(hx:Vs T G h l items.toList){i:Nat}{p:PV}{v:Value}(e1:l[i]?=some p)(e2:items[i]?=some v):V T G h p v:=by obtain⟨u,e3,hu⟩:=hx.get e1;rw[Yk] at e3;exact Xn (e3.symm.trans e2)▸hu
theorem eO{h:Heap}{a:Addr}{o:Obj}(hl:h.get? a=some o){k:Nat}:a≠h.objs.size+k:=fun e=>by rw[e,Heap.get?_none_of_le (XH _ _)] at hl;injection hl
theorem jk{h:Heap}(k:Nat):h.get? (h.objs.size+k)=none:=Heap.get?_none_of_le (XH _ _)
theorem Bu{tgt:Expr}{l:List PV}{a:Addr}(hh:A.handled=none)(R:aG T G s st)(x:cV s.heap bD l.length (Vs T G s.heap l) a)(hf:G.own a=.fz∨G.lk a):W T A (pyIter (.ref a)) (t8 T A tgt G s st l) s:=by
 obtain⟨items,m,hl,_,hx⟩:=x;let' Wk:=Walks.list (prog:=T.prog) (w:=T.w) hh s.heap.objs.size a (eO hl (k:=0)) items;rw[hx.size] at Wk;exact wpAny_pyIter_list ⟨_,hl,rfl,_,rfl⟩ (iN (tk:=s.toks) R (bt _ _) (br (aV _) ff) Wk ⟨⟨_,XF _ rfl,rfl,rfl⟩,⟨_,Xv _ hl,rfl,_,rfl⟩⟩
  (fun i h st=>br (by obtain⟨o,e,_⟩:=v5 st.1;exact⟨o,e⟩) (br (by obtain⟨o,e,_⟩:=st.2;exact⟨o,e⟩) ff)) (br (.inl Xy) (br (.inr hf) ff))
  (fun i h st=>by obtain⟨o,e,c⟩:=v5 st.1;exact⟨o,_,e,c,by decide⟩) fun i p v e1 e2=>kP hx e1 e2)
theorem yb{tgt:Expr}{l:List PV}{a:Addr}(hh:A.handled=none)(R:aG T G s st)(x:cV s.heap cT l.length (Vs T G s.heap l) a)(hf:G.own a=.fz∨G.lk a):W T A (pyIter (.ref a)) (t8 T A tgt G s st l) s:=by
 obtain⟨items,m,hl,_,hx⟩:=x;let' Wk:=Walks.tuple (prog:=T.prog) (w:=T.w) hh s.heap.objs.size a (eO hl (k:=0)) items;rw[hx.size] at Wk;exact PySem.wpAny_pyIter_tuple ⟨_,hl,rfl,_,rfl⟩ (iN (tk:=s.toks) R (bt _ _) (br (aV _) ff) Wk ⟨⟨_,XF _ rfl,rfl,rfl⟩,⟨_,Xv _ hl,rfl,_,rfl⟩⟩
  (fun i h st=>br (by obtain⟨o,e,_⟩:=v7 st.1;exact⟨o,e⟩) (br (by obtain⟨o,e,_⟩:=st.2;exact⟨o,e⟩) ff)) (br (.inl Xy) (br (.inr hf) ff))
  (fun i h st=>by obtain⟨o,e,c⟩:=v7 st.1;exact⟨o,_,e,c,by decide⟩) fun i p v e1 e2=>kP hx e1 e2)
theorem Ae{tgt:Expr}{l:List (PV×PV)}{a:Addr}(hh:A.handled=none)(R:aG T G s st)(x:eT s.heap l (g9 T G s.heap l) a)(hf:G.own a=.fz∨G.lk a):W T A (pyIter (.ref a)) (t8 T A tgt G s st (l.map (·.1))) s:=by
 obtain⟨es,m,hl,⟨hm,_⟩,hx⟩:=x;let' xk:=hx.keys;have e:es.size=(l.map (·.1)).length:=by have:=xk.length;rwa [Xm,Yl] at this
 let' Wk:=ug (prog:=T.prog) (w:=T.w) hh s.heap.objs.size a (eO hl (k:=0)) es m;rw[e] at Wk;exact xi (oE hm) hl (iN (tk:=s.toks) R (bt _ _) (br (aV _) ff) Wk ⟨⟨_,XF _ rfl,rfl,by rw[<-e];rfl⟩,Xv _ hl⟩
  (fun i h st=>br (by obtain⟨o,e,_⟩:=st.1;exact⟨o,e⟩) (br ⟨_,st.2⟩ ff)) (br (.inl Xy) (br (.inr hf) ff))
  (fun i h st=>by obtain⟨o,e,c,_⟩:=st.1;exact⟨o,_,e,c,by decide⟩) fun i p v e1 ⟨ee,e2,e3⟩=>by obtain⟨u,e4,hu⟩:=xk.get e1;rw[List.getElem?_map,Yk,e2] at e4;let' e5:ee.key=u:=Xn e4;subst e3 e5;exact hu)
theorem hH{x:Int}(h:z8 x=true): -1000000000000≤x∧x≤1000000000000:=Ye h
theorem Fi(a b:Int):Builtin.Range.rangeSize a b 1=((b-a).toNat:Int):=by
 rw[rangeSize_one];by_cases h:a<b
 ·rw[Yh h];exact(Int.toNat_of_nonneg (Int.sub_nonneg_of_le (Int.le_of_lt h))).symm
 ·rw[Yg h,Int.toNat_of_nonpos (Int.sub_nonpos_of_le (YC.mp h))];rfl
theorem pA(a b:Int):Builtin.Range.rangeSize a b (-1)=((a-b).toNat:Int):=by
 unfold Builtin.Range.rangeSize;rw[Yg (by decide)];by_cases h:a>b
 ·rw[Yh h,show(-(-1):Int)=1 from rfl,Int.ediv_one,Int.sub_add_cancel];exact(Int.toNat_of_nonneg (Int.sub_nonneg_of_le (Int.le_of_lt h))).symm
 ·rw[Yg h,Int.toNat_of_nonpos (Int.sub_nonpos_of_le (YC.mp h))];rfl
theorem Bk{a b:Int}(ha:z8 a=true)(hb:z8 b=true):Builtin.Range.small a b 1=true:=
 small_one (Yj (by decide) (hH ha).1) (Int.lt_of_le_of_lt (hH ha).2 (by decide)) (Yj (by decide) (hH hb).1) (Int.lt_of_le_of_lt (hH hb).2 (by decide))
theorem ww{x:Int}(h1: -2000000000000≤x)(h2:x≤2000000000000):Builtin.Range.rangeFitsLong x=true:=by unfold Builtin.Range.rangeFitsLong;rw[Yc (Yj (by decide) h1),Yc (Int.lt_of_le_of_lt h2 (by decide))];rfl
theorem vL{a b:Int}(ha:z8 a=true)(hb:z8 b=true):Builtin.Range.small a b (-1)=true:=by
 unfold Builtin.Range.small;have f:∀{x:Int},z8 x=true->Builtin.Range.rangeFitsLong x=true:=fun h=>ww (Yj (by decide) (hH h).1) (Yj (hH h).2 (by decide))
 rw[pA,f ha,f hb,ww (by decide) (by decide),ww (x:=((a-b).toNat:Int)) (Yj (by decide) (Zd _)) (Int.ofNat_toNat (a-b)▸Int.max_le.mpr ⟨Int.sub_le_sub (hH ha).2 (hH hb).1,by decide⟩)];simp only[Bool.true_and,show ¬((-1:Int)>0) by decide,if_false];rw[show b+(-1+1)=b from Int.add_zero b,f hb,Bool.or_true]
theorem yP{tgt:Expr}{a b c:Int}{r:Addr}{t u w:Tok}{l:List PV}(hh:A.handled=none)(R:aG T G s st)(hr:IsRange s.heap r a b c t u w)(hrg:cR a b c=some l):W T A (pyIter (.ref r)) (t8 T A tgt G s st l) s:=by
 obtain⟨m,hsm,hsz,rfl⟩:∃m:Nat,Builtin.Range.small a b c=true∧Builtin.Range.rangeSize a b c=(m:Int)∧l=(List.range m).map fun(k:Nat)=>PV.int (a+(k:Int)*c):=by
  obtain⟨Ă,h⟩:=kj (aL.of hrg);clear hrg;let' Ă:=az (Bool.not_eq_false _▸Ă);by_cases hc:c=1
  ·rw[Yh hc] at h;subst hc;let' h2:List.map _ _=l:=(aF h).2;exact⟨_,Bk Ă.1 Ă.2,Fi a b,h2.symm.trans (YH (List.map · _) (funext fun k=>by rw[Int.mul_one]))⟩
  ·rw[Yg hc] at h;obtain⟨hc,h'⟩:=aF h;clear h;subst hc;exact⟨_,vL Ă.1 Ă.2,pA a b,((aF h').2:List.map _ _=l).symm.trans (YH (List.map · _) (funext fun k=>by rw[Int.mul_neg,Int.mul_one];rfl))⟩
 refine PySem.wpAny_pyIter_range hr hsm ?_;rw[hsz];let' Wk:=Walks.range (prog:=T.prog) (w:=T.w) hh s.heap.objs.size a c m;let' e:((List.range m).map fun(k:Nat)=>PV.int (a+(k:Int)*c)).length=m:=(by rw[Xm,List.length_range])
 rw[<-e] at Wk;refine iN (tk:=s.toks) R (bt _ _) (br (aV _) ff) Wk ?_ (fun i h st=>br ⟨_,st⟩ ff) (fun b hb=>.inl hb) (fun i h st=>⟨_,_,st,rfl,by decide⟩) fun i p v e1 ⟨t',e2⟩=>?_
 ·rw[e];have:=XF s.heap (o:={cls:=.type "range_iterator",data:=.fields #[rawInt a,rawInt (m:Int),rawInt c]}) rfl;refine(?_:IsRangeIter _ _ (a+((0:Nat):Int)*c) ((m:Int)-((0:Nat):Int)) c);rw[show a+((0:Nat):Int)*c=a by simp,show(m:Int)-((0:Nat):Int)=m by simp];exact this
 ·subst e2;rw[List.getElem?_map] at e1;obtain⟨k,hk,rfl⟩:=XN.mp e1;obtain⟨hl,hk⟩:=XO.mp hk;rw[List.getElem_range] at hk;subst hk;exact cM _ _ _
theorem qq(l:List PV):∀k,(fN k l).length=l.length:=by induction l with|nil=>intro k;rfl|cons p l ih=>intro k;exact YH (·+1) (ih (k+1))
theorem p6:∀{l:List PV}{k i:Nat}{p:PV},(fN k l)[i]?=some p->∃q,l[i]?=some q∧p=.tup [.int ((k+i:Nat):Int),q]
|q::l,k,0,p,h=>by injection h with h;exact⟨q,rfl,h.symm⟩
|q::l,k,i+1,p,h=>by obtain⟨q',h1,h2⟩:=p6 (k:=k+1) h;exact⟨q',h1,by rw[h2,XD,XS]⟩
theorem AE{es:List Expr}{c:Nat}{pos:Pos}{l:List PV}{a:Addr}(hh:A.handled=none)(R:aG T G s st)(x:cV s.heap bD l.length (Vs T G s.heap l) a∨cV s.heap cT l.length (Vs T G s.heap l) a)(hf:G.own a=.fz∨G.lk a):
  W T A (call (.type "enumerate") [.ref a]) (fun x s1=>W T A (pyIter x) (t8 T A (.Tuple es c pos) G s st (fN 0 l)) s1) s:=by
 let' wr:∀b∈[s.heap.objs.size+1,s.heap.objs.size],s.heap.get? b=none:=br (jk 1) (br (jk 0) ff);have val:∀{items:Array Value},Vs T G s.heap l items.toList->∀(i:Nat) p (vals:Array Value),(fN 0 l)[i]?=some p->(Exists fun t=>Exists fun x=>items[i]?=some x∧vals=#[.int i t,x])->∃l,p=.tup l∧Vs T G s.heap l vals.toList:=fun hx i p vals e1 ⟨t,x,h2,e⟩=>by subst e;obtain⟨q,h1,rfl⟩:=p6 e1;rw[Xz];exact⟨_,rfl,bA (cM _ _ _) (bA (kP hx h1 h2) iC)⟩
 rcases x with⟨items,m,hl,_,hx⟩|⟨items,m,hl,_,hx⟩
 ·let' ł:∀b∈[s.heap.objs.size+1,s.heap.objs.size,a],b∈[s.heap.objs.size+1,s.heap.objs.size]∨G.own b=.fz∨G.lk b:=br (.inl Xy) (br (.inl (XB _ Xy)) (br (.inr hf) ff));refine call_enumerate_list ⟨_,hl,rfl,_,rfl⟩ fun h' he hit z hk=>PySem.wpAny_pyIter_enum he ?_
  let' Wk:=WalksT.enumerate (prog:=T.prog) (w:=T.w) hh (s.heap.objs.size+1) s.heap.objs.size a (Nat.succ_ne_self _) (eO hl (k:=1)) (eO hl (k:=0)) items;rw[hx.size,<-qq l 0] at Wk;exact js (tk:=s.toks) R hk wr Wk ⟨⟨_,he⟩,hit,⟨_,hk _ _ hl,rfl,_,rfl⟩⟩ (fun i h Zg=>by obtain⟨⟨_,s1⟩,s2,⟨o3,s3,_⟩⟩:=Zg;exact br ⟨_,s1⟩ (br (by obtain⟨o,e,_⟩:=v5 s2;exact⟨o,e⟩) (br ⟨o3,s3⟩ ff))) ł fun i p vals e1 e2=>val hx i p vals e1 e2
 ·refine mr hl fun h' he hit hk=>PySem.wpAny_pyIter_enum he ?_
  let' Wk:=WalksT.enumerateD (prog:=T.prog) (w:=T.w) (uM (A:=A.in1) hh s.heap.objs.size a (eO hl (k:=0)) items) (s.heap.objs.size+1) (Nat.succ_ne_self _) (fun hm=>(Xo.mp hm).elim (fun h=>Nat.succ_ne_self _ h) fun h=>eO hl (k:=1) (XU.mp h).symm) Xy;rw[hx.size,<-qq l 0] at Wk;exact js (tk:=s.toks) R hk wr Wk ⟨⟨_,he⟩,hit,⟨_,hk _ _ hl,rfl,_,rfl⟩⟩ (fun i h Zg=>by obtain⟨⟨_,s1⟩,s2,⟨o3,s3,_⟩⟩:=Zg;exact br ⟨_,s1⟩ (br (by obtain⟨o,e,_⟩:=v7 s2;exact⟨o,e⟩) (br ⟨o3,s3⟩ ff))) (br (.inl Xy) (br (.inl (XB _ Xy)) (br (.inr hf) ff)):∀b∈[s.heap.objs.size+1,s.heap.objs.size,a],b∈[s.heap.objs.size+1,s.heap.objs.size]∨G.own b=.fz∨G.lk b) fun i p vals e1 e2=>val hx i p vals e1 e2
theorem tJ:∀(l r:List PV),(oO l r).length=min l.length r.length
|[],r=>(Nat.zero_min _).symm
|a::l,[]=>rfl
|a::l,b::r=>(YH (·+1) (tJ l r)).trans (Nat.succ_min_succ _ _).symm
theorem sW:∀{l r:List PV}{i:Nat}{p:PV},(oO l r)[i]?=some p->∃a b,l[i]?=some a∧r[i]?=some b∧p=.tup [a,b]
|a::l,b::r,0,p,h=>by injection h with h;exact⟨a,b,rfl,rfl,h.symm⟩
|a::l,b::r,i+1,p,h=>sW (r:=r) h
theorem Rz{n a b:Nat}(h:a≠b):((n+a:Nat):Addr)≠(n+b:Nat):=fun e=>h (Nat.add_left_cancel e)
theorem FR{es:List Expr}{c:Nat}{pos:Pos}{l r:List PV}{a b:Addr}(hh:A.handled=none)(R:aG T G s st)(x:cV s.heap bD l.length (Vs T G s.heap l) a)(hf:G.own a=.fz∨G.lk a)
  (x2:cV s.heap bD r.length (Vs T G s.heap r) b) (Ε:G.own b=.fz∨G.lk b):
  W T A (call (.type "zip") [.ref a,.ref b]) (fun x s1=>W T A (pyIter x) (t8 T A (.Tuple es c pos) G s st (oO l r)) s1) s:=by
 obtain⟨xs,m,hl,_,hx⟩:=x;obtain⟨ys,m',ŝ,_,hx2⟩:=x2;refine call_zip_2 ⟨_,hl,rfl,_,rfl⟩ ⟨_,ŝ,rfl,_,rfl⟩ fun h' hz hTI hTO h1 h2 hsz hk=>wpAny_pyIter_zip hz ?_
 have D:ZipApart (s.heap.objs.size+4) (s.heap.objs.size+2) (s.heap.objs.size+3) s.heap.objs.size (s.heap.objs.size+1) a b:=by constructor<;>first|exact Rz (by decide)|exact eO hl|exact eO hl (k:=0)|exact eO ŝ|exact eO ŝ (k:=0)|exact Rz (b:=0) (by decide)|exact Rz (a:=0) (by decide)
 let' Wk:=WalksT.zip2 (prog:=T.prog) (w:=T.w) hh (s.heap.objs.size+4) (s.heap.objs.size+2) (s.heap.objs.size+3) s.heap.objs.size (s.heap.objs.size+1) a b D xs ys;rw[hx.size,hx2.size,<-tJ l r] at Wk;exact js (tk:=s.toks) R hk (br (jk 4) (br (jk 3) (br (jk 0) (br (jk 1) ff)))) Wk ⟨hz,hTI,⟨_,_,hTO⟩,h1,h2,⟨_,hk _ _ hl,rfl,_,rfl⟩,⟨_,hk _ _ ŝ,rfl,_,rfl⟩⟩
  (fun i h Zg=>by obtain⟨s1,s2,⟨_,_,s3⟩,⟨_,s4,_⟩,⟨_,s5,_⟩,⟨_,s6,_⟩,⟨_,s7,_⟩⟩:=Zg;exact br ⟨_,s1⟩ (br ⟨_,s2⟩ (br ⟨_,s3⟩ (br ⟨_,s4⟩ (br ⟨_,s5⟩ (br ⟨_,s6⟩ (br ⟨_,s7⟩ ff)))))))
  (br (.inl Xy) (br (.inr (.inl (R.fresh (jk 2)))) (br (.inl (XB _ Xy)) (br (.inl (XB _ (XB _ Xy))) (br (.inl (XB _ (XB _ (XB _ Xy)))) (br (.inr hf) (br (.inr Ε) ff)))))))
  fun i p vals e1 ⟨x,y,h4,h5,e⟩=>by subst e;obtain⟨u,w,h6,h7,rfl⟩:=sW e1;exact⟨_,rfl,bA (kP hx h6 h4) (bA (kP hx2 h7 h5) iC)⟩
end
def gi:Expr->Prop:=fun t=>∃es c pos,t=.Tuple es c pos
structure Om(X:Sx)(sc:Scope)(F:Fr)(tgt:Expr)(G:Gh)(s:Shared)(r:List PV×Option PV×St)(G1:Gh)(s1:Shared)(G2:Gh)(s2:Shared)(I:Addr)(wr:List Addr):Prop where
 n1:fg X sc F G s G1 s1 r.2.2
 n2:fg X sc F G1 s1 G2 s2 r.2.2
 it:It X.T F.A tgt G2 s2.heap I wr r.1 0
 new:∀b∈wr,s1.heap.get? b=none
 lk:jV G G1 r.2.1
def SI(X:Sx)(sc:Scope)(e:Expr)(tp:Bool)(d:DI):Prop:=
 ∀{F:Fr}{G:Gh}{s:Shared}{st:St}{tgt:Expr}{Q:Value->Shared->Prop},(tp=true->gi tgt)->At X sc F G s st->aL (d X.C F.vars st) (fun r=>∀G1 s1 G2 s2 I wr,Om X sc F tgt G s r G1 s1 G2 s2 I wr->Q (.ref I) s2)->
  wp X F (eval e F.env) (fun x s1=>wp X F (pyIter x) Q s1) s
section
variable{X:Sx}{sc:Scope}{F:Fr}{G G1:Gh}{s s1:Shared}{st Zo:St}{tgt:Expr}
theorem t8.done{items:List PV}{lk:Option PV}{Q:Value->Shared->Prop}(N:fg X sc F G s G1 s1 Zo)(lo:jV G G1 lk){m:Sem Value}(k:∀G1 s1 G2 s2 I wr,Om X sc F tgt G s (items,lk,Zo) G1 s1 G2 s2 I wr->Q (.ref I) s2)(w:W X.T F.A m (t8 X.T F.A tgt G1 s1 Zo items) s1):wp X F m Q s1:=
 w.mono fun v s2 Zg=>by obtain⟨I,wr,G2,e,R2,X2,it,hw⟩:=Zg;exact e▸k G1 s1 G2 s2 I wr ⟨N,N.a.ZV R2 X2,it,hw,lo⟩
theorem t8.mono{items:List PV}{lk:Option PV}{Q:Value->Shared->Prop}(N:fg X sc F G s G1 s1 Zo)(lo:jV G G1 lk){s':Shared}{v:Value}(k:∀G1 s1 G2 s2 I wr,Om X sc F tgt G s (items,lk,Zo) G1 s1 G2 s2 I wr->Q (.ref I) s2)(w:t8 X.T F.A tgt G1 s1 Zo items v s'):Q v s':=
 by obtain⟨I,wr,G2,e,R2,X2,it,hw⟩:=w;exact e▸k G1 s1 G2 s' I wr ⟨N,N.a.ZV R2 X2,it,hw,lo⟩
theorem jV.le{G':Gh}{lk:Option PV}{G2:Gh}(h:jV G' G2 lk)(k:∀a,G.lk a->G'.lk a):jV G G2 lk:=fun p e=>by obtain⟨a,n,r⟩:=h p e;exact⟨a,fun x=>n (k a x),r⟩
theorem kJ{p:PV}{v:Value}{o:Zk}(N:fg X sc F G s G1 s1 Zo)(hv:V X.T G1 s1.heap p v)(ho:gN Zo p=some o)(hi:∀c f,o≠.inst c f):
  ∃G2 a,v=.ref a∧fg X sc F G s G2 s1 (aK Zo p).1∧jV G G2 (aK Zo p).2∧(G2.own a=.fz∨G2.lk a)∧jz G1 s1.heap G2 s1.heap:=by
 obtain⟨G2,a,e,R2,X2,lo,hf⟩:=Gf N.a.R hv ho hi;exact⟨G2,a,e,N.trans (N.a.ZV R2 (X2 _)),lo.le fun b h=>(N.x.lk b h).2,hf,(X2 (fun z z=>False)).lat⟩
theorem gp.seq{T:Tp}{G G':Gh}{h:Heap}{l:List PV}{a:Addr}(x:gp T G h l (.ref a))(L:jz G h G' h):cV h bD l.length (Vs T G' h l) a∨cV h cT l.length (Vs T G' h l) a:=by obtain⟨b,e,x⟩:=x;obtain rfl:=Value.ref.inj e;exact x.imp (cV.lat (fun z e=>e) fun z y=>y.lat L) (cV.lat (fun z e=>e) fun z y=>y.lat L)
theorem Hq{r:PV×St}{v:Value}{Q:Value->Shared->Prop}(N1:fg X sc F G s G1 s1 r.2)(V1:V X.T G1 s1.heap r.1 v)(H:aL ((iB r.2 r.1).bind fun l=>some (l,(aK r.2 r.1).2,(aK r.2 r.1).1)) (fun r=>∀G1 s1 G2 s2 I wr,Om X sc F tgt G s r G1 s1 G2 s2 I wr->Q (.ref I) s2)):wp X F (pyIter v) Q s1:=by
 obtain⟨l,hl,H⟩:=(ab H).get;obtain⟨o,ho,hl⟩:=XC.mp hl;have Đ:=N1.a.R.view V1 ho;cases o with
|lst q=>
  obtain rfl:=Xn hl;obtain⟨G2,b,rfl,N2,lo,hf,L⟩:=kJ N1 V1 ho nofun;rcases Đ.seq L with x|x
  ·exact t8.done N2 lo H (Bu N1.a.rm.1 N2.a.R x hf)
  ·exact t8.done N2 lo H (yb N1.a.rm.1 N2.a.R x hf)
|dct q=>obtain rfl:=Xn hl;obtain⟨G2,b,rfl,N2,lo,hf,L⟩:=kJ N1 V1 ho nofun;obtain⟨b',e,x⟩:=Đ;obtain rfl:=Value.ref.inj e;exact t8.done N2 lo H (Ae N1.a.rm.1 N2.a.R (x.lat (fun z e=>e) fun z y=>y.lat L) hf)
|_=>injection hl
theorem NH{e:Expr}{ie:DE}(S:SE X sc e ie):SI X sc e false (iE ie):=fun z a H=>S.then (.refl a) H fun r G1 v s1 N1 z V1 H=>Hq N1 V1 H
theorem x6(O:Ok X){x:Str}{np pos:Pos}{es:List Expr}{Y7:List DE}(hx:sc.names.lookup x=some .globalImplicit)(hn:bj x=true)(hg:X.T.mg x=none)(hm:X.T.mb x=some (.type "range"))(S:gw X sc es Y7):
  SI X sc (.Call (.Name x np) es [] pos) false (Ds Y7):=fun{F G s st tgt Q} y a H=>by
 refine rv O (.inr ⟨_,rfl⟩) hx hn hg hm S a H fun r G1 vs s1 N1 V1 H=>?_
 obtain⟨l,hl,H⟩:=(ab H).get;have fin:∀{a b c:Int}{t u w:Tok}{tk:Nat},cR a b c=some l->W X.T F.A (pyIter (.ref s1.heap.objs.size)) Q {s1 with heap:=s1.heap.push {cls:=.type "range",data:=.fields #[.int a t,.int b u,.int c w]},toks:=tk}:=fun{a b c t u w tk} hr=>
  have N2:=N1.trans (N1.a.grow tk (bt s1.heap {cls:=.type "range",data:=.fields #[.int a t,.int b u,.int c w]}))
  t8.done N2 (jV.none _ _) H (yP N2.a.rm.1 N2.a.R (IsRange.new ..) hr)
 obtain⟨ps,Zu⟩:=r;cases ps with
|nil=>injection hl
|cons a ps=>
  obtain⟨v,_,rfl,ha,V1⟩:=V1;cases ps with
  |nil=>obtain rfl:=V1;obtain⟨i,t,rfl,hl⟩:=bG ha (ab (aL.of hl));exact call_range_1 (fin (by obtain⟨x,e,rfl⟩:=hl.get;exact e))
  |cons b ps=>
   obtain⟨w,_,rfl,hb,V1⟩:=V1;cases ps with
   |nil=>obtain rfl:=V1;obtain⟨i,t,rfl,hl⟩:=bG ha (ab (aL.of hl));obtain⟨j,t',rfl,hl⟩:=bG hb (ab hl);exact call_range_2 (fin (by obtain⟨x,e,rfl⟩:=hl.get;exact e))
   |cons c ps=>
    obtain⟨z,_,rfl,hc,V1⟩:=V1;cases ps with
    |nil=>
     obtain rfl:=V1;obtain⟨i,t,rfl,hl⟩:=bG ha (ab (aL.of hl));obtain⟨j,t',rfl,hl⟩:=bG hb (ab hl);obtain⟨k,t'',rfl,hl⟩:=bG hc (ab hl);obtain⟨q,e,rfl⟩:=hl.get;have hk:k=1∨k= -1:=by
      obtain⟨_,h⟩:=kj (aL.of e);by_cases h1:k=1
      ·exact .inl h1
      ·rw[Yg h1] at h;exact .inr (aF h).1
     refine call_range_3 (by rcases hk with rfl|rfl<;>decide) (fin e) (.inl ?_);rcases hk with rfl|rfl<;>exact PyProof.noPylong_of_log2 (by decide+kernel)
    |cons _ _=>injection hl
theorem J7{C:Zn}{vs:YA}{ie:DE}{β:Type}{f:PV×St->Option β}{K:β->Prop}(H:aL ((ie C vs st).bind f) K):aL ((pg [ie] C vs st).bind fun y=>iT (fun p=>f (p,y.2)) y.1) K:=by
 refine(?_:aL (((ie C vs st).bind fun x=>some ([x.1],x.2)).bind _) K);cases h:ie C vs st with
|none=>rw[h] at H;exact H.elim
|some x=>rw[h] at H;exact H
theorem LH{C:Zn}{vs:YA}{ie je:DE}{β:Type}{f:PV->PV×St->Option β}{K:β->Prop}(H:aL ((ie C vs st).bind fun x=>(je C vs x.2).bind fun y=>f x.1 y) K):aL ((pg [ie,je] C vs st).bind fun y=>vh (fun p q=>f p (q,y.2)) y.1) K:=by
 refine(?_:aL (((ie C vs st).bind fun x=>((je C vs x.2).bind fun y=>some ([y.1],y.2)).bind fun y=>some (x.1::y.1,y.2)).bind _) K);cases h:ie C vs st with
|none=>rw[h] at H;exact H.elim
|some x=>
  rw[h] at H;have H:aL ((je C vs x.2).bind fun y=>f x.1 y) K:=H;refine(?_:aL ((((je C vs x.2).bind fun y=>some ([y.1],y.2)).bind fun y=>some (x.1::y.1,y.2)).bind _) K);cases h:je C vs x.2 with
  |none=>rw[h] at H;exact H.elim
  |some y=>rw[h] at H;exact H
theorem zL(O:Ok X){x:Str}{np pos:Pos}{e:Expr}{ie:DE}(hx:sc.names.lookup x=some .globalImplicit)(hn:bj x=true)(hg:X.T.mg x=none)(hm:X.T.mb x=some (.type "enumerate"))(S:gw X sc [e] [ie]):
  SI X sc (.Call (.Name x np) [e] [] pos) true (HR ie):=fun{F G s st tgt Q} Ζ a H=>by
 obtain⟨ZH,tc,Η,rfl⟩:=Ζ rfl;refine rv O (.inr ⟨_,rfl⟩) hx hn hg hm S a (J7 H) fun r G1 vs s1 N1 V1 H=>?_
 obtain⟨p,v,rfl,V2,H⟩:=cF V1 H;obtain⟨l,hl,H⟩:=(ab H).get;let' ho:=eH hl;obtain⟨G2,b,rfl,N2,lo,hf,L⟩:=kJ N1 V2 ho nofun;exact(AE a.rm.1 N2.a.R ((N1.a.R.view V2 ho:gp X.T G1 s1.heap l (.ref b)).seq L) hf).mono fun x s2 w=>w.mono fun y s3 z=>z.mono N2 lo H
theorem vG{p:PV}{l:List PV}(h:gz st p=some l):gN st p=some (.lst l):=by
 have key:∀{x:Option Ent},(x.map (fun e=>dR e.o)).bind (fun o=>match o with|.lst l=>some l|_=>.none)=some l->x.map (·.o)=some (.lst l):=fun{x} h=>by
  cases x with
  |none=>injection h
  |some e=>
   obtain⟨o,k⟩:=e;cases o with
   |lst q=>injection h with h;exact YH (fun q=>some (Zk.lst q)) h
   |_=>injection h
 cases p with
|lst q=>injection h with h;exact YH (fun q=>some (Zk.lst q)) h
|loc i=>exact key h
|glob i=>exact key h
|_=>injection h
theorem FF(O:Ok X){x:Str}{np pos:Pos}{e f:Expr}{ie jf:DE}(hx:sc.names.lookup x=some .globalImplicit)(hn:bj x=true)(hg:X.T.mg x=none)(hm:X.T.mb x=some (.type "zip"))(S:gw X sc [e,f] [ie,jf]):
  SI X sc (.Call (.Name x np) [e,f] [] pos) true (P6 ie jf):=fun{F G s st tgt Q} Ζ a H=>by
 obtain⟨ZH,tc,Η,rfl⟩:=Ζ rfl;refine rv O (.inr ⟨_,rfl⟩) hx hn hg hm S a (LH (f:=fun p y=>(gz y.2 p).bind fun l=>(ou y.1).bind fun r=>some (oO l r,(aK y.2 p).2,(aK y.2 p).1)) H) fun r G1 vs s1 N1 V1 H=>?_
 obtain⟨p,q,v,w,rfl,U1,U2,H⟩:=qC V1 H;obtain⟨l,hl,H⟩:=(ab H).get;obtain⟨r,hr,H⟩:=(ab H).get;obtain⟨b',e,x1⟩:lX X.T G1 s1.heap l v:=by obtain⟨l',h1,h2⟩:=ly N1.a.R U1 (aL.of hl);exact h2▸h1
 obtain⟨G2,b,rfl,N2,lo,hf,L⟩:=kJ N1 U1 (vG hl) nofun;obtain rfl:=Value.ref.inj e;cases q with
|lst r'=>obtain rfl:=Xn hr;obtain⟨b2,rfl,Ε,x2⟩:=U2.lat L;exact(FR a.rm.1 N2.a.R (x1.lat (fun u e=>e) fun u y=>y.lat L) hf x2 (.inl Ε)).mono fun x s2 w=>w.mono fun y s3 z=>z.mono N2 lo H
|_=>injection hr
end
def Xf(lev:Nat):Nat->b5->Prop:=fun m k=>m=lev∧(k=.L∨∃x,k=.cell x)
noncomputable abbrev Fr.w(F:Fr)(vars:YA):Fr:={F with vars:=vars}
section
variable{X:Sx}{sc:Scope}{F:Fr}{G G1:Gh}{s s1:Shared}{st Zo:St}
theorem aG.ń{T:Tp}(R:aG T G s st){a:Addr}{m:Nat}{k:b5}(ha:G.own a=.fr m k)(hk:k=.L∨∃x,k=.cell x){h':Heap}(tk:Nat)(kk:∀b,b≠a->h'.get? b=s.heap.get? b)(hm:∃o,h'.get? a=some o):
  aG T G {s with heap:=h',toks:=tk} st∧cB (Xf m) G s G {s with heap:=h',toks:=tk}:=
 R.Å (own':=G.own) tk (· =a) (fun z z=>rfl) (fun b o d e=>(kk b d).trans e) (fun b d=>.inr ⟨m,k,d▸ha,by rcases hk with rfl|⟨x,rfl⟩<;>rfl,by rcases hk with rfl|⟨x,rfl⟩<;>nofun⟩) (fun b d z=>⟨d▸hm,fun n k e=>R.lev b n k e⟩) fun b n k' e d=>by have:=ha.symm.trans (d▸e);injection this with e1 e2;exact⟨e1.symm,e2▸hk⟩
theorem kq(a:At X sc F G s st)(O:dY G F.env F.lev sc){x:Str}{k:Nat}(hx:sc.names.lookup x=some .local∨sc.names.lookup x=some .cell)(hk:enc x=some k){p:PV}{v:Value}(hv:V X.T G s.heap p v):
  wp X F (storeName F.env x v) (fun z s'=>At X sc (F.w (dK F.vars k p)) G s' st∧cB (Xf F.lev) G s G s') s:=by
 obtain⟨hd,Ē⟩:=bz hk;subst hd;have names:∀y q,aQ (dK F.vars k p) y=some q->(y=k∧p=q)∨(dec y≠dec k∧aQ F.vars y=some q):=fun y q h=>by
  rw[eu] at h;by_cases e:y=k
  ·rw[Yh e] at h;exact .inl ⟨e,Xn h⟩
  ·rw[Yg e] at h;exact .inr ⟨fun e'=>e (jQ (a.E.nam y q h) Ē e'),h⟩
 have Ņ:∀y q,aQ (dK F.vars k p) y=some q->enc (dec y)=some y:=fun y q h=>(names y q h).elim (fun h=>h.1▸Ē) fun h=>a.E.nam y q h.2
 obtain⟨m,h1,h2,h3⟩:=a.E.loc;have ne:∀{c n m k},G.own c=.fr m k->G.own n=.fr F.lev .L->k≠.L->c≠n:=fun e1 e2 e3 h=>e3 (by have:=e1.symm.trans (h▸e2);injection this)
 rcases hx with e|e
 ·have ZW:=(b6 a.ZK (by rw[e];nofun)).trans e;refine wpAny_storeName_local ZW h1 (fun h' hn Ã=>?_) (by rw[a.E.kind];rfl);obtain⟨o,es,ep,ho,_⟩:=id hn;obtain⟨R',X'⟩:=a.R.ń h2 (.inl rfl) (s.toks+1) Ã.2 ⟨o,ho⟩;refine⟨⟨R',⟨a.E.kind,a.E.gl,a.E.bu,⟨_,hn,h2,fun y q h4 h5=>(names y q h4).elim (fun h=>⟨v,Yh (YH dec h.1),h.2▸hv.lat X'.lat⟩) fun h=>by obtain⟨w,h6,h7⟩:=h3 y q h.2 h5;exact⟨w,(Yg h.1).trans h6,h7.lat X'.lat⟩⟩,
   fun y q h4 h5=>(names y q h4).elim (fun h=>by rw[h.1] at h5;rcases h5 with h5|h5<;>cases ZW.symm.trans h5) fun h=>?_,fun nm c h4=>?_,a.E.free,Ņ⟩,a.rm,a.lv,a.ZK⟩,X'⟩
  ·obtain⟨c,w,a1,a2,a3⟩:=a.E.cell y q h.2 h5;obtain⟨_,l,_,e'⟩:=a.E.cells _ _ a1;exact⟨c,w,a1,ey a2 (Ã.2 c (ne e' h2 (fun h=>by injection h))),a3.lat X'.lat⟩
  ·obtain⟨⟨w,a1⟩,l,hl,e'⟩:=a.E.cells nm c h4;exact⟨⟨w,ey a1 (Ã.2 c (ne e' h2 (fun h=>by injection h)))⟩,l,hl,e'⟩
 ·have ZW:=(b6 a.ZK (by rw[e];nofun)).trans e;obtain⟨c,g1,g2⟩:=O _ e;obtain⟨⟨v₀,hc⟩,_⟩:=a.E.cells _ _ g1;refine wpAny_storeName_cell a.E.kind ZW g1 hc fun h' hn Ã=>?_
  obtain⟨o,ho,_⟩:=id hn;obtain⟨R',X'⟩:=a.R.ń g2 (.inr ⟨_,rfl⟩) s.toks Ã.2 ⟨o,ho⟩;refine⟨⟨R',⟨a.E.kind,a.E.gl,a.E.bu,⟨m,BD h1 (Ã.2 _ fun h=>ne g2 h2 (fun h=>by injection h) h.symm),h2,fun y q h4 h5=>(names y q h4).elim (fun h=>by rw[h.1] at h5;cases ZW.symm.trans h5) fun h=>by obtain⟨w,h6,h7⟩:=h3 y q h.2 h5;exact⟨w,h6,h7.lat X'.lat⟩⟩,
   fun y q h4 h5=>(names y q h4).elim (fun h=>⟨c,v,(YH (F.env.cells.lookup<|dec ·) h.1).trans g1,hn,h.2▸hv.lat X'.lat⟩) fun h=>?_,fun nm c' h4=>?_,a.E.free,Ņ⟩,a.rm,a.lv,a.ZK⟩,X'⟩
  ·obtain⟨c',w,a1,a2,a3⟩:=a.E.cell y q h.2 h5;refine⟨c',w,a1,ey a2 (Ã.2 c' fun e'=>h.1 ?_),a3.lat X'.lat⟩;obtain⟨_,l,_,q1⟩:=a.E.cells _ _ a1;have:=q1.symm.trans (e'▸g2);injection this with _ this;injection this
  ·obtain⟨⟨w,a1⟩,l,hl,e'⟩:=a.E.cells nm c' h4;by_cases Ş:c'=c
   ·exact⟨⟨_,Ş▸hn⟩,l,hl,e'⟩
   ·exact⟨⟨w,ey a1 (Ã.2 c' Ş)⟩,l,hl,e'⟩
class inductive lj(sc:Scope):List Expr->List DP->List Nat->Prop
|nil:lj sc [] [] []
|name {x:Str}{pos:Pos}{k:Nat} {ts ps ns}:(sc.names.lookup x=some .local∨sc.names.lookup x=some .cell)->enc x=some k->lj sc ts ps ns->lj sc (.Name x pos::ts) (pV k::ps) (k::ns)
|tup {es:List Expr}{qs:List DP}{c:Nat}{pos:Pos} {ts ps ms ns}:lj sc es qs ms->lj sc ts ps ns->lj sc (.Tuple es c pos::ts) (pT qs::ps) (ms++ns)
def sZ(v w:YA):Prop:=∀y q,aQ v y=some q->∃p,aQ w y=some p
theorem sZ.refl(v:YA):sZ v v:=fun y q h=>⟨q,h⟩
theorem sZ.trans{u v w:YA}(a:sZ u v)(b:sZ v w):sZ u w:=fun y q h=>by obtain⟨p,e⟩:=a y q h;exact b y p e
theorem sZ.set(v:YA)(k:Nat)(p:PV):sZ v (dK v k p):=fun y q h=>by
 rw[eu];by_cases e:y=k
 ·exact(Yh e)▸⟨p,rfl⟩
 ·exact(Yg e)▸⟨q,h⟩
structure Q6(X:Sx)(sc:Scope)(F:Fr)(G:Gh)(s:Shared)(st:St)(ns:List Nat)(w:YA)(s':Shared):Prop where
 a:At X sc (F.w w) G s' st
 x:cB (Xf F.lev) G s G s'
 ê:sZ F.vars w
 old:∀y,y∉ns->aQ w y=aQ F.vars y
def PB(X:Sx)(sc:Scope)(F:Fr)(G:Gh)(s:Shared)(st:St)(ns:List Nat)(K:YA->Prop):Unit->Shared->Prop:=fun z s'=>∃w,K w∧Q6 X sc F G s st ns w s'
theorem rl{ps:List DP}{l:List PV}{vars:YA}{K:YA->Prop}(H:aL (mf ps l vars) K):ps.length=l.length:=by
 induction ps generalizing l vars with
|nil=>cases l with|nil=>rfl|cons _ _=>exact H.elim
|cons p ps ih=>
  cases l with
  |nil=>exact H.elim
  |cons v l=>obtain⟨w,_,H⟩:=(ab H).get;exact YH (·+1) (ih H)
theorem lj.each{ts:List Expr}{ps:List DP}{ns:List Nat}(b:lj sc ts ps ns)(env:Env):(assignEach ts env).length=ps.length∧(assignEach ts env).findIdx? (·.1)=none∧(assignEach ts env).map (·.2)=ts.map fun t=>assign t env:=by
 induction b with
|nil=>exact⟨rfl,rfl,rfl⟩
| @name x pos k ts ps _ _ _ _ ih=>obtain⟨h1,h2,h3⟩:=ih;refine(?_:((false,assign (.Name x pos) env)::assignEach ts env).length=_∧((false,assign (.Name x pos) env)::assignEach ts env).findIdx? (·.1)=none∧((false,assign (.Name x pos) env)::assignEach ts env).map (·.2)=_);exact⟨YH (·+1) h1,by rw[List.findIdx?_cons,h2];rfl,YH (_:: ·) h3⟩
| @tup es qs c pos ts ps _ _ _ _ _ ih=>obtain⟨h1,h2,h3⟩:=ih;refine(?_:((false,assign (.Tuple es c pos) env)::assignEach ts env).length=_∧((false,assign (.Tuple es c pos) env)::assignEach ts env).findIdx? (·.1)=none∧((false,assign (.Tuple es c pos) env)::assignEach ts env).map (·.2)=_);exact⟨YH (·+1) h1,by rw[List.findIdx?_cons,h2];rfl,YH (_:: ·) h3⟩
theorem VU.tup{T:Tp}{tgt:Expr}{q:PV}{v:Value}{K:List PV->Prop}(x:VU T tgt G s.heap q v)(H:aL (gU q) K):∃l a vals,K l∧v=.ref a∧s.heap.IsTuple a vals∧Vs T G s.heap l vals.toList:=by
 cases q with
|tup l=>
  rcases x with⟨a,rfl,_,items,m,e,_,y⟩|⟨_,l',a,vals,e,h1,h2,h3⟩
  ·exact⟨l,a,items,H,rfl,⟨_,e,rfl,_,rfl⟩,y⟩
  ·injection e with e;subst e;exact⟨l,a,vals,H,h1,h2,h3⟩
|_=>exact H.elim
theorem Cz{ts:List Expr}{ps:List DP}{ns:List Nat}(b:lj sc ts ps ns):
  (∀{F:Fr}{G:Gh}{s:Shared}{st:St}{l:List PV}{vs:List Value}{K:YA->Prop},At X sc F G s st->dY G F.env F.lev sc->aL (mf ps l F.vars) K->Vs X.T G s.heap l vs->wp X F (assignInOrder (ts.map fun t=>assign t F.env) vs) (PB X sc F G s st ns K) s)∧
  ∀{t p},ts=[t]->ps=[p]->∀{F:Fr}{G:Gh}{s:Shared}{st:St}{q:PV}{v:Value}{K:YA->Prop},At X sc F G s st->dY G F.env F.lev sc->aL (p q F.vars) K->VU X.T t G s.heap q v->wp X F (assign t F.env v) (PB X sc F G s st ns K) s:=by
 have seq:∀{t p ts ps ms ns},(∀{F:Fr}{G:Gh}{s:Shared}{st:St}{q:PV}{v:Value}{K:YA->Prop},At X sc F G s st->dY G F.env F.lev sc->aL (p q F.vars) K->VU X.T t G s.heap q v->wp X F (assign t F.env v) (PB X sc F G s st ms K) s)->
   (∀{F:Fr}{G:Gh}{s:Shared}{st:St}{l:List PV}{vs:List Value}{K:YA->Prop},At X sc F G s st->dY G F.env F.lev sc->aL (mf ps l F.vars) K->Vs X.T G s.heap l vs->wp X F (assignInOrder (ts.map fun t=>assign t F.env) vs) (PB X sc F G s st ns K) s)->
   ∀{F:Fr}{G:Gh}{s:Shared}{st:St}{l:List PV}{vs:List Value}{K:YA->Prop},At X sc F G s st->dY G F.env F.lev sc->aL (mf (p::ps) l F.vars) K->Vs X.T G s.heap l vs->wp X F (assignInOrder ((t::ts).map fun t=>assign t F.env) vs) (PB X sc F G s st (ms++ns) K) s:=by
  intro t p ts ps ms ns h1 h2 F G s st l vs K a O H hv;cases l with
  |nil=>exact H.elim
  |cons q l=>obtain⟨v,r,rfl,v1,v2⟩:=hv;refine X9 (YD ((h1 a O (ab H) (.inl v1)).mono fun z s1 q0=>?_));obtain⟨w,H,b1⟩:=q0;exact(h2 b1.a O H (v2.lat b1.x.lat)).mono fun z s2 ⟨w2,k,b2⟩=>⟨w2,k,b2.a,b1.x.trans b2.x,b1.ê.trans b2.ê,fun y hy=>(b2.old y fun h=>hy (YF _ h)).trans (b1.old y fun h=>hy (List.mem_append_left _ h))⟩
 have one:∀{x:Str}{pos:Pos}{k:Nat},(sc.names.lookup x=some .local∨sc.names.lookup x=some .cell)->enc x=some k->∀{F:Fr}{G:Gh}{s:Shared}{st:St}{q:PV}{v:Value}{K:YA->Prop},At X sc F G s st->dY G F.env F.lev sc->aL (pV k q F.vars) K->VU X.T (.Name x pos) G s.heap q v->wp X F (assign (.Name x pos) F.env v) (PB X sc F G s st [k] K) s:=by intro x pos k hx hk F G s st q v K a O H hv;exact PySem.wpAny_assign_Name ((kq a O hx hk (hv.elim id fun Zg=>by obtain⟨⟨_,_,_,e⟩,_⟩:=Zg;exact nomatch e)).mono fun z s1 h=>⟨_,H,h.1,h.2,sZ.set _ _ _,fun y hy=>by rw[eu,Yg fun e=>hy (XU.mpr e)]⟩)
 induction b with
|nil=>
  refine⟨?_,fun h=>nomatch h⟩;intro F G s st l vs K a O H hv;cases l with
  |nil=>exact Yb ⟨_,H,a,Ex.refl _ _ _ _,.refl _,fun z z=>rfl⟩
  |cons _ _=>exact H.elim
|name hx hk b2 ih=>
  refine⟨fun a O H hv=>seq (ms:=[_]) (one hx hk) ih.1 a O H hv,fun h1 h2=>?_⟩;injection h1 with h1 h3;subst h1 h3
  injection h2 with h2 h3;subst h2 h3
  cases b2;exact one hx hk
| @tup es qs c pos ts ps ms ns b1 b2 ih1 ih2=>
  have this:∀{F:Fr}{G:Gh}{s:Shared}{st:St}{q:PV}{v:Value}{K:YA->Prop},At X sc F G s st->dY G F.env F.lev sc->aL (pT qs q F.vars) K->VU X.T (.Tuple es c pos) G s.heap q v->wp X F (assign (.Tuple es c pos) F.env v) (PB X sc F G s st ms K) s:=by
   intro F G s st q v K a O H hv;obtain⟨l,b,vals,H,rfl,ht,hV⟩:=hv.tup (ab H);obtain⟨e1,e2,e3⟩:=b1.each F.env;refine PySem.wpAny_assign_Tuple a.rm.1 ht (by rw[e1,rl H,hV.size]) e2 fun h' he=>?_
   rw[e3];let' k:gn s.heap h':=(fun b o hb=>he b o (Nat.ne_of_lt (Heap.lt_size hb)) hb)
   let' N:=a.grow s.toks k;exact(ih1.1 N.a O H (hV.lat (Lt.grow _ G k))).mono fun z s2 Zg=>by obtain⟨w,k',b2⟩:=Zg;exact⟨w,k',b2.a,(cB.grow _ a.R s.toks k).trans b2.x,b2.ê,b2.old⟩
  refine⟨fun a O H hv=>seq this ih2.1 a O H hv,fun h1 h2=>?_⟩;injection h1 with h1 h3;subst h1 h3
  injection h2 with h2 h3;subst h2 h3
  cases b2;rw[Xu];exact this
theorem mJ{t:Expr}{p:DP}{ns:List Nat}(b:lj sc [t] [p] ns)(a:At X sc F G s st)(O:dY G F.env F.lev sc){q:PV}{v:Value}{K:YA->Prop}(H:aL (p q F.vars) K)(hv:VU X.T t G s.heap q v):wp X F (assign t F.env v) (PB X sc F G s st ns K) s:=
 (Cz b).2 rfl rfl a O H hv
end
def XL(n lev:Nat)(ws:List Addr):Nat->b5->Prop:=fun m k=>Xs n lev m k∨(m=n∧∃b∈ws,k=.it b)
theorem CI{n lev:Nat}{ws vs:List Addr}(h:∀b∈vs,b∈ws):∀m k,Xw n vs m k->XL n lev ws m k:=fun z z x=>x.elim (fun h=>.inl (.inl h)) fun Zg=>by obtain⟨e,b,hb,e'⟩:=Zg;exact .inr ⟨e,b,h b hb,e'⟩
theorem EL{n lev:Nat}{ws vs:List Addr}(h:∀b∈vs,b∈ws):∀m k,XL n lev vs m k->XL n lev ws m k:=fun z z x=>x.imp id fun Zg=>by obtain⟨e,b,hb,e'⟩:=Zg;exact⟨e,b,h b hb,e'⟩
theorem mS{n lev:Nat}{wr:List Addr}:L7 (Xw n wr) lev:=fun m y h=>⟨fun x=>x.elim (pH (n:=n) m y h).1 fun Zg=>by obtain⟨_,b,_,e⟩:=Zg;exact(by injection e),fun x=>x.elim (pH (n:=n) m y h).2 fun Z6=>by obtain⟨_,b,_,e⟩:=Z6;exact(by injection e)⟩
theorem Ar{b c:Addr}(h:b5.it b=b5.it c):b=c:=by injection h
theorem IG{n m:Nat}{wr:List Addr}{b:Addr}(h:b∉wr):¬Xw n wr m (.it b):=fun x=>x.elim nB fun Zg=>by obtain⟨_,c,hc,e⟩:=Zg;exact h (Ar e▸hc)
theorem sb{lev m:Nat}{b:Addr}:¬Xf lev m (.it b):=fun Zg=>by obtain⟨_,h⟩:=Zg;exact h.elim (fun h=>nomatch h) fun Z6=>by obtain⟨x,h⟩:=Z6;exact nomatch h
theorem Pq{n lev m:Nat}{ws:List Addr}{b:Addr}(h:b∉ws):¬XL n lev ws m (.it b):=fun x=>x.elim (fun x=>x.elim (fun Zg=>by obtain⟨_,i,d,e⟩:=Zg;exact nomatch e) fun h=>sb h) fun Z6=>by obtain⟨_,c,hc,e⟩:=Z6;exact h (Ar e▸hc)
def I4(T:Tp)(G:Gh)(h:Heap)(D:Addr)(acc:List PV):Prop:=G.own D=.fr G.n (.it D)∧cV h bD acc.length (Vs T G h acc) D
structure LS(X:Sx)(YT:Scope)(F:Fr)(G:Gh)(s:Shared)(st:St)(D:Addr)(acc:List PV):Prop where
 a:At X YT F G s st
 own:dY G F.env F.lev YT
 acc:I4 X.T G s.heap D acc
section
variable{X:Sx}{sc YT:Scope}{F:Fr}{G G1 G2:Gh}{s s1 s2:Shared}{st Zo Zu:St}{D:Addr}{acc:List PV}{tp:Bool}
theorem I4.ext{T:Tp}(x:I4 T G s.heap D acc){Y:Nat->b5->Prop}(hY:¬Y G.n (.it D))(e:Ex tp Y G s G1 s1):I4 T G1 s1.heap D acc:=
 by obtain⟨p,q⟩:=e.fr D _ _ x.1 hY;exact⟨e.n▸q,x.2.lat (fun z h=>p.trans h) fun z y=>y.lat e.lat⟩
theorem I4.push{T:Tp}{A:Around}(x:I4 T G s.heap D acc)(R:aG T G s st){p:PV}{v:Value}(hz:aq (acc++[p])=true)(hv:V T G s.heap p v):
  W T A (call (.builtin "list.append") [.ref D,v]) (fun z s'=>aG T G s' st∧cB (Xw G.n [D]) G s G s'∧I4 T G s'.heap D (acc++[p])) s:=by
 obtain⟨h0,items,m,h1,h2,h3⟩:=x;refine wpAny_list_append_plain (items:=items) ⟨m,h1⟩ (fun h' hp hs=>?_) (ay (by exact(h3.size)▸h2));obtain⟨m',hp⟩:=hp;obtain⟨R',X'⟩:=R.steps (wr:=[D]) (h':=h') (br h0 ff) s.toks (fun b o hb e=>(hs.2 b fun h=>hb (XU.mpr h)).trans e) (br ⟨_,hp⟩ ff);exact⟨R',X',h0,_,m',hp,bW hz,by rw[YX];exact(h3.lat X'.lat).append (bA (hv.lat X'.lat) iC)⟩
theorem LS.step(h:LS X YT F G s st D acc){Y:Nat->b5->Prop}(R:aG X.T G1 s1 Zo)(x:cB Y G s G1 s1)(hL:L7 Y F.lev)(hD:¬Y G.n (.it D)):LS X YT F G1 s1 Zo D acc:=⟨h.a.Ö hL R x,h.own.Ç hL x,h.acc.ext hD x⟩
theorem LS.ZV(h:LS X YT F G s st D acc)(N:fg X YT F G s G1 s1 Zo):LS X YT F G1 s1 Zo D acc:=⟨N.a,h.own.Ç pH N.x,h.acc.ext nB N.x⟩
theorem LS.weaken{w:YA}(h:LS X YT (F.w w) G s st D acc)(k:∀y q,aQ F.vars y=some q->aQ w y=some q):LS X YT F G s st D acc:=⟨⟨h.a.R,h.a.E.weaken k,h.a.rm,h.a.lv,h.a.ZK⟩,h.own,h.acc⟩
class inductive Ad(X:Sx)(YT:Scope):List Comprehension->List DC->Prop
|nil:Ad X YT [] []
|cons {t it ifs r p ns iit ZH tp icl}:lj YT [t] [p] ns->(tp=true->gi t)->SI X YT it tp iit->(∀env x,foldedSetIterable it env x=pure x)->vm X YT ifs ZH->Ad X YT r icl->Ad X YT (⟨t,it,ifs,0⟩::r) (⟨p,ns,iit,ZH⟩::icl)
theorem J2{ifs:List Expr}{ZH:List DT}(S:vm X YT ifs ZH):∀{F:Fr}{G:Gh}{s:Shared}{st:St}{Q:Bool->Shared->Prop},At X YT F G s st->aL (rx ZH X.C F.vars st) (tF X YT F G s Q)->
  wp X F (forIn ifs true fun c r=>if r=true then do let ok <-isTrue c F.env (eval c F.env);pure (ForInStep.yield ok) else pure (ForInStep.yield r)) Q s:=by
 have nZ:∀(ifs:List Expr) (F:Fr) (s:Shared) (Q:Bool->Shared->Prop),Q false s->wp X F (forIn ifs false fun c r=>if r=true then do let ok <-isTrue c F.env (eval c F.env);pure (ForInStep.yield ok) else pure (ForInStep.yield r)) Q s:=by
  intro ifs;induction ifs with
  |nil=>intro F s Q hq;rw[List.forIn_nil];exact Yb hq
  |cons c r ih=>intro F s Q hq;rw[List.forIn_cons];exact X9 (Yb (ih F s Q hq))
 induction S with
|nil=>intro F G s st Q a H;rw[List.forIn_nil];exact Yb (H _ _ (.refl a))
|cons h1 _ ih=>
  intro F G s st Q a H;rw[List.forIn_cons];refine X9 ?_;rw[Yh rfl];refine X9 (h1.then (.refl a) H fun b Zo G1 s1 N1 H=>Yb ?_);cases b with
  |true=>exact ih N1.a (H.mono fun r h=>h.step N1)
  |false=>exact nZ _ F s1 _ (H _ _ N1)
end
theorem dA{α:Type}{M:Model}{A:Around}{t:Sem α}{Q:α->Shared->Prop}{E:Value->Shared->Prop}{s:Shared}(h:wpAny M A t Q no s):wpAny M A t Q E s:=YE h (fun z z x=>x) fun z z x=>x.elim
section
variable{T:Tp}{YT:Scope}
theorem jN{elt:Expr}{gens:List Comprehension}{pos:Pos}{d:Nat}{I:Addr}{acc:Value}{env:Env}{A:Around}{s:Shared}{R:Result->Shared->Prop}{g:Comprehension}(hg:gens[d]?=some g)(ha:g.is_async=0)
  (h0:codeAny (model T.prog T.w) A (.compLoop (.ListComp elt gens YT pos) d (.ref I) acc env) R s) (hs:∀{Q:Value->Shared->Prop},Q (.ref I) s->wpAny (model T.prog T.w) A (pyIter (.ref I)) Q no s):
  codeAny (model T.prog T.w) A (.compStart (.ListComp elt gens YT pos) d (.ref I) acc env) R s:=by
 refine codeAny_of_tree ?_;show wpAny _ A ((compStart (.ListComp elt gens YT pos) d (.ref I) acc env).onRaise (fun x=>do noteFrame x env;standAt theWindowsPlace)) _ _ s;refine wpAny_onRaise (dA ?_);unfold compStart;let' hc:clausesOf (.ListComp elt gens YT pos)=gens:=rfl;dsimp only;rw[hc,hg,Option.elim,ha];rw[Yg (by decide)];refine X9 (wpAny_askSetting ?_);split
 ·exact X9 (Yb (Yb ⟨rfl,h0⟩))
 ·refine X9 (wpAny_rule ?_);refine X9 (Y8 ?_);exact X9 (hs (Yb ⟨rfl,h0⟩))
theorem me{elt:Expr}{gens:List Comprehension}{pos:Pos}{d:Nat}{I:Addr}{acc:Value}{env:Env}{A:Around}{s:Shared}{R:Result->Shared->Prop}{t Θ:Expr}{ifs:List Expr}(hg:gens[d]?=some ⟨t,Θ,ifs,0⟩)
  (h:wpAny (model T.prog T.w) A (pyNext (.ref I)) (fun r s1=>match r with
   |none=>R (.ok .next) s1
   |some v=>wpAny (model T.prog T.w) A (letOwnedTupleGo t (.ref I) v) (fun z s2=>wpAny (model T.prog T.w) A (assign t env v) (fun z s3=>
     wpAny (model T.prog T.w) A (forIn ifs true fun c r=>if r=true then do let ok <-isTrue c env (eval c env);pure (ForInStep.yield ok) else pure (ForInStep.yield r)) (fun ok s4=>
      if ok=true then
       (match gens[d+1]? with
       |some g'=>wpAny (model T.prog T.w) A (eval g'.iter env) (fun x s5=>wpAny (model T.prog T.w) A (foldedSetIterable g'.iter env x) (fun x s6=>wpAny (model T.prog T.w) A (if(g'.is_async != 0)=true then asyncIter x else pyIter x) (fun ü s7=>
         (g'.is_async != 0)=false∧codeAny (model T.prog T.w) A (.compStart (.ListComp elt gens YT pos) (d+1) ü acc env) (fun r s8=>r=.ok .next∧codeAny (model T.prog T.w) A (.compLoop (.ListComp elt gens YT pos) d (.ref I) acc env) R s8) s7) no s6) no s5) no s4
       |none=>wpAny (model T.prog T.w) A (eval elt env) (fun v s5=>wpAny (model T.prog T.w) A (call (.builtin "list.append") [acc,v]) (fun z s6=>codeAny (model T.prog T.w) A (.compLoop (.ListComp elt gens YT pos) d (.ref I) acc env) R s6) no s5) no s4)
      else codeAny (model T.prog T.w) A (.compLoop (.ListComp elt gens YT pos) d (.ref I) acc env) R s4) no s3) no s2) no s1) no s) (hz:∀g',gens[d+1]?=some g'->g'.is_async=0):
  codeAny (model T.prog T.w) A (.compLoop (.ListComp elt gens YT pos) d (.ref I) acc env) R s:=by
 refine codeAny_of_tree ?_;show wpAny _ A ((compTurn (.ListComp elt gens YT pos) d (.ref I) acc env).onRaise (fun x=>do noteFrame x env;theTreesLotGoes x)) _ _ s;refine wpAny_onRaise (dA ?_);unfold compTurn;dsimp only;rw[hg];refine X9 (Y8 (X9 (YE h (fun r s1 h1=>?_) fun z z x=>x)));cases r with
|none=>exact Yb h1
|some v=>
  refine X9 (YE h1 (fun z s2 h2=>?_) fun z z x=>x);refine X9 (YE h2 (fun z s3 h3=>?_) fun z z x=>x);refine X9 (YE h3 (fun ok s4 h4=>?_) fun z z x=>x);cases ok with
  |false=>exact Yb ⟨rfl,h4⟩
  |true=>
   rw[] at h4 ⊢;cases ļ:gens[d+1]? with
   |none=>rw[ļ] at h4;dsimp only at h4 ⊢;refine X9 (X9 (YE h4 (fun v s5 h5=>?_) fun z z x=>x));exact X9 (YE h5 (fun z s6 h6=>Yb (Yb ⟨rfl,h6⟩)) fun z z x=>x)
   |some g'=>
    rw[ļ] at h4;dsimp only at h4 ⊢;refine X9 (YE h4 (fun x s5 h5=>?_) fun z z x=>x);refine X9 (Y8 ?_);rw[Yg (by rw[(hz g' ļ)];decide)];refine X9 (YE h5 (fun x s6 h6=>?_) fun z z x=>x);refine X9 (YD (YE h6 (fun ü s7 h7=>?_) fun z z x=>x));refine X9 (PySem.wpAny_runOwn ?_);refine codeAny_mono h7.2 fun r s8 h8=>?_
    obtain⟨rfl,h8⟩:=h8;exact Yb ⟨rfl,h8⟩
end
def pn(elt:DE)(c:DC)(cl:List DC)(C:Zn)(vs:YA):PV->List PV->St->Option (List PV×St):=fun x acc s=>(c.p x vs).bind fun vs=>(rx c.ifs C vs s).bind fun b=>if b.1 then lM elt cl C vs acc b.2 else some (acc,b.2)
section
variable{X:Sx}{YT:Scope}{elt:Expr}{ZC:DE}{gens:List Comprehension}{pos:Pos}{D:Addr}
def Pu(X:Sx)(YT:Scope)(elt:Expr)(ZC:DE)(gens:List Comprehension)(pos:Pos)(D:Addr)(d:Nat)(icl:List DC):Prop:=
 ∀{F:Fr}{G:Gh}{s:Shared}{st:St}{acc:List PV}(K:Code) {R:Result->Shared->Prop},LS X YT F G s st D acc->
  aL (lM ZC icl X.C F.vars acc st) (fun r=>∀G' s',LS X YT F G' s' r.2 D r.1->cB (XL G.n F.lev [D]) G s G' s'->codeAny (model X.T.prog X.T.w) F.A K R s')->
  (match gens[d]? with
   |some g'=>wp X F (eval g'.iter F.env) (fun x s5=>wp X F (foldedSetIterable g'.iter F.env x) (fun x s6=>wp X F (if(g'.is_async != 0)=true then asyncIter x else pyIter x) (fun ü s7=>
     (g'.is_async != 0)=false∧codeAny (model X.T.prog X.T.w) F.A (.compStart (.ListComp elt gens YT pos) d ü (.ref D) F.env) (fun r s8=>r=.ok .next∧codeAny (model X.T.prog X.T.w) F.A K R s8) s7) s6) s5) s
   |none=>wp X F (eval elt F.env) (fun v s5=>wp X F (call (.builtin "list.append") [.ref D,v]) (fun z s6=>codeAny (model X.T.prog X.T.w) F.A K R s6) s5) s)
theorem l7{F:Fr}{d:Nat}{t Θ:Expr}{ifs:List Expr}{c:DC}{icl:List DC}(hg:gens[d]?=some ⟨t,Θ,ifs,0⟩)(hz:∀g',gens[d+1]?=some g'->g'.is_async=0)(Bt:lj YT [t] [c.p] c.own)(Si:vm X YT ifs c.ifs)(hf:my c.own F.vars=true)
  (Tl:Pu X YT elt ZC gens pos D (d+1) icl) {items:List PV}{I:Addr}{wr:List Addr}(hD:D∉wr) {R:Result->Shared->Prop}(k:Nat):∀(j:Nat) {G:Gh}{s:Shared}{st:St}{acc:List PV},items.length-j=k->j≤items.length->
  LS X YT F G s st D acc->It X.T F.A t G s.heap I wr items j->aL (ar (pn ZC c icl X.C F.vars) (items.drop j) acc st) (fun r=>∀G' s',LS X YT F G' s' r.2 D r.1->cB (XL G.n F.lev (D::wr)) G s G' s'->R (.ok .next) s')->
  codeAny (model X.T.prog X.T.w) F.A (.compLoop (.ListComp elt gens YT pos) d (.ref I) (.ref D) F.env) R s:=by
 have free:∀{w:YA},(∀y,y∉c.own->aQ w y=aQ F.vars y)->∀y q,aQ F.vars y=some q->aQ w y=some q:=fun h y q e=>(h y fun hy=>by have:=XV.mp hf y hy;rw[e] at this;injection this).trans e
 let' sub:∀b∈wr,b∈D::wr:=(fun b hb=>XB _ hb)
 induction k with
|zero=>
  intro j G s st acc hk hj L It H;refine me hg ?_ hz;refine It.next L.a.R (fun p v s1 e=>?_) (fun G' s1 z R1 X1=>?_) hj
  ·have:=(XO.mp e).1;exact absurd this (Yn.mpr (Nat.sub_eq_zero_iff_le.mp hk))
  ·rw[List.drop_eq_nil_of_le (Nat.sub_eq_zero_iff_le.mp hk)] at H;exact H G' s1 (L.step R1 X1 mS (IG hD)) (X1.mono (CI sub))
|succ k ih=>
  intro j G s st acc hk hj L It H;let' Z5:j<items.length:=Nat.lt_of_sub_eq_succ hk;refine me hg ?_ hz;refine It.next L.a.R (fun q v s1 hq w=>w.mono fun z s2 ⟨R2,X2,Ι,hv⟩=>?_) (fun G' s1 e z z=>absurd Z5 (Yn.mpr e)) hj;rw[List.drop_eq_getElem_cons Z5,show items[j]=q from Xn ((XK Z5).symm.trans hq)] at H;let' H:=ab (ab H);let' L2:=L.step R2 X2 mS (IG hD);refine(mJ Bt L2.a L2.own H hv).mono fun z s3 q0=>?_
  obtain⟨w,H,b3⟩:=q0;let' L3:LS X YT (F.w w) G s3 st D acc:=⟨b3.a,L2.own,L2.acc.ext sb b3.x⟩
  refine J2 (F:=F.w w) Si L3.a ((ab H).mono fun ok H G4 s4 N4=>?_);let' L4:=L3.ZV N4;let' X04:cB (XL G.n F.lev (D::wr)) G s G4 s4:=((X2.mono (CI sub)).trans (b3.x.mono fun z z h=>.inl (.inr h))).trans (N4.x.mono fun z z h=>.inl (.inl h));have ņ:∀{G5:Gh}{s5:Shared}{r:List PV×St},LS X YT (F.w w) G5 s5 r.2 D r.1->cB (XL G4.n F.lev [D]) G4 s4 G5 s5->aL (ar (pn ZC c icl X.C F.vars) (items.drop (j+1)) r.1 r.2) (fun r=>∀G' s',LS X YT F G' s' r.2 D r.1->cB (XL G.n F.lev (D::wr)) G s G' s'->R (.ok .next) s')->
    codeAny (model X.T.prog X.T.w) F.A (.compLoop (.ListComp elt gens YT pos) d (.ref I) (.ref D) F.env) R s5:=fun{G5 s5 r} L5 X5 H=>by
   let' X05:cB (XL G.n F.lev (D::wr)) G s G5 s5:=X04.trans ((X04.n▸X5).mono (EL (br Xy ff)));exact ih (j+1) (by rw[Nat.sub_add_eq,hk];rfl) Z5 (L5.weaken (free b3.old)) (((Ι.ext (fun b z=>sb) b3.x).ext (fun b z=>nB) N4.x).ext (fun b hb=>Pq fun h=>hD ((XU.mp h:b=D)▸hb)) X5) (H.mono fun r k G6 s6 L6 X6=>k G6 s6 L6 (X05.trans (X05.n▸X6)))
  obtain⟨b,Zu⟩:=ok;cases b with
  |false=>exact ņ (r:=(acc,Zu)) L4 (Ex.refl _ _ _ _) H
  |true=>exact Tl (F:=F.w w) _ L4 (H.mono fun r H G5 s5 L5 X5=>ņ L5 X5 H)
theorem qa{α:Type}{l:List α}{d:Nat}{x:α}{r:List α}(h:l.drop d=x::r):l[d]?=some x∧l.drop (d+1)=r:=by
 have e:(l.drop d)[0]?=some x:=by rw[h];rfl
 rw[List.getElem?_drop,Nat.add_zero] at e;have:=YH List.tail h;rw[List.tail_drop] at this;exact⟨e,this⟩
theorem Ad.sync{r:List Comprehension}{icl:List DC}(S:Ad X YT r icl){d:Nat}(hd:gens.drop d=r)(g:Comprehension)(hg:gens[d]?=some g):g.is_async=0:=by
 cases S with
|nil=>have:=YH (·[0]?) hd;rw[List.getElem?_drop,Nat.add_zero,hg] at this;injection this
|cons=>
  rw[(qa hd).1] at hg;injection hg with hg
  exact hg▸rfl
theorem G8(Se:SE X YT elt ZC){r:List Comprehension}{icl:List DC}(S:Ad X YT r icl):∀{d:Nat},gens.drop d=r->Pu X YT elt ZC gens pos D d icl:=by
 induction S with
|nil=>
  intro d hd F G s st acc K R L H;have hg:gens[d]?=none:=by
   have:=YH (·[0]?) hd
   rwa [List.getElem?_drop,Nat.add_zero] at this
  rw[hg];refine Se.then (.refl L.a) H fun x G1 v s1 N1 w V1 H=>?_
  obtain⟨hz,H⟩:=aF H;have L1:=L.ZV N1;exact(L1.acc.push N1.a.R hz V1).mono fun w s2 Zg=>by obtain⟨R2,X2,A2⟩:=Zg;exact H G1 s2 ⟨N1.a.Ö mS R2 X2,L1.own.Ç mS X2,A2⟩ ((N1.x.mono fun w w h=>.inl (.inl h)).trans (N1.x.n▸X2.mono (CI fun b hb=>hb)))
| @cons t it ifs r p ns iit ZH tp icl Bt hp Si ZI Ss S' ih=>
  intro d hd F G s st acc K R L H;obtain⟨hg,FL⟩:=qa hd;rw[hg];obtain⟨hf,H⟩:=aF H;refine(Si (tgt:=t) hp L.a (Q:=fun ü s7=>((0:Int) != 0)=false∧codeAny (model X.T.prog X.T.w) F.A (.compStart (.ListComp elt gens YT pos) d ü (.ref D) F.env) (fun r s8=>r=.ok .next∧codeAny (model X.T.prog X.T.w) F.A K R s8) s7) ((ab H).mono fun y H G1 s1 G2 s2 I wr q=>?_)).mono fun x s1 hx=>by rw[ZI];exact Yb hx
  have L1:=L.ZV q.n1;have L2:=L1.ZV q.n2;have hD:D∉wr:=fun h=>by have:=L1.a.R.fresh (q.new D h);rw[L1.acc.1] at this;injection this
  refine⟨rfl,jN hg rfl (l7 (R:=fun r s8=>r=.ok .next∧codeAny (model X.T.prog X.T.w) F.A K R s8) (c:=⟨p,ns,iit,ZH⟩) hg (S'.sync FL) Bt Ss hf (ih FL) hD y.1.length 0 rfl (Nat.zero_le _) L2 q.it ((ab H).mono fun z H G3 s4 L3 X3=>⟨rfl,?_⟩)) fun hq=>by obtain⟨_,_,_,_,i⟩:=q.it;exact i.self _ _ _ i.at_ hq⟩;have Ğ:cB (XL G.n F.lev [D]) G1 s1 G3 s4:=by refine Ex.forget L1.a.R q.new (n:=G.n) ?_;have e1:G1.n=G.n:=q.n1.x.n;have e2:G2.n=G.n:=q.n2.x.n.trans e1;exact(q.n2.x.mono fun m k h=>.inl (.inl (.inl (e1▸h)))).trans (X3.mono fun m k h=>by rw[e2] at h;exact h.elim (fun h=>.inl (.inl h)) fun Zg=>by obtain⟨e,b,hb,e'⟩:=Zg;exact(Xo.mp hb).elim (fun h=>.inl (.inr ⟨e,_,XU.mpr h,e'⟩)) fun hb=>.inr ⟨e,b,hb,e'⟩)
  have Κ:cB (XL G.n F.lev [D]) G s G3 s4:=(q.n1.x.mono fun w w h=>.inl (.inl h)).trans Ğ;obtain⟨lk',R4,X4⟩:=ls L3.a.R (Ğ.lat.la rfl) Ğ.lat.ga Κ q.lk;have Lg:jz G3 s4.heap {G3 with lk:=lk'} s4.heap:=⟨fun a o e f=>⟨f,e⟩,fun w=>Xq _,Xq _⟩
  have E3:=L3.a.E;exact H {G3 with lk:=lk'} s4 ⟨⟨R4,⟨E3.kind,E3.gl,E3.bu,by obtain⟨m,a,b,c⟩:=E3.loc;exact⟨m,a,b,fun y q h1 h2=>by obtain⟨v,h3,h4⟩:=c y q h1 h2;exact⟨v,h3,h4.lat Lg⟩⟩,fun y q h1 h2=>by obtain⟨c,v,a,b,d⟩:=E3.cell y q h1 h2;exact⟨c,v,a,b,d.lat Lg⟩,E3.cells,E3.free,E3.nam⟩,L3.a.rm,L3.a.lv,L3.a.ZK⟩,L3.own,L3.acc.1,L3.acc.2.lat (fun w e=>e) fun w y=>y.lat Lg⟩ X4
end
noncomputable def Gh.frame(G:Gh)(L:Addr)(cs:List (Str×Addr))(n t:Nat)(la:List Addr):Gh:=
 {own:=fun b=>if b=L then .fr t .L else match cs.find? (fun x=>x.2=b) with|some x=>.fr t (.cell x.1)|none=>G.own b,ga:=G.ga,la:=la,n:=n,top:=t,lk:=G.lk}
section
variable{T:Tp}{G G1 G2:Gh}{s s1 s2:Shared}{st Zo Zu:St}
theorem Gh.Ø(G:Gh)(L:Addr)(cs:List (Str×Addr))(n t:Nat)(la:List Addr):(G.frame L cs n t la).own L=.fr t .L:=Yh rfl
theorem ze{cs:List (Str×Addr)}(ap:cs.Pairwise fun x y=>x.2≠y.2){x:Str}{c:Addr}(h:(x,c)∈cs):cs.find? (fun y=>y.2=c)=some (x,c):=by
 induction cs with
|nil=>cases h
|cons y r ih=>
  obtain⟨h1,h2⟩:=List.pairwise_cons.mp ap;rw[List.find?_cons];rcases Xo.mp h with rfl|h
  ·rw[Yc rfl]
  ·exact(Yd (h1 _ h))▸ih h2 h
theorem Gh.Z3(G:Gh){L:Addr}{cs:List (Str×Addr)}(n t:Nat)(la:List Addr){b:Addr}(hb:b≠L):(G.frame L cs n t la).own b=match cs.find? (fun x=>x.2=b) with|some x=>.fr t (.cell x.1)|none=>G.own b:=Yg hb
theorem Gh.ZJ(G:Gh){L:Addr}{cs:List (Str×Addr)}(n t:Nat)(la:List Addr)(ap:cs.Pairwise fun x y=>x.2≠y.2){x:Str}{c:Addr}(h:(x,c)∈cs)(hc:c≠L):(G.frame L cs n t la).own c=.fr t (.cell x):=by rw[G.Z3 n t la hc,ze ap h]
theorem Gh.ë(G:Gh){L:Addr}{cs:List (Str×Addr)}(n t:Nat)(la:List Addr){b:Addr}(h:¬(b=L∨∃x,(x,b)∈cs)):(G.frame L cs n t la).own b=G.own b:=by
 rw[G.Z3 n t la fun e=>h (.inl e)];have:cs.find? (fun x=>x.2=b)=none:=List.find?_eq_none.mpr fun y hy e=>h (.inr ⟨y.1,(Ye e:y.2=b)▸hy⟩)
 rw[this]
theorem Gh.ì(G:Gh){L:Addr}{cs:List (Str×Addr)}(n t:Nat)(la:List Addr){b:Addr}(h:b=L∨∃x,(x,b)∈cs):(G.frame L cs n t la).own b=.fr t .L∨∃x,(G.frame L cs n t la).own b=.fr t (.cell x):=by
 by_cases hb:b=L
 ·subst hb;exact .inl (Yh rfl)
 ·right
  rw[G.Z3 n t la hb];cases hf:cs.find? (fun x=>x.2=b) with
  |some x=>exact⟨x.1,rfl⟩
  |none=>obtain⟨x,hx⟩:=h.resolve_left hb;exact absurd (Yc rfl) (List.find?_eq_none.mp hf (x,b) hx)
theorem aG.í(R:aG T G s st){L:Addr}{cs:List (Str×Addr)}{n t:Nat}{la:List Addr}{lst:List Ent}{h':Heap}(tk:Nat)(k:gn s.heap h')(hL:s.heap.get? L=none)(Ś:∀x c,(x,c)∈cs->s.heap.get? c=none)(eL:∃o,h'.get? L=some o)(ecs:∀x c,(x,c)∈cs->∃o,h'.get? c=some o)
  (hnt:n≤t) (Λ:G.top≤t) (hl:la.length=lst.length)
  (H:∀(i:Nat) (e:Ent) (a:Addr),lst[i]?=some e->la[i]?=some a->(st.l[i]?=some e∧G.la[i]?=some a∧n=G.n∧G.la<+:la)∨dp T (G.frame L cs n t la) h' (dX n i e.k) a e):
  aG T (G.frame L cs n t la) {s with heap:=h',toks:=tk} ⟨lst,st.g⟩∧Mv (fun b=>b=L∨∃x,(x,b)∈cs) G s (G.frame L cs n t la) {s with heap:=h',toks:=tk}:=by
 have fr:∀b,(b=L∨∃x,(x,b)∈cs)->s.heap.get? b=none:=fun b h=>h.elim (fun e=>e▸hL) fun Zg=>by obtain⟨x,hx⟩:=Zg;exact Ś x b hx
 have fz:∀b t,G.own b=t->t≠.fz->¬(b=L∨∃x,(x,b)∈cs):=fun b t e h d=>h (e.symm.trans (R.fresh (fr b d)))
 have M:Mv (fun b=>b=L∨∃x,(x,b)∈cs) G s (G.frame L cs n t la) {s with heap:=h',toks:=tk}:=⟨fun b d=>G.ë n t la d,fun b o z e=>k b o e,fun b d e=>fz b _ e (by nofun) d,fun b o d z e=>(by rw[fr b d] at e;injection e),
  fun b d hl=>(by obtain⟨⟨o,e⟩,_⟩:=R.lkd b hl;rw[fr b d] at e;injection e),fun b d z=>⟨d.elim (fun e=>e▸eL) fun Zg=>by obtain⟨x,hx⟩:=Zg;exact ecs x b hx,fun n' k e=>(G.ì n t la d).elim (fun h=>by have:=h.symm.trans e;injection this with e1 e2;exact⟨e1▸Xx _,fun c h=>(nomatch e2.trans h)⟩) fun Æ=>by obtain⟨x,h⟩:=Æ;have:=h.symm.trans e;injection this with e1 e2;exact⟨e1▸Xx _,fun c h=>(nomatch e2.trans h)⟩⟩,
  rfl,fun z z z z z h=>Xk h Λ,Xq _,rfl,rfl⟩
 exact⟨R.mv M hnt R.glen hl (fun i e b h1 h2=>.inl ⟨h1,h2,fun b d e=>fz b _ e (by nofun)⟩) R.gk fun i e b h1 h2=>(H i e b h1 h2).imp (fun Zg=>by obtain⟨a,b,c,d⟩:=Zg;exact⟨a,b,c,d,fun b d e=>fz b _ e (by nofun)⟩) id,M⟩
noncomputable def cI(t:Nat):iW->iW
|.fr m k=>if m≤t then .fr m k else .fz
|x=>x
theorem wG{t m:Nat}{k:b5}(h:m≤t):cI t (.fr m k)=.fr m k:=Yh h
theorem qK{t m:Nat}{k:b5}(h:¬m≤t):cI t (.fr m k)=.fz:=Yg h
def Gh.back(G:Gh)(n t:Nat)(la:List Addr):Gh:={own:=fun b=>cI t (G.own b),ga:=G.ga,la:=la,n:=n,top:=t,lk:=G.lk}
theorem aG.back(R:aG T G s st){n t:Nat}{la:List Addr}{lst:List Ent}{h':Heap}(tk:Nat)(hn:n≤t)(hl:la.length=lst.length)(kh:∀b o,¬(∃m k,G.own b=.fr m k∧¬m≤t)->s.heap.get? b=some o->h'.get? b=some o)(kl:∀b o,G.lk b->s.heap.get? b=some o->h'.get? b=some o)
  (H:∀(i:Nat) (e:Ent) (a:Addr),lst[i]?=some e->la[i]?=some a->(st.l[i]?=some e∧G.la[i]?=some a∧n=G.n∧G.la<+:la)∨(Lt true G s.heap (G.back n t la) h'->dp T (G.back n t la) h' (dX n i e.k) a e)):
  aG T (G.back n t la) {s with heap:=h',toks:=tk} ⟨lst,st.g⟩∧Mv (fun b=>∃m k,G.own b=.fr m k∧¬m≤t) G s (G.back n t la) {s with heap:=h',toks:=tk}:=by
 have M:Mv (fun b=>∃m k,G.own b=.fr m k∧¬m≤t) G s (G.back n t la) {s with heap:=h',toks:=tk}:=⟨fun b d=>by
   refine(?_:cI t (G.own b)=_);cases hb:G.own b with
   |fr m k=>exact Yh (Decidable.not_not.mp fun h=>d ⟨m,k,hb,h⟩)
   |_=>rfl,kh,fun b Zg e'=>by obtain⟨m,k,e,_⟩:=Zg;exact(nomatch e.symm.trans e'),fun b o Z6 e'=>by obtain⟨m,k,e,_⟩:=Z6;exact(nomatch e.symm.trans e'),
  fun b Zg hl=>by obtain⟨m,k,e,h⟩:=Zg;exact⟨fun o=>kl b o hl,by show iY (cI t (G.own b))=true;rw[e,qK h];rfl⟩,fun b Z6 hn=>by obtain⟨m,k,e,h⟩:=Z6;exact absurd (show cI t (G.own b)=.fz from(by rw[e,qK h])) hn,rfl,
  fun b m k d e z=>Decidable.not_not.mp fun h=>d ⟨m,k,e,h⟩,Xq _,rfl,rfl⟩
 exact⟨R.mv M hn R.glen hl (fun i e b h1 h2=>.inl ⟨h1,h2,fun b d e Zg=>by obtain⟨m,k,e',_⟩:=Zg;exact(nomatch e.symm.trans e')⟩) R.gk fun i e b h1 h2=>(H i e b h1 h2).imp (fun Z6=>by obtain⟨a,b,c,d⟩:=Z6;exact⟨a,b,c,d,fun b d e q93=>by obtain⟨m,k,e',h⟩:=q93;exact h (by have:=e.symm.trans e';injection this with e1;exact e1▸c▸hn)⟩) fun f=>f (M.lt (fun h=>by injection h)),M⟩
theorem Ex.Ň{Y:Nat->b5->Prop}(x:rL Y G s G1 s1)(h:G1.top=G.top):cB Y G s G1 s1:=⟨x.lat,x.fr,x.lk,x.n,fun z=>h,x.os⟩
end
theorem dy(names:List (Str×NameKind)):∀(n:Nat) (acc:List (Str×Addr)),cellsFrom n names acc=cellsFrom n names []++acc:=by
 induction names with
|nil=>intro n acc;exact rfl
|cons q0 r ih=>
  obtain⟨name,kind⟩:=q0;intro n acc;simp only[cellsFrom];split
  ·rw[ih (n+1) ((name,n)::acc),ih (n+1) [(name,n)]];simp
  ·exact ih n acc
theorem mh(names:List (Str×NameKind)):∀(n:Nat) (x:Str) (c:Addr),(x,c)∈cellsFrom n names []->(x,NameKind.cell)∈names∧n≤c:=by
 induction names with
|nil=>intro n x c h;cases h
|cons q0 r ih=>
  obtain⟨name,kind⟩:=q0;intro n x c h;simp only[cellsFrom] at h;split at h
  ·rename_i hk;rw[dy] at h;rcases Ym.mp h with h|h
   ·obtain⟨h1,h2⟩:=ih (n+1) x c h;exact⟨XB _ h1,Nat.le_of_succ_le h2⟩
   ·rcases XU.mp h with h
    cases h;have:kind=.cell:=by simpa using hk
    exact(this)▸⟨Xy,Xx _⟩
  ·obtain⟨h1,h2⟩:=ih n x c h;exact⟨XB _ h1,h2⟩
theorem jh(names:List (Str×NameKind)):∀(n:Nat) (x:Str),(x,NameKind.cell)∈names->∃c,(cellsFrom n names []).lookup x=some c:=by
 induction names with
|nil=>intro n x h;cases h
|cons q0 r ih=>
  obtain⟨name,kind⟩:=q0;intro n x h;simp only[cellsFrom];have look:∀{l l':List (Str×Addr)},(∃c,l.lookup x=some c)∨(∃c,l'.lookup x=some c)->∃c,(l++l').lookup x=some c:=fun{l l'} h=>by
   rw[List.lookup_append];cases e:l.lookup x with
   |some c=>exact⟨c,rfl⟩
   |none=>
    rw[e] at h;rcases h with⟨c,h⟩|⟨c,h⟩
    ·injection h
    ·exact⟨c,by rw[h];rfl⟩
  rcases Xo.mp h with h|h
  ·cases h;simp only[Y5,if_true];rw[dy];exact look (.inr ⟨n,by simp[YG]⟩)
  ·split
   ·rw[dy];exact look (.inl (ih (n+1) x h))
   ·exact ih n x h
theorem aX{α β:Type}[BEq α][LawfulBEq α]:∀{l:List (α×β)}{x:α}{k:β},l.lookup x=some k->(x,k)∈l
|(y,v)::r,x,k,h=>by
  rw[YG] at h;cases hb:x==y with
  |true=>rw[hb] at h;obtain rfl:=Xn h;exact(Y1.mp hb)▸Xy
  |false=>rw[hb] at h;exact XB _ (aX h)
theorem f8{α β:Type}[BEq α][LawfulBEq α]:∀{l:List (α×β)}{x:α}{k:β},(l.map (·.1)).Nodup->(x,k)∈l->l.lookup x=some k
|(y,v)::r,x,k,hn,h=>by
  rw[XM,YS] at hn;rw[YG];rcases Xo.mp h with h'|h'
  ·cases h';simp
  ·have:(x==y)=false:=by
    rw[Y4];intro e;let' h2:x∈r.map (·.1):=Yt.mpr ⟨(x,k),h',rfl⟩;rw[e] at h2;exact hn.1 h2
   exact(this)▸f8 hn.2 h'
theorem yo{M:Model}{A:Around}{E:Value->Shared->Prop}{s:Shared}{scope:Scope}{globals:Addr}{cl:List (Str×Addr)}{qual:Str}{env:Env}{Q:Env->Shared->Prop}
  (h:Q {scope:=scope,locals:=s.heap.objs.size,globals:=globals,cells:=cellsFrom (s.heap.objs.size+1) scope.names cl,qual:=qual,func:=none,code:=env.code,frame:=env.frame,builtins:=env.builtins} {s with heap:=pushCells (s.heap.push {cls:=.type "dict",data:=.dict #[]}) scope.names}):
  wpAny M A (newFunctionEnv scope globals cl [] qual none .none (some env)) Q E s:=by
 simp only[newFunctionEnv,Option.isSome_some,if_true];refine X9 (wpAny_alloc ?_);refine X9 (wpAny_layCells _ (fun name kind cells=>by cases Μ:kind==NameKind.cell<;>simp[Μ]) _ _ _ _ ?_);rw[show({s with heap:=s.heap.push {cls:=.type "dict",data:=.dict #[]}}:Shared).heap.objs.size=s.heap.objs.size+1 from Heap.size_push ..];refine X9 (Yb (Yb h))
theorem vQ{scope:Scope}{env:Env}(hf:∀x,(x,NameKind.free)∈scope.names->∃c,env.cells.lookup x=some c):∃cl,closureFor scope env=pure cl∧(∀x c,(x,c)∈cl->env.cells.lookup x=some c)∧∀x,(x,NameKind.free)∈scope.names->∃c,cl.lookup x=some c:=by
 have key:∀(names:List (Str×NameKind)) (acc:List (Str×Addr)),(∀x,(x,NameKind.free)∈names->∃c,env.cells.lookup x=some c)->(∀x c,(x,c)∈acc->env.cells.lookup x=some c)->
   ∃cl,(forIn names acc fun(x:Str×NameKind) cs=>(do
    if(x.2==.free)=true then do let a <-cellOf env x.1;pure (ForInStep.yield ((x.1,a)::cs)) else pure (ForInStep.yield cs):Sem (ForInStep (List (Str×Addr)))))=pure cl∧(∀x c,(x,c)∈cl->env.cells.lookup x=some c)∧(∀x,(x,NameKind.free)∈names∨(∃c,acc.lookup x=some c)->∃c,cl.lookup x=some c):=by
  intro names;induction names with
  |nil=>intro acc _ ha;exact⟨acc,by rw[List.forIn_nil],ha,fun x h=>h.elim (fun h=>nomatch h) id⟩
  |cons y r ih=>
   obtain⟨y,k⟩:=y;intro acc hf ha;rw[List.forIn_cons];by_cases hk:k=.free
   ·subst hk;obtain⟨c,hc⟩:=hf y Xy;obtain⟨cl,h1,h2,h3⟩:=ih ((y,c)::acc) (fun x hx=>hf x (XB _ hx)) (fun x c' h=>by
     rcases Xo.mp h with h|h
     ·cases h;exact hc
     ·exact ha x c' h)
    refine⟨cl,?_,h2,fun x hx=>h3 x ?_⟩
    ·have:cellOf env y=pure c:=by unfold cellOf;rw[hc]
     simp only[Y5,if_true,this,pure_bind];exact h1
    ·by_cases Þ:x=y
     ·subst Þ;exact .inr ⟨c,by simp[YG]⟩
     ·rcases hx with hx|⟨c',hx⟩
      ·rcases Xo.mp hx with hx|hx
       ·cases hx;exact absurd rfl Þ
       ·exact .inl hx
      ·exact .inr ⟨c',by rw[YG,Y4.mpr Þ];exact hx⟩
   ·obtain⟨cl,h1,h2,h3⟩:=ih acc (fun x hx=>hf x (XB _ hx)) ha;refine⟨cl,?_,h2,fun x hx=>h3 x (hx.imp (fun hx=>?_) id)⟩
    ·simp only[(by simpa using hk:(k==NameKind.free)=false),Bool.false_eq_true,if_false,pure_bind];exact h1
    ·rcases Xo.mp hx with hx|hx
     ·cases hx;exact absurd rfl hk
     ·exact hx
 obtain⟨cl,h1,h2,h3⟩:=key scope.names [] hf (fun x c h=>nomatch h);refine⟨cl,?_,h2,fun x hx=>h3 x (.inl hx)⟩;unfold closureFor;have e:(forIn scope.names ([]:List (Str×Addr)) fun(x:Str×NameKind) cs=>(do
    if(x.2==.free)=true then do let a <-cellOf env x.1;pure (ForInStep.yield ((x.1,a)::cs)) else pure (ForInStep.yield cs):Sem (ForInStep (List (Str×Addr)))))=pure cl:=h1
 exact(YH (fun m:Sem (List (Str×Addr))=>m>>= fun s=>pure s) e).trans rfl
structure qh(sc YT:Scope):Prop where
 kind:YT.kind=.function
 nodup:(YT.names.map (·.1)).Nodup
 free:∀x∈YT.names,x.2=.free->sc.names.lookup x.1=some .cell∨sc.names.lookup x.1=some .free
def aU(YT:Scope):List Nat:=YT.names.filterMap fun x=>if x.2=.local∨x.2=.cell then enc x.1 else none
theorem GZ{YT:Scope}{y:Nat}(hy:enc (dec y)=some y)(h:YT.names.lookup (dec y)=some .local∨YT.names.lookup (dec y)=some .cell):y∈aU YT:=by
 obtain⟨k,hk,hm⟩:∃k,(k=NameKind.local∨k=.cell)∧(dec y,k)∈YT.names:=h.elim (fun h=>⟨_,.inl rfl,aX h⟩) fun h=>⟨_,.inr rfl,aX h⟩
 exact List.mem_filterMap.mpr ⟨_,hm,(Yh hk).trans hy⟩
theorem de(P:Nat->Bool):∀{vars:YA}{y:Nat}{q:PV},aQ (vars.filter fun x=>P x.1) y=some q->aQ vars y=some q∧P y=true
|(k,v)::r,y,q,h=>by
  rw[List.filter_cons] at h;unfold aQ;split at h
  ·rename_i hp;unfold aQ at h;split at h
   ·rename_i e;subst e;exact(Yh rfl)▸⟨h,hp⟩
   ·rename_i e;exact(Yg e)▸de P h
  ·rename_i hp;obtain⟨h1,h2⟩:=de P h;rw[Yg (by rintro rfl;exact hp h2)];exact⟨h1,h2⟩
theorem eJ(YT:Scope)(env:Env)(x:Str):(relabel YT env).names.lookup x=YT.names.lookup x∨(YT.names.lookup x=some .free∧(relabel YT env).names.lookup x=some .cell):=by
 unfold relabel;induction YT.names with
|nil=>exact .inl rfl
|cons y r ih=>
  obtain⟨y,k⟩:=y;rw[XM];dsimp only;split
  ·rename_i hc;rw[YG,YG];cases hx:x==y with
   |true=>
    simp only[Xp] at hc;have:k=.free:=by simpa using hc.1.1
    exact .inr ⟨by rw[this],rfl⟩
   |false=>exact ih
  ·rw[YG,YG];cases hx:x==y with
   |true=>exact .inl rfl
   |false=>exact ih
noncomputable def KG(YT:Scope)(env:Env)(L:Addr)(cl:List (Str×Addr)):Env:=
 {scope:=relabel YT env,locals:=L,globals:=env.globals,cells:=cellsFrom (L+1) YT.names cl,qual:=env.qual,func:=none,code:=env.code,frame:=env.frame,builtins:=env.builtins}
theorem d5{YT:Scope}(hn:(YT.names.map (·.1)).Nodup){L:Addr}{cl:List (Str×Addr)}(x:Str):(YT.names.lookup x=some .cell∧∃c,(cellsFrom (L+1) YT.names cl).lookup x=some c∧(x,c)∈cellsFrom (L+1) YT.names [])∨
  (YT.names.lookup x≠some .cell∧(cellsFrom (L+1) YT.names cl).lookup x=cl.lookup x):=by
 rw[dy,List.lookup_append];by_cases h:YT.names.lookup x=some .cell
 ·obtain⟨c,hc⟩:=jh YT.names (L+1) x (aX h);exact .inl ⟨h,c,by rw[hc];rfl,aX hc⟩
 ·refine .inr ⟨h,?_⟩;cases e:(cellsFrom (L+1) YT.names []).lookup x with
  |none=>rfl
  |some c=>exact absurd (f8 hn (mh _ _ _ _ (aX e)).1) h
section
variable{X:Sx}{sc YT:Scope}{F:Fr}{G G1 G2:Gh}{s s1 s2:Shared}{st Zo Zu:St}{D:Addr}{acc:List PV}
def Fr.comp(F:Fr)(YT:Scope)(L:Addr)(cl:List (Str×Addr))(lev:Nat):Fr:={env:=KG YT F.env L cl,lev:=lev,vars:=F.vars.filter fun x=>!(aU YT).contains x.1,A:=F.A}
theorem vj(hok:qh sc YT)(a:At X sc F G s st){cl:List (Str×Addr)}(c1:∀x c,(x,c)∈cl->F.env.cells.lookup x=some c)(c2:∀x,(x,NameKind.free)∈YT.names->∃c,cl.lookup x=some c)(ä:I4 X.T G s.heap D acc):
  ∃G',LS X YT (F.comp YT s.heap.objs.size cl (G.top+1)) G' {s with heap:=pushCells (s.heap.push {cls:=.type "dict",data:=.dict #[]}) YT.names} st D acc∧
   rL (fun z z=>False) G s G' {s with heap:=pushCells (s.heap.push {cls:=.type "dict",data:=.dict #[]}) YT.names}∧G'.top=G.top+1:=by
 have hn:=hok.nodup;have hL:s.heap.get? s.heap.objs.size=none:=aV _;have k:gn s.heap (pushCells (s.heap.push {cls:=.type "dict",data:=.dict #[]}) YT.names):=fun b o e=>pushCells_keeps _ _ b o (Xv _ e)
 have ok:=cellsFrom_ok YT.names (s.heap.push {cls:=.type "dict",data:=.dict #[]}) (s.heap.objs.size+1) [] ⟨fun z z hm=>(nomatch hm),List.Pairwise.nil⟩ (by rw[Heap.size_push];exact Xx _);rw[Heap.size_push] at ok;have fresh:∀x c,(x,c)∈cellsFrom (s.heap.objs.size+1) YT.names []->s.heap.get? c=none:=fun x c h=>Heap.get?_none_of_le (Nat.le_of_succ_le (ok.empty x c h).2)
 have ş:∀x c,(x,c)∈cellsFrom (s.heap.objs.size+1) YT.names []->c≠s.heap.objs.size:=fun x c h=>Nat.ne_of_gt (ok.empty x c h).2
 have ň:(pushCells (s.heap.push {cls:=.type "dict",data:=.dict #[]}) YT.names).Ns s.heap.objs.size fun z=>none:=(Heap.Ns.new s.heap (.type "dict")).keeps (pushCells_keeps _ _)
 obtain⟨R',M⟩:=a.R.í (L:=s.heap.objs.size) (cs:=cellsFrom (s.heap.objs.size+1) YT.names []) (n:=G.n) (t:=G.top+1) (la:=G.la) (lst:=st.l) s.toks k hL fresh
  (by obtain⟨o,es,ep,e,_⟩:=ň;exact⟨o,e⟩) (fun x c h=>by obtain⟨o,e,_⟩:=(ok.empty x c h).1;exact⟨o,e⟩) (XX a.R.nle) (Nat.le_succ _) a.R.llen fun i e b h1 h2=>.inl ⟨h1,h2,rfl,Xq _⟩
 have X0:rL (fun z z=>False) G s _ _:=Ex.mv (tp:=false) a.R M (Xq _) rfl ((fun h=>by injection h)) fun b n k e d=>by rw[a.R.fresh (d.elim (fun h=>h▸hL) fun Zg=>by obtain⟨x,h⟩:=Zg;exact fresh x b h)] at e;injection e
 have cellAt:∀x c,(x,c)∈cl->(∃v,Heap.IsCell (pushCells (s.heap.push {cls:=.type "dict",data:=.dict #[]}) YT.names) c v)∧∃l,l≤G.top+1∧(G.frame s.heap.objs.size (cellsFrom (s.heap.objs.size+1) YT.names []) G.n (G.top+1) G.la).own c=.fr l (.cell x):=fun x c h=>by obtain⟨⟨v,hv⟩,l,hl,e⟩:=a.E.cells x c (c1 x c h);exact⟨⟨v,hv.keeps k⟩,l,Xk hl (XX a.lv),(X0.fr c _ _ e id).2⟩
 have Ð:∀{y:Nat}{q:PV},aQ (F.vars.filter fun x=>!(aU YT).contains x.1) y=some q->aQ F.vars y=some q∧¬(YT.names.lookup (dec y)=some .local∨YT.names.lookup (dec y)=some .cell):=fun h=>by obtain⟨h3,h4⟩:=de (fun x=>!(aU YT).contains x) h;refine⟨h3,fun h5=>?_⟩;rw[List.contains_iff_mem.mpr (GZ (a.E.nam _ _ h3) h5)] at h4;injection h4
 have î:∀{x:Str},(relabel YT F.env).names.lookup x=some .cell∨(relabel YT F.env).names.lookup x=some .free->YT.names.lookup x≠some .cell->YT.names.lookup x=some .free:=fun{x} h nc=>by
  rcases eJ YT F.env x with e|⟨e,_⟩
  ·rw[e] at h;exact h.resolve_left nc
  ·exact e
 refine⟨_,⟨⟨R',⟨hok.kind,a.E.gl,a.E.bu,⟨_,ň,G.Ø ..,fun y q h1 h2=>?_⟩,fun y q h1 h2=>?_,fun x c h1=>?_,fun x h1=>?_,fun y q h1=>a.E.nam y q (Ð h1).1⟩,a.rm,Xx _,eJ YT F.env⟩,?_,ä.ext id X0⟩,X0,rfl⟩
 ·-- no name of its own is bound
  exfalso;have h2:(relabel YT F.env).names.lookup (dec y)=some .local:=h2;refine(Ð h1).2 (.inl ?_);rcases eJ YT F.env (dec y) with h|⟨_,h⟩
  ·exact h.symm.trans h2
  ·cases h.symm.trans h2
 ·obtain⟨h3,h4⟩:=Ð h1;have hf:=î h2 fun h=>h4 (.inr h)
  rcases d5 hn (L:=s.heap.objs.size) (cl:=cl) (dec y) with⟨h,_⟩|⟨_,h⟩
  ·exact absurd (.inr h) h4
  ·obtain⟨c,hc⟩:=c2 _ (aX hf);have he:=c1 _ _ (aX hc);have hk:F.env.kindOf (dec y)=some .cell∨F.env.kindOf (dec y)=some .free:=(a.ZK (dec y)).elim (fun h=>(hok.free _ (aX hf) rfl).imp h.trans h.trans) fun h=>.inl h.2
   obtain⟨c',v,g1,g2,g3⟩:=a.E.cell y q h3 hk;injection he.symm.trans g1 with e;subst e
   exact⟨c,v,h.trans hc,g2.keeps k,g3.lat X0.lat⟩
 ·have h1:(cellsFrom (s.heap.objs.size+1) YT.names cl).lookup x=some c:=h1;rcases d5 hn (L:=s.heap.objs.size) (cl:=cl) x with⟨_,c',h,hm⟩|⟨_,h⟩
  ·injection h1.symm.trans h with e;subst e
   exact⟨⟨_,(ok.empty x c hm).1⟩,_,Xx _,G.ZJ _ _ _ ok.apart hm (ş x c hm)⟩
  ·exact cellAt x c (aX (h.symm.trans h1))
 ·refine(?_:∃c,(cellsFrom (s.heap.objs.size+1) YT.names cl).lookup x=some c);rcases d5 hn (L:=s.heap.objs.size) (cl:=cl) x with⟨_,c',h,hm⟩|⟨nc,h⟩
  ·exact⟨c',h⟩
  ·obtain⟨c,hc⟩:=c2 _ (aX (î h1 nc));exact⟨c,h.trans hc⟩
 ·intro x hx;rcases d5 hn (L:=s.heap.objs.size) (cl:=cl) x with⟨_,c,h,hm⟩|⟨nc,h⟩
  ·exact⟨c,h,G.ZJ _ _ _ ok.apart hm (ş x c hm)⟩
  ·exact absurd hx nc
end
section
variable{X:Sx}{sc YT:Scope}{F:Fr}{G G1 G2:Gh}{s s1 s2:Shared}{st Zo Zu:St}{D:Addr}
theorem wv(G:Gh)(h:Heap)(lk':Addr->Prop):jz G h {G with lk:=lk'} h:=⟨fun a o e f=>⟨f,e⟩,fun z=>Xq _,Xq _⟩
theorem At.Ν(a:At X sc F G s st){lk':Addr->Prop}(R:aG X.T {G with lk:=lk'} s Zo):At X sc F {G with lk:=lk'} s Zo:=
 have Lg:=wv G s.heap lk'
 ⟨R,⟨a.E.kind,a.E.gl,a.E.bu,by obtain⟨m,h1,h2,h3⟩:=a.E.loc;exact⟨m,h1,h2,fun y q e1 e2=>by obtain⟨v,h4,h5⟩:=h3 y q e1 e2;exact⟨v,h4,h5.lat Lg⟩⟩,fun y q e1 e2=>by obtain⟨c,v,h1,h2,h3⟩:=a.E.cell y q e1 e2;exact⟨c,v,h1,h2,h3.lat Lg⟩,a.E.cells,a.E.free,a.E.nam⟩,a.rm,a.lv,a.ZK⟩
theorem Ex.ups{tp:Bool}{Y Z:Nat->b5->Prop}(x:rL Y G s G1 s1)(y:Ex tp Z G1 s1 G2 s2)(h:∀a m k,G.own a=.fr m k->Z m k->Y m k):rL Y G s G2 s2:=
 ⟨x.lat.trans y.lat,fun a m k e hx=>by obtain⟨p,q⟩:=x.fr a m k e hx;obtain⟨p',q'⟩:=y.fr a m k q fun hy=>hx (h a m k e hy);exact⟨p'.trans p,q'⟩,fun b h=>by obtain⟨p,q⟩:=x.lk b h;obtain⟨p',q'⟩:=y.lk b q;exact⟨p'.trans p,q'⟩,y.n.trans x.n,(fun h=>by injection h),y.os.trans x.os⟩
def Ng(lev:Nat)(G G':Gh):Prop:=∀x c,G.own c=.fr lev (.cell x)->G'.own c=.fr lev (.cell x)
theorem Ex.own{tp:Bool}{lev:Nat}(x:Ex tp (Xe G.n) G s G1 s1):Ng lev G G1:=fun z c e=>(x.fr c _ _ e (pH (lev:=lev) _ _ (Xx _)).2).2
theorem aG.leave{T:Tp}(R:aG T G s st){C:Addr}{t m:Nat}(hC:G.own C=.fr m .L)(hm:t<m)(hn:G.n≤t){h':Heap}(Ã:Heap.SameBut C s.heap h'):
  ∃G',aG T G' {s with heap:=h'} st∧rL (fun m z=>t<m) G s G' {s with heap:=h'}∧G'.top=t:=by
 obtain⟨R',M⟩:=R.back (n:=G.n) (t:=t) (la:=G.la) (lst:=st.l) (h':=h') s.toks hn R.llen (fun b o d e=>(Ã.2 b fun h=>d ⟨m,_,h▸hC,Nat.not_le.mpr hm⟩).trans e)
  (fun b o hl e=>(Ã.2 b fun h=>by have:=(R.lkd b hl).2;rw[h,hC] at this;injection this).trans e) fun i e b h1 h2=>.inl ⟨h1,h2,rfl,Xq _⟩
 exact⟨_,R',Ex.mv (tp:=false) R M (Xq _) rfl (fun h=>by injection h) fun b n k e ⟨m,k',e',h⟩=>by have:=e.symm.trans e';injection this with e1;exact e1▸Nat.not_le.mp h,rfl⟩
def KB(X:Sx)(sc:Scope)(F:Fr)(G:Gh)(s:Shared)(use:Option (Value->Sem Unit))(Q:Value->Shared->Prop)(r:PV×St):Prop:=match use with
|none=>D2 X sc F G s Q r
|some u=>∀G1 s1 v,At X sc F G1 s1 r.2->Ng F.lev G G1->V X.T G1 s1.heap r.1 v->wp X F (u v) (fun z s2=>∃w,At X sc (F.w w) G1 s2 r.2∧cB (Xf F.lev) G1 s1 G1 s2∧∀G' s',At X sc (F.w w) G' s' r.2->cB (Xs G.n F.lev) G s G' s'->Ng F.lev G G'->Q .none s') s1
theorem BJ{fst:Sem Value}{elt t it:Expr}{ZC:DE}{ifs:List Expr}{r:List Comprehension}{p:DP}{ns:List Nat}{iit:DI}{ZH:List DT}{icl:List DC}{pos ğ:Pos}{d:DK}{use:Option (Value->Sem Unit)}{Q:Value->Shared->Prop}
  (Bt:lj YT [t] [p] ns) (Si:∀{Q:Value->Shared->Prop},aL (iit X.C (F.vars.filter fun x=>!(aU YT).contains x.1) st) (fun r=>∀G1 s1 G2 s2 I wr,Om X sc (F.w (F.vars.filter fun x=>!(aU YT).contains x.1)) t G s r G1 s1 G2 s2 I wr->Q (.ref I) s2)->wp X F fst (fun x s1=>wp X F (pyIter x) Q s1) s) (ZI:∀env x,foldedSetIterable it env x=pure x) (hok:qh sc YT) (Ss:vm X YT ifs ZH) (Sr:Ad X YT r icl) (Se:SE X YT elt ZC) (a:At X sc F G s st)
  (H:aL (iX d (aU YT) ZC (⟨p,ns,iit,ZH⟩::icl) X.C F.vars st) (KB X sc F G s use Q)):
  wp X F (comprehension (.ListComp elt (⟨t,it,ifs,0⟩::r) YT pos) YT F.env ğ (newList []) false fst use) Q s:=by
 obtain⟨hf,H⟩:=aF (ab H);have Ŋ:∀x,(x,NameKind.free)∈YT.names->∃c,F.env.cells.lookup x=some c:=fun x hx=>a.E.free x ((a.ZK x).elim (fun h=>(hok.free _ hx rfl).imp h.trans h.trans) fun h=>.inl h.2)
 obtain⟨cl,hcl,c1,c2⟩:=vQ Ŋ;refine wpAny_comprehension_free rfl (ZI F.env) hcl hok.kind (fun x hx hl=>f8 hok.nodup (by exact(hl)▸hx)) ?_;refine Si (Q:=fun ü s₂=>wpAny (model X.T.prog X.T.w) F.A (newList []) (fun acc s₃=>wpAny (model X.T.prog X.T.w) F.A (newFunctionEnv YT F.env.globals cl [] F.env.qual none .none (some F.env)) (fun ŋ s₄=>
   codeAny (model X.T.prog X.T.w) F.A (.compStart (.ListComp elt (⟨t,it,ifs,0⟩::r) YT pos) 0 ü acc {ŋ with scope:=relabel YT F.env}) (compPost (model X.T.prog X.T.w) F.A no use Q acc ŋ.locals) s₄) no s₃) no s₂) ((ab H).mono fun y H G1 s1 G2 s2 I wr q=>?_)
 refine Za ?_;obtain⟨R3,X3⟩:=q.n2.a.R.Z1 (bD #[] 0) s2.toks rfl;have N2:=(a.ZV q.n1.a.R q.n1.x).trans ((a.ZV q.n1.a.R q.n1.x).a.ZV q.n2.a.R q.n2.x);have N3:=N2.trans (N2.a.ZV R3 X3);have nD:s2.heap.get? s2.heap.objs.size=none:=aV _;have hD:s2.heap.objs.size∉wr:=fun h=>by obtain⟨_,_,_,_,i⟩:=q.it;exact by have:=i.own _ h;rw[q.n2.a.R.fresh nD] at this;injection this
 refine yo ?_;obtain⟨G4,L4,X4,t4⟩:=vj (D:=s2.heap.objs.size) (acc:=[]) hok N3.a c1 c2 ⟨Gh.Zr _ _ _ _ _,#[],0,XF _ rfl,Nat.zero_le _,iC⟩;have it4:=(q.it.ext (fun b l=>nB) X3).ext (fun b l h=>h) X4;have l3:G2.top+1=G.top+1:=YH (·+1) (N2.x.top rfl);have n4:G4.n=G.n:=X4.n.trans N3.x.n;have nf:∀b∈s2.heap.objs.size::wr,∀m,G.own b≠.fr m (.it b):=fun b hb m e=>by
  rcases Xo.mp hb with rfl|hb
  ·have:=(N2.x.fr _ _ _ e nB).2;rw[q.n2.a.R.fresh nD] at this;injection this
  ·have:=(q.n1.x.fr _ _ _ e nB).2;rw[q.n1.a.R.fresh (q.new b hb)] at this;injection this
 have hz:∀b m k,G.own b=.fr m k->Xe G.n m k∨(∃b∈s2.heap.objs.size::wr,k=.it b)∨G.top<m->Xe G.n m k:=fun b m k e h=>h.elim id fun h=>by
  obtain⟨l1,l2⟩:=a.R.lev b m k e;rcases h with⟨c,hc,rfl⟩|h
  ·obtain rfl:=l2 c rfl;exact absurd e (nf c hc m)
  ·exact absurd h (Yn.mpr l1)
 refine jN rfl rfl (l7 (c:=⟨p,ns,iit,ZH⟩) rfl (Sr.sync (d:=0+1) rfl) Bt Ss hf (G8 Se Sr (d:=0+1) rfl) hD y.1.length 0 rfl (Nat.zero_le _) L4 it4 ((ab H).mono fun z H G5 s5 L5 X5=>?_)) fun hq=>by obtain⟨_,_,_,_,i⟩:=it4;exact i.self _ _ _ i.at_ hq
 have E5:rL (Xe G.n) G s G5 s5:=(N3.x.e0.ups X4 fun l l l l h=>h.elim).ups X5 fun b m k e h=>hz b m k e (h.elim (fun h=>h.elim (fun h=>.inl ⟨h.1.trans n4,h.2⟩) fun h=>.inr (.inr ((h.1.trans l3).symm▸Yq _))) fun Zg=>by obtain⟨_,c,h,h2⟩:=Zg;exact .inr (.inl ⟨c,h,h2⟩))
 obtain⟨lk',R5,E5⟩:=ls L5.a.R ((((q.n2.x.lat.la rfl).trans (X3.lat.la rfl)).trans (X4.lat.la rfl)).trans (X5.lat.la rfl)) (((q.n2.x.lat.ga.trans X3.lat.ga).trans X4.lat.ga).trans X5.lat.ga) E5 q.lk;obtain⟨G6,w,H,R6,X6,V6⟩:=R5.alloc (X:=fun l k=>k=.it s2.heap.objs.size) (.inr L5.acc.1) s5.toks (fun b o l e=>e) H (fun G' dk L=>L5.acc.2.lat (fun l e=>e) fun l y=>y.lat ((wv _ _ lk').trans L)) fun n k e=>by have:=L5.acc.1.symm.trans e;injection this with _ e2;exact e2.symm
 have E6:rL (Xe G.n) G s G6 s5:=E5.ups X6 fun b m k e h=>hz b m k e (.inr (.inl ⟨_,Xy,h⟩))
 obtain⟨mC,Š,oC,_⟩:=L5.a.E.loc;have oC:=(X6.fr _ _ _ oC (fun h=>by injection h)).2;have Š:s5.heap.Ns (s2.heap.push (bD #[] 0)).objs.size mC:=Š;have hn6:G6.n≤G.top:=E6.n▸a.R.nle;have š:G.top<G2.top+1:=l3▸Yq _;cases use with
|none=>refine⟨mC,Š,fun h' Ã=>?_⟩;obtain⟨G7,R7,X7,t7⟩:=R6.leave oC š hn6 Ã;exact H G7 _ _ (a.ZV R7 ((E6.ups X7 fun b m k e h=>hz b m k e (.inr (.inr h))).Ň t7)) (V6.lat X7.lat)
|some u=>
  have a6:At X sc F G6 s5 w.2:=⟨R6,a.E.Ç pH E6,a.rm,Xk a.lv (by exact(X6.top rfl)▸XW (((X5.top rfl).trans t4).symm▸š)),a.ZK⟩
  refine(H G6 s5 _ a6 E6.own V6).mono fun l s6 q0=>?_
  obtain⟨v,a8,X8,k⟩:=q0;refine⟨mC,BD Š (X8.fr _ _ _ oC fun h=>Yn.mpr (Xk (XY h.1) a.lv) š).1,fun h' Ã=>?_⟩;obtain⟨G7,R7,X7,t7⟩:=a8.R.leave oC š hn6 Ã;have Ġ:∀{b:Addr}{m:Nat}{k:b5},G.own b=.fr m k->G.top<m->False:=fun e h=>Yn.mpr (a.R.lev _ _ _ e).1 h
  exact k G7 _ ⟨R7,a8.E.Ç (fun m x hm=>⟨fun h=>Yn.mpr (Xk hm a.lv) h,fun h=>Yn.mpr (Xk hm a.lv) h⟩) X7,a.rm,t7▸a.lv,a.ZK⟩
   ((((E6.mono (Y:=Xs G.n F.lev) fun l l h=>.inl h).ups X8 fun l l l l h=>.inr h).ups X7 fun b m k e h=>(Ġ e h).elim).Ň t7) fun x c e=>(X7.fr c _ _ (E6.own x c e) (fun h=>Ġ e h)).2
theorem xg{elt t it:Expr}{ZC:DE}{ifs:List Expr}{r:List Comprehension}{p:DP}{ns:List Nat}{iit:DI}{ZH:List DT}{tp:Bool}{icl:List DC}{pos ğ:Pos}{d:DK}{use:Option (Value->Sem Unit)}{Q:Value->Shared->Prop}
  (Bt:lj YT [t] [p] ns) (hp:tp=true->gi t) (Si:SI X sc it tp iit) (ZI:∀env x,foldedSetIterable it env x=pure x) (hok:qh sc YT) (Ss:vm X YT ifs ZH) (Sr:Ad X YT r icl) (Se:SE X YT elt ZC) (a:At X sc F G s st)
  (H:aL (iX d (aU YT) ZC (⟨p,ns,iit,ZH⟩::icl) X.C F.vars st) (KB X sc F G s use Q)):
  wp X F (comprehension (.ListComp elt (⟨t,it,ifs,0⟩::r) YT pos) YT F.env ğ (newList []) false (eval it F.env) use) Q s:=by
 let' a0:At X sc (F.w (F.vars.filter fun x=>!(aU YT).contains x.1)) G s st:=⟨a.R,a.E.weaken fun y q h=>(de (fun x=>!(aU YT).contains x) h).1,a.rm,a.lv,a.ZK⟩
 exact BJ Bt (fun H=>Si (F:=F.w (F.vars.filter fun x=>!(aU YT).contains x.1)) hp a0 H) ZI hok Ss Sr Se a H
end
structure jX(X:Sx)(sc:Scope)(F:Fr)(Y:Nat->b5->Prop)(G:Gh)(s:Shared)(w:YA)(st':St)(G':Gh)(s':Shared):Prop where
 a:At X sc (F.w w) G' s' st'
 x:cB Y G s G' s'
 own:Ng F.lev G G'
 ê:sZ F.vars w
structure V7(X:Sx)(Y:Nat->b5->Prop)(G:Gh)(s:Shared)(p:PV)(st':St)(G':Gh)(s':Shared)(v:Value):Prop where
 R:aG X.T G' s' st'
 x:cB Y G s G' s'
 v:V X.T G' s'.heap p v
 nl:aw p=true
def fj(X:Sx)(sc:Scope)(F:Fr)(Y:Nat->b5->Prop)(G:Gh)(s:Shared)(Q:Flow->Shared->Prop)(r:R3):Prop:=match r.1 with
|.next=>∀G' s',jX X sc F Y G s r.2.1 r.2.2 G' s'->Q .next s'
|.brk=>∀G' s',jX X sc F Y G s r.2.1 r.2.2 G' s'->Q .brk s'
|.cont=>∀G' s',jX X sc F Y G s r.2.1 r.2.2 G' s'->Q .cont s'
|.ret p=>∀G' s' v,V7 X Y G s p r.2.2 G' s' v->Q (.ret v) s'
def SS(X:Sx)(sc:Scope)(m:Stmt)(d:DS):Prop:=
 ∀{F:Fr}{G:Gh}{s:Shared}{st:St}{Q:Flow->Shared->Prop},At X sc F G s st->dY G F.env F.lev sc->aL (d X.C F.vars st) (fj X sc F (Xs G.n F.lev) G s Q)->wp X F (exec m F.env) Q s
def u6(X:Sx)(sc:Scope)(m:List Stmt)(d:DS):Prop:=
 ∀{F:Fr}{G:Gh}{s:Shared}{st:St}{Q:Flow->Shared->Prop},At X sc F G s st->dY G F.env F.lev sc->aL (d X.C F.vars st) (fj X sc F (Xs G.n F.lev) G s Q)->wp X F (execs m F.env) Q s
theorem qY{w:YA}{y:Nat}{q:PV}{v:YA}:sZ v w->aQ (aA v w) y=some q->aQ w y=some q:=by
 induction v with
|nil=>intro _ h;injection h
|cons q0 r ih=>
  obtain⟨k,u⟩:=q0;intro d h;have dr:sZ r w:=fun y q e=>by
   by_cases hk:k=y
   ·subst hk;exact d k u (Yh rfl)
   ·exact d y q ((Yg hk).trans e)
  by_cases hk:k=y
  ·subst hk;obtain⟨p,e⟩:=d k u (Yh rfl);let' h:some ((aQ w k).getD u)=some q:=(Yh rfl).symm.trans h;rw[e] at h ⊢;exact h
  ·exact ih dr ((Yg hk).symm.trans h)
theorem j8{w:YA}:∀(v:YA),sZ v (aA v w)
|[]=>fun y q h=>by injection h
|(k,u)::r=>fun y q h=>by
  by_cases hk:k=y
  ·exact⟨_,Yh hk⟩
  ·obtain⟨p,e⟩:=j8 r y q ((Yg hk).symm.trans h);exact⟨p,(Yg hk).trans e⟩
section
variable{X:Sx}{sc:Scope}{F:Fr}{Y Z:Nat->b5->Prop}{G G1 G2:Gh}{s s1 s2:Shared}{st Zo Zu:St}{w w2:YA}{Q:Flow->Shared->Prop}
theorem dY.own(O:dY G F.env F.lev sc)(h:Ng F.lev G G1):dY G1 F.env F.lev sc:=fun x hx=>by obtain⟨c,a,b⟩:=O x hx;exact⟨c,a,h x c b⟩
theorem fg.Ë(N:fg X sc F G s G1 s1 Zo):jX X sc F (Xs G.n F.lev) G s F.vars Zo G1 s1:=⟨N.a,N.x.mono fun z z h=>.inl h,N.x.own,.refl _⟩
theorem Q6.Ë{ns:List Nat}(b:Q6 X sc F G s st ns w s1):jX X sc F (Xs G.n F.lev) G s w st G s1:=⟨b.a,b.x.mono fun z z h=>.inr h,fun z z e=>e,b.ê⟩
theorem jX.trans(a:jX X sc F Y G s w Zo G1 s1)(b:jX X sc (F.w w) Y G1 s1 w2 Zu G2 s2):jX X sc F Y G s w2 Zu G2 s2:=⟨b.a,a.x.trans b.x,fun x c e=>b.own x c (a.own x c e),a.ê.trans b.ê⟩
theorem jX.mono(a:jX X sc F Y G s w Zo G1 s1)(h:∀m k,Y m k->Z m k):jX X sc F Z G s w Zo G1 s1:=⟨a.a,a.x.mono h,a.own,a.ê⟩
theorem jX.ē(a:jX X sc F Y G s w Zo G1 s1):jX X sc F Y G s (aA F.vars w) Zo G1 s1:=⟨⟨a.a.R,a.a.E.weaken fun z z=>qY a.ê,a.a.rm,a.a.lv,a.a.ZK⟩,a.x,a.own,j8 _⟩
theorem fj.imp{F':Fr}{r:R3}(h:fj X sc F Y G s Q r)(hN:∀w st G' s',jX X sc F' Z G1 s1 w st G' s'->jX X sc F Y G s w st G' s')(hR:∀G' s',cB Z G1 s1 G' s'->cB Y G s G' s'):fj X sc F' Z G1 s1 Q r:=by
 obtain⟨f,w,st⟩:=r;cases f with
|ret p=>exact fun G' s' v k=>h G' s' v ⟨k.R,hR _ _ k.x,k.v,k.nl⟩
|_=>exact fun G' s' k=>h G' s' (hN _ _ _ _ k)
theorem fj.step{r:R3}(h:fj X sc F Y G s Q r)(N:jX X sc F Y G s w Zo G1 s1):fj X sc (F.w w) Y G1 s1 Q r:=h.imp (fun z z z z k=>N.trans k) fun z z k=>N.x.trans k
theorem fj.go{r:R3}(h:fj X sc F (Xs G.n F.lev) G s Q r)(N:jX X sc F (Xs G.n F.lev) G s w Zo G1 s1):fj X sc (F.w w) (Xs G1.n F.lev) G1 s1 Q r:=N.x.n▸h.step N
theorem wn{m:Stmt}{fl:Fl}{f:Flow}(he:∀env,∃p,exec m env=(do standAt p;pure f))(hf:(fl=.next∧f=.next)∨(fl=.brk∧f=.brk)∨(fl=.cont∧f=.cont)):SS X sc m (xM fl):=fun{F G s st Q} a O H=>by obtain⟨p,e⟩:=he F.env;rw[e];refine X9 (Y8 (Yb ?_));rcases hf with⟨rfl,rfl⟩|⟨rfl,rfl⟩|⟨rfl,rfl⟩<;>exact H _ _ (fg.refl a).Ë
theorem Mw{m:Stmt}:SS X sc m Ĭ:=fun z z H=>H.elim
theorem Ey{env:Env}(h:env.scope.kind=.function):interactive env=false:=by unfold interactive;rw[h];rfl
noncomputable def jr:Expr->Bool
|.ListComp .. =>true
|.SetComp .. =>true
|.DictComp .. =>true
|z=>false
theorem jw{e:Expr}(h:jr e=false)(t:Option Expr)(l:Nat)(env:Env):swapsWith e t l env=pure false:=by cases e<;>first|rfl|injection h
theorem AY{e:Expr}{p:Pos}{ie:DE}(hc:jr e=false)(S:SE X sc e ie):SS X sc (.Expr e p) (Ia ie):=fun a O H=>
 PySem.wpAny_Expr_any (S.then (.refl a) H fun x G1 v s1 N1 z z H=>H _ _ N1.Ë) (Ey a.E.kind) (jw hc _ _ _)
theorem FK{e:Expr}{p:Pos}{ie:DE}(S:SE X sc e ie):SS X sc (.Return (some e) p) (KC ie):=fun a O H=>
 PySem.wpAny_Return_some (S.then (.refl a) H fun x G1 v s1 N1 z V1 H=>by obtain⟨r,H,nl,_,G2,R2,X2,V2⟩:=BR N1.a.R V1 (ab H);exact H _ _ _ ⟨R2,(N1.trans (N1.a.ZV R2 X2)).x.mono fun z z h=>.inl h,V2,nl⟩)
theorem DR{p:Pos}:SS X sc (.Return none p) (KC (yD .none)):=fun a O H=>PySem.wpAny_Return_none (H _ _ _ ⟨a.R,Ex.refl _ _ _ _,gP,rfl⟩)
theorem Bj{t:Expr}{b o:List Stmt}{p:Pos}{it:DT}{ib io:DS}(St:ST X sc t it)(Sb:u6 X sc b ib)(So:u6 X sc o io):SS X sc (.If t b o p) (R8 it ib io):=fun a O H=>
 PySem.wpAny_If (St.then (.refl a) H fun c Zo G1 s1 N1 H=>by
  cases c with
  |true=>exact Sb N1.a (O.own N1.x.own) (H.mono fun r h=>fj.go (w:=_) h N1.Ë)
  |false=>exact So N1.a (O.own N1.x.own) (H.mono fun r h=>fj.go (w:=_) h N1.Ë))
theorem FH:u6 X sc [] (m8 []):=fun a O H=>wpAny_execs_nil (H _ _ (fg.refl a).Ë)
theorem si{m:Stmt}{i:DS}{ms:List Stmt}{is:List DS}(S:SS X sc m i)(Ss:u6 X sc ms (m8 is)):u6 X sc (m::ms) (m8 (i::is)):=fun a O H=>
 wpAny_execs_cons (S a O ((ab H).mono fun⟨f,w,Zo⟩ H=>by
  cases f with
  |next=>exact fun G1 s1 N=>Ss (F:=Fr.w _ w) N.a (O.own N.own) (H.mono fun r h=>fj.go h N)
  |_=>exact H))
theorem Gc{b:List Stmt}{hs:List ExceptHandler}{p:Pos}{ib:DS}(Sb:u6 X sc b ib):SS X sc (.Try b hs [] [] p) ib:=fun{F G s st Q} a O H=>by
 rw[arm_exec_Try];refine X9 (Y8 ?_);unfold tryStmt;refine X9 (wpAny_attempt (YE (Sb a O H) (fun f s1 h=>?_) fun z z x=>x.elim));cases f with
|next=>exact wpAny_execs_nil h
|_=>exact Yb h
theorem yS{t:Expr}{b:List Stmt}{p:Pos}{it:DT}{ib:DS}(St:ST X sc t it)(Sb:u6 X sc b ib):SS X sc (.While t b [] p) (zK it ib):=fun{F G s st Q} a O H=>by
 refine PySem.wpAny_While (codeAny_mono (codeAny_whileLoop (R:=fun r s'=>∃f,r=.ok f∧Q f s')
  (fun k s1=>∃G1 Zo w,jX X sc F (Xs G.n F.lev) G s w Zo G1 s1∧aL (aT (fun vs s=>it X.C vs s) (fun vs s=>ib X.C vs s) k w Zo) (fj X sc F (Xs G.n F.lev) G s Q)) ?_ aS
  ⟨G,st,F.vars,(fg.refl a).Ë,H⟩) fun r s' Zg=>by obtain⟨f,e,h⟩:=Zg;exact e▸h)
 rintro k s1 ⟨G1,Zo,w,N,H⟩;cases k with
|zero=>exact H.elim
|succ k=>
  refine dA (St.then (F:=F.w w) (.refl N.a) H fun c Zu G2 s2 N2 H=>?_);have N2:=N.trans (N.x.n▸N2.Ë);cases c with
  |false=>exact wpAny_execs_nil ⟨_,rfl,H _ _ N2⟩
  |true=>
   refine dA (Sb (F:=F.w w) N2.a (O.own N2.own) ((ab H).mono fun q0 H=>?_));obtain⟨f,w3,Cm⟩:=q0;have go:∀{G3 s3},jX X sc (F.w w) (Xs G2.n F.lev) G2 s2 w3 Cm G3 s3->jX X sc F (Xs G.n F.lev) G s (aA w w3) Cm G3 s3:=fun N3=>N2.trans (N2.x.n▸N3.ē)
   cases f with
   |next=>exact fun G3 s3 N3=>⟨k,Yq k,G3,Cm,_,go N3,H⟩
   |cont=>exact fun G3 s3 N3=>⟨k,Yq k,G3,Cm,_,go N3,H⟩
   |brk=>exact fun G3 s3 N3=>⟨_,rfl,H _ _ (go N3)⟩
   |ret p=>exact fun G3 s3 v N3=>⟨_,rfl,H _ _ _ ⟨N3.R,N2.x.trans (N2.x.n▸N3.x),N3.v,N3.nl⟩⟩
end
section
variable{T:Tp}
theorem nH{t:Expr}{I:Addr}{b:List Stmt}{env:Env}{A:Around}{s:Shared}{R:Result->Shared->Prop}
  (h:W T A (pyNext (.ref I)) (fun r s1=>match r with
   |none=>R (.ok .next) s1
   |some v=>W T A (letOwnedTupleGo t (.ref I) v) (fun z s2=>W T A (assign t env v) (fun z s3=>W T A (execs b env) (fun f s4=>match f with
     |.next|.cont=>codeAny (model T.prog T.w) A (.forLoop t (.ref I) b [] env) R s4
     |.brk=>R (.ok .next) s4
     |.ret v=>R (.ok (.ret v)) s4) s3) s2) s1) s):
  codeAny (model T.prog T.w) A (.forLoop t (.ref I) b [] env) R s:=by
 refine codeAny_of_tree ?_;show wpAny _ A ((forTurn t (.ref I) b [] env).onRaise (fun x=>do noteFrame x env;theTreesLotGoes x)) _ _ s;refine wpAny_onRaise (dA ?_);unfold forTurn;refine X9 (Y8 (X9 (wpAny_onRaise (dA (YE h (fun r s1 h1=>?_) fun z z x=>x)))));cases r with
|none=>exact Yb ⟨rfl,codeAny_block (wpAny_execs_nil h1)⟩
|some v=>refine X9 (YE h1 (fun z s2 h2=>X9 (YE h2 (fun z s3 h3=>X9 (YE h3 (fun f s4 h4=>?_) fun z z x=>x)) fun z z x=>x)) fun z z x=>x);cases f<;>first|exact Yb ⟨rfl,h4⟩|exact Yb h4
end
section
variable{X:Sx}{sc:Scope}
theorem uV{t:Expr}{b:List Stmt}{p:DP}{ns:List Nat}{ib:DS}(Bt:lj sc [t] [p] ns)(Sb:u6 X sc b ib){items:List PV}{I:Addr}{wr:List Addr}{R:Result->Shared->Prop}{n:Nat}:
  ∀(k j:Nat) {F:Fr}{G:Gh}{s:Shared}{st:St},items.length-j=k->j≤items.length->At X sc F G s st->G.n=n->dY G F.env F.lev sc->It X.T F.A t G s.heap I wr items j->
  aL (au (fun x vs s=>(p x vs).bind fun vs=>ib X.C vs s) (items.drop j) F.vars st) (fj X sc F (XL n F.lev wr) G s (fun f s'=>R (.ok f) s'))->
  codeAny (model X.T.prog X.T.w) F.A (.forLoop t (.ref I) b [] F.env) R s:=by
 intro k;induction k with
|zero=>
  intro j F G s st hk hj a hn O It H;refine nH (It.next a.R (fun p v s1 e=>?_) (fun G' s1 z R1 X1=>?_) hj)
  ·have:=(XO.mp e).1;exact absurd this (Yn.mpr (Nat.sub_eq_zero_iff_le.mp hk))
  ·rw[List.drop_eq_nil_of_le (Nat.sub_eq_zero_iff_le.mp hk)] at H;exact H G' s1 ⟨a.Ö mS R1 X1,hn▸X1.mono (CI fun b hb=>hb),fun x c e=>(X1.fr c _ _ e (mS (lev:=F.lev) _ _ (Xx _)).2).2,.refl _⟩
|succ k ih=>
  intro j F G s st hk hj a hn O It H;have Z5:j<items.length:=Nat.lt_of_sub_eq_succ hk;refine nH (It.next a.R (fun q v s1 hq w=>w.mono fun z s2 ⟨R2,X2,Ι,hv⟩=>?_) (fun G' s1 e z z=>absurd Z5 (Yn.mpr e)) hj);rw[List.drop_eq_getElem_cons Z5,show items[j]=q from Xn ((XK Z5).symm.trans hq)] at H;have a2:=a.Ö mS R2 X2;have N2:jX X sc F (XL n F.lev wr) G s F.vars st G s2:=⟨a2,hn▸X2.mono (CI fun b hb=>hb),fun x c e=>e,.refl _⟩
  refine(mJ Bt a2 O (ab (ab H)) hv).mono fun z s3 q0=>?_
  obtain⟨w,H,b3⟩:=q0;have N3:=N2.trans ((hn▸b3.Ë:jX X sc F (Xs n F.lev) G s2 w st G s3).mono fun z z h=>.inl h);have It3:=Ι.ext (fun b z=>sb) b3.x;refine Sb (F:=F.w w) b3.a O (H.mono fun q0 H=>?_);obtain⟨f,w4,Ţ⟩:=q0;have mv:∀{G4 s4},jX X sc (F.w w) (Xs G.n F.lev) G s3 w4 Ţ G4 s4->jX X sc F (XL n F.lev wr) G s (aA F.vars w4) Ţ G4 s4:=fun N4=>(N3.trans (N4.mono fun z z h=>.inl (hn▸h))).ē
  have go:∀{G4 s4},jX X sc (F.w w) (Xs G.n F.lev) G s3 w4 Ţ G4 s4->aL (au (fun x vs s=>(p x vs).bind fun vs=>ib X.C vs s) (items.drop (j+1)) (aA F.vars w4) Ţ) (fj X sc F (XL n F.lev wr) G s (fun f s'=>R (.ok f) s'))->
    codeAny (model X.T.prog X.T.w) F.A (.forLoop t (.ref I) b [] F.env) R s4:=fun N4 H=>
   ih (j+1) (F:=F.w (aA F.vars w4)) (by rw[Nat.sub_add_eq,hk];rfl) Z5 (mv N4).a ((mv N4).x.n.trans hn) (O.own (mv N4).own) (It3.ext (fun b z h=>h.elim (fun Zg=>by obtain⟨_,i,d,e⟩:=Zg;exact nomatch e) fun h=>sb h) N4.x) (H.mono fun r h=>fj.step h (mv N4))
  cases f with
  |next=>exact fun G4 s4 N4=>go N4 H
  |cont=>exact fun G4 s4 N4=>go N4 H
  |brk=>exact fun G4 s4 N4=>H _ _ (mv N4)
  |ret q=>exact fun G4 s4 v N4=>H _ _ _ ⟨N4.R,N3.x.trans (N4.x.mono fun z z h=>.inl (hn▸h)),N4.v,N4.nl⟩
theorem Ej{t e:Expr}{b:List Stmt}{ps:Pos}{p:DP}{ns:List Nat}{tp:Bool}{iit:DI}{ib:DS}(Bt:lj sc [t] [p] ns)(hp:tp=true->gi t)(Si:SI X sc e tp iit)(ZI:∀env x,foldedSetIterable e env x=pure x)(Sb:u6 X sc b ib):
  SS X sc (.For t e b [] ps) (OF p iit ib):=fun{F G s st Q} a O H=>by
 refine PySem.wpAny_For (Si hp a (Q:=fun ü s1=>codeAny (model X.T.prog X.T.w) F.A (.forLoop t ü b [] F.env) (fun r s'=>match r with
  |.ok f=>Q f s'
  |.error x=>cameBackBy (model X.T.prog X.T.w) F.A F.env no x s') s1) ((ab H).mono fun y H G1 s1 G2 s2 I wr q=>?_)) (ZI F.env)
 let' N2:=q.n1.trans q.n2;refine uV (n:=G.n) Bt Sb y.1.length 0 rfl (Nat.zero_le _) q.n2.a N2.x.n (O.own N2.x.own) q.it ((ab H).mono fun q0 H=>?_);obtain⟨f,w,Cm⟩:=q0;have mv:∀{G3 s3},cB (XL G.n F.lev wr) G2 s2 G3 s3->aG X.T G3 s3 Cm->∃lk',aG X.T {G3 with lk:=lk'} s3 (aO Cm y.2.1)∧cB (Xs G.n F.lev) G s {G3 with lk:=lk'} s3:=fun{G3 s3} x R3=>by let' Ğ:cB (Xs G.n F.lev) G1 s1 G3 s3:=Ex.forget q.n1.a.R q.new (n:=G.n) ((q.n2.x.mono fun m k h=>.inl (.inl ((q.n1.x.n:G1.n=G.n)▸h))).trans x);exact ls R3 (Ğ.lat.la rfl) Ğ.lat.ga ((q.n1.x.mono fun z z h=>.inl h).trans Ğ) q.lk
 let' nx:∀{G3 s3},jX X sc F (XL G.n F.lev wr) G2 s2 w Cm G3 s3->∃G',jX X sc F (Xs G.n F.lev) G s w (aO Cm y.2.1) G' s3:=(fun N3=>by obtain⟨lk',R4,X4⟩:=mv N3.x N3.a.R;exact⟨_,N3.a.Ν R4,X4,fun x c e=>N3.own x c (N2.x.own x c e),N3.ê⟩)
 cases f with
|next=>exact fun G3 s3 N3=>by obtain⟨G',N⟩:=nx N3;exact H G' s3 N
|brk=>exact fun G3 s3 N3=>by obtain⟨G',N⟩:=nx N3;exact H G' s3 N
|cont=>exact fun G3 s3 N3=>by obtain⟨G',N⟩:=nx N3;exact H G' s3 N
|ret p=>exact fun G3 s3 v N3=>by obtain⟨lk',R4,X4⟩:=mv N3.x N3.R;exact H _ s3 v ⟨R4,X4,N3.v.lat (wv _ _ lk'),N3.nl⟩
end
section
variable{X:Sx}{sc:Scope}{F:Fr}{G G1 G2:Gh}{s s1 s2:Shared}{st Zo Zu:St}
theorem Kv{T:Tp}{o:Operator}{A:Around}{a b c:Int}{t u:Tok}(h:Ox o=true)(ho:xF o a b=some c):W T A (inplaceOp o (.int a t) (.int b u)) (PG T G s (.int c)) s:=by
 cases o<;>first|injection h|skip
 ·obtain rfl:=Xn ho;exact AutoIntOps.iadd_0 (.here _ (cM _ _ _))
 ·obtain rfl:=Xn ho;exact AutoIntOps.isub_0 (.here _ (cM _ _ _))
theorem CZ{o:Operator}{p q:PV}{v u:Value}{K:PV->Prop}(N:fg X sc F G s G1 s1 Zo)(hv:V X.T G1 s1.heap p v)(hu:V X.T G1 s1.heap q u)(H:aL (KJ o p q) K){Q:Value->Shared->Prop}
  (k:∀r G2 w s2,K r->fg X sc F G s G2 s2 Zo->jz G1 s1.heap G2 s2.heap->V X.T G2 s2.heap r w->Q w s2):wp X F (inplaceOp o v u) Q s1:=by
 obtain⟨i,t,rfl,H⟩:=bG hv (ab H);obtain⟨j,t',rfl,H⟩:=bG hu (ab H);obtain⟨ha,H⟩:=aF H;obtain⟨c,hc,H⟩:=(ab H).get;refine(Kv (G:=G1) ha hc).mono fun w s2 y=>?_
 obtain⟨G2,R2,X2,V2⟩:=y.pe N.a.R;exact k _ G2 w s2 H (N.trans (N.a.ZV R2 X2)) X2.lat V2
theorem CA{x:Str}{np pos:Pos}{e:Expr}{o:Operator}{k:Nat}{ie:DE}(hx:sc.names.lookup x=some .local∨sc.names.lookup x=some .cell)(hk:enc x=some k)(hn:bj x=true)(S:SE X sc e ie):SS X sc (.AugAssign (.Name x np) o e pos) (Ij k o ie):=fun{F G s st Q} a O H=>by
 obtain⟨p,hp,H⟩:=(ab H).get;obtain⟨hd,-⟩:=bz hk;have Ï:=hx;subst hd;have ld:∀{v:Value},V X.T G s.heap p v->wp X F (eval e F.env) (fun w s2=>wp X F (inplaceOp o v w) (fun r s3=>wp X F (storeName F.env (dec k) r) (fun z s4=>Q .next s4) s3) s2) s:=fun{v} hv=>
  S.then (.refl a) H fun y G1 w s1 N1 L V1 H=>CZ N1 (hv.lat L) V1 (ab H) fun r G2 w s2 H N2 z V2=>
   (kq N2.a (O.own N2.x.own) Ï hk V2).mono fun z s3 Zg=>by obtain⟨a3,x3⟩:=Zg;exact H _ s3 (N2.Ë.trans ⟨a3,x3.mono fun z z h=>.inr h,fun z z e=>e,sZ.set _ _ _⟩)
 refine PySem.wpAny_AugAssign_Name ?_;rcases hx with e|e
 ·have ZW:=(b6 a.ZK (by rw[e];nofun)).trans e;obtain⟨m,h1,h2,h3⟩:=a.E.loc;obtain⟨v,h4,h5⟩:=h3 k p hp ZW;exact wpAny_loadName_local a.E.kind ZW h1 h4 (ld h5)
 ·have ZW:F.env.kindOf (dec k)=some .cell:=(b6 a.ZK (by rw[e];nofun)).trans e;obtain⟨c,v,h1,h2,h3⟩:=a.E.cell k p hp (.inl ZW);exact wpAny_loadName_cell a.E.kind ZW h1 h2 (ld h3)
theorem PU.fin{K:St->Prop}(N:fg X sc F G s G1 s1 Zo){Q:Shared->Prop}(k:∀st' G' s',K st'->fg X sc F G s G' s' st'->jz G1 s1.heap G' s'.heap->Q s'){s2:Shared}(x:PU X.T G1 s1 K () s2):Q s2:=
 by obtain⟨st',h,G',R',X'⟩:=x;exact k st' G' s2 h (N.trans (N.a.ZV R' X')) X'.lat
theorem A9(O':Ok X){ob':Expr}{a':Str}{ap pos:Pos}{e:Expr}{o:Operator}{k:Nat}{io ie:DE}(ha:enc a'=some k)(Õ:k∈X.T.atts)(So:SE X sc ob' io)(S:SE X sc e ie):
  SS X sc (.AugAssign (.Attribute ob' a' ap) o e pos) (Iy io k o ie):=fun{F G s st Q} a O H=>by
 obtain⟨hd,Ē⟩:=bz ha;subst hd;refine PySem.wpAny_AugAssign_AttributeAny (So.then (.refl a) H fun x G1 u s1 N1 v V1 H=>?_);obtain⟨y,hi,H⟩:=wI N1.a.R V1 (ab H);obtain⟨hm,H⟩:=aF H;obtain⟨q,hq,H⟩:=(ab H).get;refine(xa O'.B N1.a.R hi Õ ((O'.O.M _ _).symm.trans (Yu.mp hm)) hq).mono fun w s2 z=>?_
 obtain⟨G2,R2,X2,V2⟩:=z.pe N1.a.R;refine S.then (N1.trans (N1.a.ZV R2 X2)) H fun b G3 w s3 N3 L3 V3 H=>CZ N3 (V2.lat L3) V3 (ab H) fun r G4 w s4 H N4 L4 V4=>?_
 exact(jx O'.B N4.a.R Õ O'.O.M Ē ((V1.lat X2.lat).lat (L3.trans L4)) V4 (ab H)).mono fun v s5 z=>z.fin N4 fun st' G' s' H N v=>H _ _ N.Ë
theorem ip{t e:Expr}{pos:Pos}{Q:Flow->Shared->Prop}(hA:(assignEach [t] F.env).map (·.2)=[fun v=>assign t F.env v])(hsw:swapsWith e (some t) pos.line F.env=pure false)(hss:swappedStores [t] e F.env=pure none)
  (h:wp X F (eval e F.env) (fun v s1=>wp X F (assign t F.env v) (fun z s2=>Q .next s2) s1) s):wp X F (exec (.Assign [t] e pos) F.env) Q s:=by
 unfold wp W at h ⊢;rw[arm_exec_Assign];refine X9 (Y8 (X9 (m:=swapsWithSole [t] e pos.line F.env) (Zc hsw ?_)));rw[Yg (by decide)];refine X9 (YE h (fun v s1 h1=>X9 (Zc hss ?_)) fun z z x=>x);exact(hA)▸X9 (YE h1 (fun z s2 h2=>Yb h2) fun z z x=>x)
theorem xE:(o:Option PySem.Scope)->swapsWith.match_6 (fun z=>Sem Bool) o (fun z=>pure false) (fun z=>pure false)=pure false
|none=>rfl
|some _=>rfl
theorem BH(O':Ok X){o:Expr}{a':Str}{ap pos:Pos}{e:Expr}{k:Nat}{io ie:DE}(ha:enc a'=some k)(Õ:k∈X.T.atts)(So:SE X sc o io)(S:SE X sc e ie):
  SS X sc (.Assign [.Attribute o a' ap] e pos) (IW io k ie):=fun{F G s st Q} a O H=>by
 obtain⟨hd,Ē⟩:=bz ha;subst hd;refine ip rfl (xE _) rfl (S.then (.refl a) H fun x G1 u s1 N1 v V1 H=>?_);rw[assign_Attribute];refine X9 (YD (So.then N1 H fun y G2 w s2 N2 L V2 H=>?_));exact X9 (Y8 (X9 (YD ((jx O'.B N2.a.R Õ O'.O.M Ē V2 (V1.lat L) (ab H)).mono fun v s3 z=>wpAny_release (z.fin N2 fun st' G' s' H N v=>H _ _ N.Ë)))))
theorem DA{o i:Expr}{ap pos:Pos}{e:Expr}{io ii ie:DE}(So:SE X sc o io)(Si:SE X sc i ii)(S:SE X sc e ie):SS X sc (.Assign [.Subscript o i ap] e pos) (HZ io ii ie):=fun{F G s st Q} a O H=>
 PySem.wpAny_Assign_Subscript (S.then (.refl a) H fun x G1 u s1 N1 v V1 H=>So.then N1 H fun y G2 w s2 N2 L2 V2 H=>Si.then N2 H fun z G3 w s3 N3 L3 V3 H=>
  (yf a.rm N3.a.R (V2.lat L3) V3 (V1.lat (L2.trans L3)) (ab H)).mono fun v s3 z=>z.fin N3 fun st' G' s' H N v=>H _ _ N.Ë) (xE _)
class inductive IV(X:Sx)(sc:Scope):List Expr->List (DE×Nat)->Prop
|nil:IV X sc [] []
|cons {o a p io k ts ZO}:SE X sc o io->enc a=some k->k∈X.T.atts->IV X sc ts ZO->IV X sc (.Attribute o a p::ts) ((io,k)::ZO)
theorem IV.each{ts:List Expr}{ZO:List (DE×Nat)}(b:IV X sc ts ZO)(env:Env):(assignEach ts env).length=ZO.length∧(assignEach ts env).findIdx? (·.1)=none∧(assignEach ts env).map (·.2)=ts.map fun t=>assign t env:=by
 induction b with
|nil=>exact⟨rfl,rfl,rfl⟩
| @cons o a p io k ts ZO _ _ _ _ ih=>obtain⟨h1,h2,h3⟩:=ih;refine(?_:((false,assign (.Attribute o a p) env)::assignEach ts env).length=_∧((false,assign (.Attribute o a p) env)::assignEach ts env).findIdx? (·.1)=none∧((false,assign (.Attribute o a p) env)::assignEach ts env).map (·.2)=_);exact⟨YH (·+1) h1,by rw[List.findIdx?_cons,h2];rfl,YH (_:: ·) h3⟩
theorem qM{ZO:List (DE×Nat)}{l:List PV}{C:Zn}{vars:YA}{st:St}{K:St->Prop}(H:aL (jR ZO C l vars st) K):ZO.length=l.length:=by
 induction ZO generalizing l st with
|nil=>cases l with|nil=>rfl|cons _ _=>exact H.elim
|cons t ZO ih=>
  cases l with
  |nil=>exact H.elim
  |cons v l=>obtain⟨x,_,H⟩:=(ab H).get;obtain⟨y,_,H⟩:=(ab H).get;exact YH (·+1) (ih H)
theorem BM(O':Ok X){ts:List Expr}{ZO:List (DE×Nat)}(b:IV X sc ts ZO):∀{G1:Gh}{s1:Shared}{Zo:St}{l:List PV}{vs:List Value}{K:St->Prop}{Q:Shared->Prop},fg X sc F G s G1 s1 Zo->
  aL (jR ZO X.C l F.vars Zo) K->Vs X.T G1 s1.heap l vs->(∀st' G' s',K st'->fg X sc F G s G' s' st'->Q s')->wp X F (assignInOrder (ts.map fun t=>assign t F.env) vs) (fun x s'=>Q s') s1:=by
 induction b with
|nil=>
  intro G1 s1 Zo l vs K Q N H hv k;cases l with
  |nil=>exact Yb (k _ _ _ H N)
  |cons _ _=>exact H.elim
| @cons o a p io k ts ZO So ha Õ _ ih=>
  intro G1 s1 Zo l vs K Q N H hv k';cases l with
  |nil=>exact H.elim
  |cons q l=>obtain⟨v,r,rfl,Ξ,Ο⟩:=hv;obtain⟨hd,Ē⟩:=bz ha;subst hd;refine X9 (YD ?_);refine(?_:wpAny _ F.A (assign (.Attribute o (dec k) p) F.env v) _ _ _);rw[assign_Attribute];refine X9 (YD (So.then N H fun y G2 w s2 N2 L V2 H=>?_));exact X9 (Y8 (X9 (YD ((jx O'.B N2.a.R Õ O'.O.M Ē V2 (Ξ.lat L) (ab H)).mono fun x s3 z=>wpAny_release (z.fin N2 fun st' G' s' H N L'=>ih N H (Ο.lat (L.trans L')) k')))))
noncomputable def gQ:List Expr->Option (List Str)
|[]=>some []
|t::r=>match t with
  |.Name x _=>(gQ r).map (x:: ·)
  |z=>none
def zR(ts vs:List Expr):Bool:=(vs.all (foldedForSure 8)|| !vs.all (constantsAlone 8))&&(match gQ ts with|some l=>decide l.Nodup|none=>true)
def rn(t e:Expr):Bool:=match t with
|.Tuple ts _ _=>match e with
  |.Tuple vs _ _=>zR ts vs
  |z=>true
|z=>true
class inductive Al(sc:Scope):List Str->YA->Prop
|nil:Al sc [] []
|cons {x k q xs ys}:(sc.names.lookup x=some .local∨sc.names.lookup x=some .cell)->enc x=some k->Al sc xs ys->Al sc (x::xs) ((k,q)::ys)
def ub(v ys:YA):YA:=ys.foldl (fun v y=>dK v y.1 y.2) v
theorem oj{k:Nat}{ys:YA}:∀{v:YA},k∉ys.map (·.1)->aQ (ub v ys) k=aQ v k:=by
 induction ys with
|nil=>intro v _;exact rfl
|cons q0 r ih=>obtain⟨a,b⟩:=q0;intro v h;rw[XM,Xo,not_or] at h;exact(ih h.2).trans ((eu a k b v).trans (Yg h.1))
theorem qW{k:Nat}{q:PV}{ys:YA}:∀{v:YA},(ys.map (·.1)).Nodup->(k,q)∈ys->aQ (ub v ys) k=some q:=by
 induction ys with
|nil=>intro v _ h;exact nomatch h
|cons q0 r ih=>
  obtain⟨a,b⟩:=q0;intro v hn h;rw[XM,YS] at hn;rcases Xo.mp h with h|h
  ·injection h with h1 h2;subst h1 h2
   exact(oj (ys:=r) (v:=dK v k q) hn.1).trans ((eu k k q v).trans (Yh rfl))
  ·exact ih hn.2 h
theorem B4{ys v:YA}(hn:(ys.map (·.1)).Nodup){k:Nat}{q:PV}(h:aQ (ub v ys) k=some q):aQ (ub v ys.reverse) k=some q:=by
 by_cases hk:k∈ys.map (·.1)
 ·obtain⟨y,hy,rfl⟩:=Yt.mp hk;rw[qW hn hy] at h;obtain rfl:=Xn h;exact qW (by exact(List.map_reverse)▸List.pairwise_reverse.mpr (hn.imp fun h=>Ne.symm h)) (List.mem_reverse.mpr hy)
 ·rw[oj hk] at h;rw[oj (by rw[List.map_reverse,List.mem_reverse];exact hk)];exact h
theorem A8{ys:YA}:∀{v:YA},sZ v (ub v ys):=by
 induction ys with
|nil=>intro v;exact .refl _
|cons q0 r ih=>obtain⟨a,b⟩:=q0;intro v;exact(sZ.set v a b).trans (ih)
theorem Al.app{xs Ρ:List Str}{ys ys':YA}(a:Al sc xs ys)(b:Al sc Ρ ys'):Al sc (xs++Ρ) (ys++ys'):=by
 induction a with
|nil=>exact b
|cons h1 h2 _ ih=>exact .cons h1 h2 ih
theorem Al.rev{xs:List Str}{ys:YA}(a:Al sc xs ys):Al sc xs.reverse ys.reverse:=by
 induction a with
|nil=>exact .nil
|cons h1 h2 _ ih=>rw[List.reverse_cons,List.reverse_cons];exact ih.app (.cons h1 h2 .nil)
theorem Al.mem{xs:List Str}{ys:YA}(a:Al sc xs ys):xs.length=ys.length∧∀k∈ys.map (·.1),∃x∈xs,enc x=some k:=by
 induction a with
|nil=>exact⟨rfl,nofun⟩
|cons h1 h2 _ ih=>exact⟨YH (·+1) ih.1,fun k h=>(Xo.mp h).elim (fun h=>⟨_,Xy,h▸h2⟩) fun h=>by obtain⟨x,a,b⟩:=ih.2 k h;exact⟨x,XB _ a,b⟩⟩
theorem Al.nodup{xs:List Str}{ys:YA}(a:Al sc xs ys)(h:xs.Nodup):(ys.map (·.1)).Nodup:=by
 induction a with
|nil=>exact List.nodup_nil
|cons h1 h2 a ih=>rw[YS] at h;rw[XM,YS];refine⟨fun hk=>?_,ih h.2⟩;obtain⟨x,hx,e⟩:=a.mem.2 _ hk;rw[(bz e).1.symm.trans (bz h2).1] at hx;exact h.1 hx
theorem Nh{ts:List Expr}{ps:List DP}{ns:List Nat}(b:lj sc ts ps ns):∀{xs:List Str}{l:List PV}{v:YA}{K:YA->Prop},gQ ts=some xs->aL (mf ps l v) K->∃ys,Al sc xs ys∧ys.map (·.2)=l∧K (ub v ys):=by
 induction b with
|nil=>
  intro xs l v K h1 h2;obtain rfl:=Xn h1;cases l with
  |nil=>exact⟨[],.nil,rfl,h2⟩
  |cons _ _=>exact h2.elim
| @name x pos k ts ps ns hx hk _ ih=>
  intro xs l v K h1 h2;cases l with
  |nil=>exact h2.elim
  |cons q l=>obtain⟨Ρ,e1,e2⟩:=XN.mp (show(gQ ts).map (x:: ·)=some xs from h1);subst e2;obtain⟨ys,a,b,c⟩:=ih e1 (show aL (mf ps l (dK v k q)) K from h2);exact⟨(k,q)::ys,.cons hx hk a,YH (q:: ·) b,c⟩
|tup _ _ _ _=>intro xs l v K h1 _;exact nomatch h1
theorem yi{xs:List Str}{ys:YA}(al:Al sc xs ys):∀{F:Fr}{G:Gh}{s:Shared}{st:St}{vs:List Value}{Q:Shared->Prop},At X sc F G s st->dY G F.env F.lev sc->
  Vs X.T G s.heap (ys.map (·.2)) vs->(∀s',At X sc (F.w (ub F.vars ys)) G s' st->cB (Xf F.lev) G s G s'->Q s')->wp X F (assignInOrder (xs.map fun x=>bindName F.env x) vs) (fun z s'=>Q s') s:=by
 induction al with
|nil=>intro F G s st vs Q a O hv k;obtain rfl:=hv;exact Yb (k _ a (Ex.refl _ _ _ _))
| @cons x k q xs ys hx hk _ ih=>intro F G s st vs Q a O hv kk;obtain⟨v,r,rfl,Ξ,Ο⟩:=hv;exact X9 (YD (wpAny_bindName ((kq a O hx hk Ξ).mono fun z s1 Zg=>by obtain⟨a1,x1⟩:=Zg;exact ih (F:=F.w (dK F.vars k q)) a1 O (Ο.lat x1.lat) fun s' a2 x2=>kk s' a2 (x1.trans x2))))
theorem Ct{f:Expr->Option Str}(hf:∀t x,f t=some x->∃p,t=.Name x p){ts:List Expr}:(ts.filterMap f).length=ts.length->gQ ts=some (ts.filterMap f):=by
 induction ts with
|nil=>intro _;exact rfl
|cons t r ih=>
  intro h;cases e:f t with
  |none=>rw[List.filterMap_cons_none e] at h;have:=List.length_filterMap_le f r;rw[h,XG] at this;exact absurd this (Nat.not_succ_le_self _)
  |some x=>rw[List.filterMap_cons_some e,XG,XG] at h;rw[List.filterMap_cons_some e];obtain⟨p,rfl⟩:=hf t x e;refine(?_:(gQ r).map _=_);rw[ih (Nat.succ.inj h)];rfl
theorem mc{ts:List Expr}{c:Nat}{p:Pos}{e:Expr}{env:Env}(h:∀vs c' p',e≠.Tuple vs c' p'):swappedStores [.Tuple ts c p] e env=pure none:=by cases e<;>first|rfl|exact(h _ _ _ rfl).elim
theorem A0{c:Prop}[Decidable c]{α:Type}{a b:α}(h:(if c then some a else none)=some b):a=b:=by
 by_cases q:c
 ·rw[Yh q] at h;exact Xn h
 ·rw[Yg q] at h;injection h
theorem l5{ts vs:List Expr}{c c':Nat}{p p':Pos}{env:Env}(h:zR ts vs=true):swappedStores [.Tuple ts c p] (.Tuple vs c' p') env=pure none∨
  ∃l,gQ ts=some l∧l.Nodup∧l.length=ts.length∧swappedStores [.Tuple ts c p] (.Tuple vs c' p') env=pure (some l):=by
 generalize hx:swappedStores [.Tuple ts c p] (.Tuple vs c' p') env=x;unfold swappedStores at hx;dsimp only at hx;obtain⟨ha,hb⟩:=az h;split at hx
 ·exact .inl hx.symm
 split at hx
 ·exact .inl hx.symm
 split at hx
 ·exact .inl hx.symm
 rename_i h3;split at hx
 ·exact .inl hx.symm
 rename_i h4;rw[Yg (fun e=>by rw[e] at ha;exact h4 (((Bool.or_eq_true _ _).mp ha).resolve_right (by decide)))] at hx
 right
 rw[Bool.or_eq_true,not_or,bne_iff_ne,Decidable.not_not] at h3;have e:=Ct (fun t x hh=>by
  cases t with
  |Name id pos=>obtain rfl:=A0 hh;exact⟨_,rfl⟩
  |_=>injection hh) h3.1
 rw[e] at hb;exact⟨_,e,Ye hb,h3.1,hx.symm⟩
end
def SU(X:Sx)(sc:Scope)(e:Expr)(d:DE):Prop:=
 ∀{F:Fr}{G:Gh}{s:Shared}{st:St}{u:Value->Sem Unit}{Q:Unit->Shared->Prop},At X sc F G s st->aL (d X.C F.vars st) (KB X sc F G s (some u) fun z=>Q ())->wp X F (evalThenUse e F.env u) Q s
section
variable{X:Sx}{sc YT:Scope}{F:Fr}{G G1 G2:Gh}{s s1 s2:Shared}{st Zo Zu:St}
theorem AX{elt t it:Expr}{ZC:DE}{ifs:List Expr}{r:List Comprehension}{p:DP}{ns:List Nat}{iit:DI}{ZH:List DT}{tp:Bool}{icl:List DC}{pos:Pos}{d:DK}
  (Bt:lj YT [t] [p] ns) (hp:tp=true->gi t) (Si:SI X sc it tp iit) (ZI:∀env x,foldedSetIterable it env x=pure x) (hok:qh sc YT) (Ss:vm X YT ifs ZH) (Sr:Ad X YT r icl) (Se:SE X YT elt ZC):
  SE X sc (.ListComp elt (⟨t,it,ifs,0⟩::r) YT pos) (iX d (aU YT) ZC (⟨p,ns,iit,ZH⟩::icl))∧SU X sc (.ListComp elt (⟨t,it,ifs,0⟩::r) YT pos) (iX d (aU YT) ZC (⟨p,ns,iit,ZH⟩::icl)):=by
 refine⟨fun{F G s st Q} a H=>?_,fun{F G s st u Q} a H=>?_⟩
 ·rw[arm_eval_ListComp];exact xg (use:=none) Bt hp Si ZI hok Ss Sr Se a H
 ·rw[arm_evalThenUse_ListComp];exact X9 ((xg (use:=some u) Bt hp Si ZI hok Ss Sr Se a H).mono fun z s' y=>Yb y)
theorem tT(e:Expr)(x:Str)(np:Pos)(l:Nat)(env:Env):swapsWith e (some (.Name x np)) l env=pure false∨(jr e=true∧∃b,swapsWith e (some (.Name x np)) l env=pure b):=by
 by_cases h:jr e=true
 ·exact .inr ⟨h,by cases e<;>first|exact⟨_,rfl⟩|cases h⟩
 ·exact .inl (jw ((Bool.eq_false_iff).mpr h) _ _ _)
theorem rJ{t e:Expr}{p:DP}{ns:List Nat}{pos:Pos}{ie:DE}{Q:Flow->Shared->Prop}(Bt:lj sc [t] [p] ns)(S:SE X sc e ie)(a:At X sc F G s st)(O:dY G F.env F.lev sc)
  (H:aL ((ie X.C F.vars st).bind fun x=>(p x.1 F.vars).bind fun vs=>some (.next,vs,x.2)) (fj X sc F (Xs G.n F.lev) G s Q)) (h1:swapsWith e (some t) pos.line F.env=pure false) (h2:swappedStores [t] e F.env=pure none):wp X F (exec (.Assign [t] e pos) F.env) Q s:=
 ip (Bt.each F.env).3 h1 h2 (S.then (.refl a) H fun x G1 v s1 N1 z V1 H=>(mJ Bt N1.a (O.own N1.x.own) (ab H) (.inl V1)).mono fun z s2 Zg=>by obtain⟨w,H,b⟩:=Zg;exact H G1 s2 (N1.Ë.trans (N1.x.n▸b.Ë)))
theorem v9{ts vs:List Expr}{c c':Nat}{tp p' pos:Pos}{qs:List DP}{ms:List Nat}{ie:DE}{xs:List Str}{Q:Flow->Shared->Prop}(b1:lj sc ts qs ms)(S:SE X sc (.Tuple vs c' p') ie)(a:At X sc F G s st)(O:dY G F.env F.lev sc)
  (H:aL ((ie X.C F.vars st).bind fun x=>(pT qs x.1 F.vars).bind fun vs=>some (.next,vs,x.2)) (fj X sc F (Xs G.n F.lev) G s Q)) (g1:gQ ts=some xs) (g2:xs.Nodup) (h2:swappedStores [.Tuple ts c tp] (.Tuple vs c' p') F.env=pure (some xs)):wp X F (exec (.Assign [.Tuple ts c tp] (.Tuple vs c' p') pos) F.env) Q s:=by
 unfold wp W;rw[arm_exec_Assign];refine X9 (Y8 (X9 (m:=swapsWithSole [.Tuple ts c tp] (.Tuple vs c' p') pos.line F.env) (Zc (show swapsWith (.Tuple vs c' p') (some (.Tuple ts c tp)) pos.line F.env=pure false from jw rfl _ _ _) ?_)));rw[Yg (by decide)];refine X9 (S.then (.refl a) H fun x G1 v s1 N1 z V1 H=>X9 (Zc h2 ?_));obtain⟨l,V1,H⟩:=Aa V1 (ab (ab H));obtain⟨ys,al,rfl,H'⟩:=Nh b1 g1 H;obtain⟨b,rfl,_,items,m,hi,_,hV⟩:=V1;have hsz:xs.length=items.size:=by rw[al.mem.1,<-Yl,hV.length,Xm]
 refine X9 (wpAny_rule (X9 ?_));rw[hsz];refine wpAny_unpackItems_tuple a.rm.1 ⟨_,hi,rfl,_,rfl⟩ fun h' he=>?_
 have k:gn s1.heap h':=fun b o hb=>he b o (Nat.ne_of_lt (Heap.lt_size hb)) hb
 have N2:=N1.trans (N1.a.grow s1.toks k);refine X9 (yi al.rev N2.a (O.own N1.x.own) (by exact(List.map_reverse)▸(hV.lat (Lt.grow _ G1 k)).rev) fun s' a3 x3=>Yb ?_);exact H' _ s' (N2.Ë.trans ⟨⟨a3.R,a3.E.weaken fun y q h=>B4 (al.nodup g2) h,a3.rm,a3.lv,a3.ZK⟩,x3.mono fun z z h=>.inr h,fun z z e=>e,A8⟩)
theorem r6{t e:Expr}{p:DP}{ns:List Nat}{pos:Pos}{ie:DE}(Bt:lj sc [t] [p] ns)(S:SE X sc e ie)(hU:jr e=true->SU X sc e ie)(hok:rn t e=true):SS X sc (.Assign [t] e pos) (GC true p ie):=fun{F G s st Q} a O H=>by
 let' B:=Bt;cases Bt with
| @name x np k _ _ _ hx hk b=>
  cases b;rcases tT e x np pos.line F.env with h1|⟨hc,b,h1⟩
  ·exact rJ B S a O H h1 rfl
  ·cases b with
   |false=>exact rJ B S a O H h1 rfl
   |true=>unfold wp W;rw[arm_exec_Assign];refine X9 (Y8 (X9 (m:=swapsWithSole [.Name x np] e pos.line F.env) (Zc h1 ?_)));rw[Yh rfl];refine X9 (hU hc a ((ab H).mono fun r H G1 s1 v a1 o1 V1=>?_));rw[(B.each F.env).3];exact(mJ B a1 (O.own o1) (ab (aF H).2) (.inl V1)).mono fun z s2 Zg=>by obtain⟨w,H,b⟩:=Zg;exact⟨w,b.a,b.x,fun G' s' a' x' o'=>Yb (H G' s' ⟨a',x',o',b.ê⟩)⟩
| @tup es qs c tp _ _ ms _ b1 b=>
  cases b;let' h1:swapsWith e (some (.Tuple es c tp)) pos.line F.env=pure false:=xE _;by_cases he:∃vs c' p',e=.Tuple vs c' p'
  ·obtain⟨vs,c',p',rfl⟩:=he;rcases l5 (env:=F.env) hok with h2|⟨xs,g1,g2,g3,h2⟩
   ·exact rJ B S a O H h1 h2
   ·exact v9 b1 S a O H g1 g2 h2
  ·exact rJ B S a O H h1 (mc fun vs c' p' h=>he ⟨vs,c',p',h⟩)
theorem BB(O':Ok X){ts:List Expr}{c:Nat}{tp pos:Pos}{e:Expr}{ZO:List (DE×Nat)}{ie:DE}(Bt:IV X sc ts ZO)(Á:ts≠[])(S:SE X sc e ie)(hok:rn (.Tuple ts c tp) e=true):
  SS X sc (.Assign [.Tuple ts c tp] e pos) (HE ZO ie):=fun{F G s st Q} a O H=>by
 have h2:swappedStores [.Tuple ts c tp] e F.env=pure none:=by
  by_cases he:∃vs c' p',e=.Tuple vs c' p'
  ·obtain⟨vs,c',p',rfl⟩:=he;rcases l5 (env:=F.env) hok with h2|⟨xs,g1,_⟩
   ·exact h2
   ·cases Bt with
    |nil=>exact absurd rfl Á
    |cons=>exact nomatch g1
  ·exact mc fun vs c' p' h=>he ⟨vs,c',p',h⟩
 refine ip rfl (xE _) h2 (S.then (.refl a) H fun x G1 v s1 N1 z V1 H=>?_);obtain⟨l,b,vals,H,rfl,ht,hV⟩:=VU.tup (tgt:=e) (.inl V1) (ab H);obtain⟨d1,d2,d3⟩:=Bt.each F.env;refine PySem.wpAny_assign_Tuple a.rm.1 ht (by rw[d1,qM (ab H),<-hV.length,Yl]) d2 fun h' he=>?_
 rw[d3];let' k:gn s1.heap h':=(fun b o hb=>he b o (Nat.ne_of_lt (Heap.lt_size hb)) hb)
 exact BM O' Bt (N1.trans (N1.a.grow s1.toks k)) (ab H) (hV.lat (Lt.grow _ G1 k)) fun st' G' s' H N=>H _ _ N.Ë
end
def NS(e:Expr):Prop:=∀es env,starEach (e::es) env=(false,eval e env)::starEach es env
def FS(e:Expr):Prop:=∀env x,foldedSetIterable e env x=pure x
def VS(e:Expr):Prop:=∀env whole,isTrue e env whole=(do let v <-whole;standAt e.pos;holding [v] (truthy v))
theorem ST.Zy{X:Sx}{sc:Scope}{e:Expr}{d:DT}{m:KM (Bool×St)}(S:ST X sc e d)(h:Nt m d):ST X sc e (iS m):=by rw[<-qu h];exact S
theorem SE.Zy{X:Sx}{sc:Scope}{e:Expr}{d:DE}{m:KM (PV×St)}(S:SE X sc e d)(h:Nt m d):SE X sc e (iS m):=by rw[<-qu h];exact S
theorem u6.Zy{X:Sx}{sc:Scope}{b:List Stmt}{d:DS}{m:KM R3}(S:u6 X sc b d)(h:Nt m d):u6 X sc b (iS m):=by rw[<-qu h];exact S
abbrev mH(cx:Cx)(P:Sx->Prop):Prop:=∀X,Ok X->X.cx=cx->P X
structure TS(cx:Cx)(sc:Scope)(e:Expr)(x:Nat×Nat×DE):Prop where
 p:∃o m ap,e=.Attribute o m ap∧enc m=some x.1∧ap.endLine=x.2.1∧lB o=true∧mH cx fun X=>SE X sc o x.2.2
def IR(e:Expr):Prop:=∃k pk,e=.Constant (.int 1) k pk
def Oq(e:Expr):Prop:=∃k pk pq,e=.UnaryOp .USub (.Constant (.int 1) k pk) pq
def Q7(cx:Cx)(sc:Scope)(e:Expr):Option (DO×DO)->Prop
|none=>∃k p pk pq,e=.Slice none none (some (.UnaryOp .USub (.Constant (.int 1) k pk) pq)) p
|some x=>∃lo hi p,e=.Slice lo hi none p∧(mH cx fun X=>SO X sc lo x.1)∧mH cx fun X=>SO X sc hi x.2
structure W4{α:Type}{β:Type 1}(P:α->Prop)(N:β->α->Prop) where
 d:α
 m:β
 se:P d
 nt:N m d
structure W5{α:Type}{β:Type 1}(P:α->Prop)(S:Prop)(N:β->α->Prop) where
 d:α
 m:β
 se:P d
 ns:S
 nt:N m d
def Wy(cx:Cx)(sc:Scope)(e:Expr)(d:DE):Prop:=mH cx fun X=>SE X sc e d
def Wv(cx:Cx)(sc:Scope)(e:Expr)(d:DT):Prop:=mH cx fun X=>ST X sc e d
def Wd(cx:Cx)(sc:Scope)(e:Expr)(d:Bool×DI):Prop:=mH cx fun X=>SI X sc e d.1 d.2
def Rq(cx:Cx)(sc:Scope)(es:List Expr)(d:List DE):Prop:=mH cx fun X=>gw X sc es d
def RM(cx:Cx)(sc:Scope)(es:List Expr)(d:List DT):Prop:=mH cx fun X=>vm X sc es d
abbrev VE(cx:Cx)(sc:Scope)(e:Expr):=W5 (Wy cx sc e) (NS e) (Nt (α:=PV×St))
abbrev TE(cx:Cx)(sc:Scope)(e:Expr):=W4 (Wv cx sc e) (Nt (α:=Bool×St))
abbrev LE(cx:Cx)(sc:Scope)(e:Expr):=W5 (β:=KM (List PV×Option PV×St)) (Wd cx sc e) (FS e) fun m d=>Nt m d.2
structure CE(cx:Cx)(sc:Scope)(e:Expr) where
 v:Option (VE cx sc e)
 t:Option (TE cx sc e)
 it:Option (LE cx sc e)
 at_:Option {x:Nat×Nat×DE×KM (PV×St)//TS cx sc e (x.1,x.2.1,x.2.2.1)∧Nt x.2.2.2 x.2.2.1}
 sl:Option {x:Option (DO×DO)//Q7 cx sc e x}
 nm:Option {x:Str//∃p,e=.Name x p}
 one:Option (PLift (IR e))
 neg:Option (PLift (Oq e))
 su:Option {d:DE//mH cx fun X=>SE X sc e d∧SU X sc e d}
section
variable{cx:Cx}{X:Sx}{sc YT:Scope}{e:Expr}{es:List Expr}
noncomputable def CE.no:CE cx sc e:=⟨none,none,none,none,none,none,none,none,none⟩
def US(hF:FS e)(d:VE cx sc e):LE cx sc e:=⟨(false,iE d.d),k1 (fun β x k=>(iB x.2 x.1).bind fun l=>k (l,(aK x.2 x.1).2,(aK x.2 x.1).1)) d.m,fun X O h=>NH (d.se X O h),hF,L9 d.nt fun z z z=>ba⟩
def CE.tv(v:Option (VE cx sc e))(t:Option (TE cx sc e))(hF:FS e):CE cx sc e:={v:=v,t:=t,it:=v.map (US hF),at_:=none,sl:=none,nm:=none,one:=none,neg:=none,su:=none}
def CE.of(v:Option (VE cx sc e))(hT:VS e)(hF:FS e):CE cx sc e:=
 .tv v (v.map fun d=>⟨Mo d.d,k1 (fun β x k=>(cX x.1).bind fun b=>k (b,x.2)) d.m,fun X O h=>FI (d.se X O h) hT,L9 d.nt fun z z z=>ba⟩) hF
def S8{x:Str}:(o:Option Nat)->enc x=o->Option {k:Nat//enc x=some k}
|some k,h=>some ⟨k,h⟩
|none,_=>none
def pf(x:Str):Option {k:Nat//enc x=some k}:=S8 (enc x) rfl
noncomputable def jC{α:Type _}(c:Bool)(k:c=true->Option α):Option α:=if h:c=true then k h else none
noncomputable def rK(sc:Scope)(x:Str):Bool:=match sc.names.lookup x with
|some .local=>true|some .cell=>true|some .free=>true|_=>false
noncomputable def fO(sc:Scope)(x:Str):Bool:=match sc.names.lookup x with
|some .local=>true|some .cell=>true|_=>false
noncomputable def eM(sc:Scope)(x:Str):Bool:=match sc.names.lookup x with
|some .globalImplicit=>true|_=>false
theorem zt{x:Str}(h:rK sc x=true):sc.names.lookup x=some .local∨sc.names.lookup x=some .cell∨sc.names.lookup x=some .free:=by
 unfold rK at h;cases e:sc.names.lookup x with
|none=>rw[e] at h;injection h
|some k=>
  rw[e] at h;cases k with
  |«local»=>exact .inl rfl
  |cell=>exact .inr (.inl rfl)
  |free=>exact .inr (.inr rfl)
  |_=>injection h
theorem wg{x:Str}(h:fO sc x=true):sc.names.lookup x=some .local∨sc.names.lookup x=some .cell:=by
 unfold fO at h;cases e:sc.names.lookup x with
|none=>rw[e] at h;injection h
|some k=>
  rw[e] at h;cases k with
  |«local»=>exact .inl rfl
  |cell=>exact .inr rfl
  |_=>injection h
theorem iH{x:Str}(h:eM sc x=true):sc.names.lookup x=some .globalImplicit:=by
 unfold eM at h;cases e:sc.names.lookup x with
|none=>rw[e] at h;injection h
|some k=>
  rw[e] at h;cases k with
  |globalImplicit=>rfl
  |_=>injection h
def AH:(c:Const)->Option {p:PV//match c with|.none=>p=.none|.bool b=>p=.bool b|.int i=>p=.int i|.str x=>p=.str x|.bytes b=>p=.bytes b∧aq b=true|_=>False}
|.none=>some ⟨.none,rfl⟩
|.bool b=>some ⟨.bool b,rfl⟩
|.int i=>some ⟨.int i,rfl⟩
|.str s=>some ⟨.str s,rfl⟩
|.bytes b=>jC (aq b) fun h=>some ⟨.bytes b,rfl,h⟩
|z=>none
noncomputable def S0(c:Const)(k:Nat)(p:Pos):Option (PLift (IR (.Constant c k p))):=match c with
|.int i=>if h:i=1 then some ⟨⟨k,p,by rw[h]⟩⟩ else none
|z=>none
abbrev CL(cx:Cx)(sc:Scope):List Expr->Type 1
|[]=>PUnit
|e::es=>CE cx sc e×CL cx sc es
abbrev VL(cx:Cx)(sc:Scope)(es:List Expr):=W4 (Rq cx sc es) Ba
abbrev TL(cx:Cx)(sc:Scope)(es:List Expr):=W4 (RM cx sc es) LW
noncomputable def CL.vs:{es:List Expr}->CL cx sc es->Option (VL cx sc es)
|[],_=>some ⟨[],[],fun z z z=>.nil,.nil⟩
|_::_,c=>c.1.v.bind fun d=>(CL.vs c.2).bind fun ds=>some ⟨d.d::ds.d,d.m::ds.m,fun X O h=>.cons (d.se X O h) (d.ns _) (ds.se X O h),.cons d.nt ds.nt⟩
noncomputable def CL.ts:{es:List Expr}->CL cx sc es->Option (TL cx sc es)
|[],_=>some ⟨[],[],fun z z z=>.nil,.nil⟩
|_::_,c=>c.1.t.bind fun d=>(CL.ts c.2).bind fun ds=>some ⟨iS d.m::ds.d,d.m::ds.m,fun X O h=>.cons (ST.Zy (d.se X O h) d.nt) (ds.se X O h),.cons d.nt.Zy ds.nt⟩
noncomputable def Jq:(k:Option Expr)->Option {x:Str//∃kd p,k=some (.Constant (.str x) kd p)}
|some (.Constant (.str x) kd p)=>some ⟨x,kd,p,rfl⟩
|z=>none
noncomputable def OA:(ks:List (Option Expr))->Option {l:List PV//CK ks l}
|[]=>some ⟨[],.nil⟩
|k::r=>(Jq k).bind fun x=>(OA r).bind fun l=>some ⟨.str x.1::l.1,by obtain⟨x,kd,p,rfl⟩:=x;exact .cons l.2⟩
noncomputable def cP(sc:Scope):(t:Expr)->Option {x:DP×List Nat//∀{ts ps ns},lj sc ts ps ns->lj sc (t::ts) (x.1::ps) (x.2++ns)}
|.Name x p=>jC (fO sc x) fun h=>(pf x).bind fun k=>some ⟨(pV k.1,[k.1]),fun b=>.name (wg h) k.2 b⟩
|.Tuple es c p=>(go es).bind fun x=>some ⟨(pT x.1.1,x.1.2),fun b=>.tup x.2 b⟩
|z=>none
where go:(ts:List Expr)->Option {x:List DP×List Nat//lj sc ts x.1 x.2}
|[]=>some ⟨([],[]),.nil⟩
|t::r=>(cP sc t).bind fun x=>(go r).bind fun y=>some ⟨(x.1.1::y.1.1,x.1.2++y.1.2),x.2 y.2⟩
def LR(sc:Scope)(t:Expr):Option {x:DP×List Nat//lj sc [t] [x.1] x.2}:=(cP sc t).bind fun x=>some ⟨(x.1.1,x.1.2++[]),x.2 .nil⟩
noncomputable def Z4:Expr->Bool
|.Tuple .. =>true
|z=>false
theorem uG{b:Bool}{t:Expr}(h:(!b||Z4 t)=true)(hb:b=true):gi t:=by
 subst hb;unfold Z4 at h;cases t with
|Tuple a b c=>exact⟨_,_,_,rfl⟩
|_=>injection h
noncomputable def ġ(sc:Scope)(x:Str):Bool:=match sc.names.lookup x with
|some .cell=>true|some .free=>true|_=>false
theorem Nv{x:Str}(h:ġ sc x=true):sc.names.lookup x=some .cell∨sc.names.lookup x=some .free:=by
 unfold ġ at h;cases e:sc.names.lookup x with
|none=>rw[e] at h;injection h
|some k=>
  rw[e] at h;cases k with
  |cell=>exact .inl rfl
  |free=>exact .inr rfl
  |_=>injection h
def Ja(sc YT:Scope):Bool:=(YT.kind==.function&&decide (YT.names.map (·.1)).Nodup)&&YT.names.all fun x=>!(x.2==.free)||ġ sc x.1
theorem DU(h:Ja sc YT=true):qh sc YT:=by obtain⟨h1,h2⟩:=az h;obtain⟨h3,h4⟩:=az h1;refine⟨Y1.mp h3,Ye h4,fun x hx hf=>Nv ?_⟩;have:=XV.mp h2 x hx;rw[hf] at this;exact this
noncomputable def ij(ss:IL)(p:Pos):DK:=((ss.find? fun x=>x.1.1==p.line&&x.1.2==p.col).map (·.2)).getD .frozen
structure BI(k:Nat) where
 b:Ä
 f:Value
 ok:∀{X:Sx},Ok X->wm X.T b f
 ă:EM f
 mem:(k,f)∈HH
def Sq(k:Nat):Option (BI k):=
 if h:k=7103854 then some ⟨Mz,_,fun z=>KV,.inl ⟨_,rfl⟩,h▸.head _⟩
 else if h:k=7170414 then some ⟨No,_,fun z=>LJ,.inl ⟨_,rfl⟩,h▸.tail _ (.head _)⟩
 else if h:k=7168376 then some ⟨N7,_,fun z=>J4,.inl ⟨_,rfl⟩,h▸.tail _ (.tail _ (.head _))⟩
 else if h:k=7566701 then some ⟨Qj,_,fun z=>LG,.inl ⟨_,rfl⟩,h▸.tail _ (.tail _ (.tail _ (.head _)))⟩
 else if h:k=126922498794852 then some ⟨xT,_,fun z=>yL,.inl ⟨_,rfl⟩,h▸.tail _ (.tail _ (.tail _ (.tail _ (.head _))))⟩
 else if h:k=500186508389 then some ⟨By,_,fun z=>BY,.inr ⟨_,rfl⟩,h▸.tail _ (.tail _ (.tail _ (.tail _ (.tail _ (.head _)))))⟩
 else if h:k=1818850164 then some ⟨H8,_,fun z=>EF,.inr ⟨_,rfl⟩,h▸.tail _ (.tail _ (.tail _ (.tail _ (.tail _ (.tail _ (.head _))))))⟩
 else if h:k=1684628340 then some ⟨HU,_,fun O=>FW O.B,.inr ⟨_,rfl⟩,h▸.tail _ (.tail _ (.tail _ (.tail _ (.tail _ (.tail _ (.tail _ (.head _)))))))⟩
 else if h:k=6909556 then some ⟨P0,_,fun z=>Li,.inr ⟨_,rfl⟩,h▸.tail _ (.tail _ (.tail _ (.tail _ (.tail _ (.tail _ (.tail _ (.tail _ (.head _))))))))⟩
 else if h:k=422944466291 then some ⟨Cc,_,fun z=>Ca,.inr ⟨_,rfl⟩,h▸.tail _ (.tail _ (.tail _ (.tail _ (.tail _ (.tail _ (.tail _ (.tail _ (.tail _ (.head _)))))))))⟩
 else if h:k=7303780 then some ⟨Qg,_,fun z=>Jm,.inl ⟨_,rfl⟩,h▸.tail _ (.tail _ (.tail _ (.tail _ (.tail _ (.tail _ (.tail _ (.tail _ (.tail _ (.tail _ (.head _))))))))))⟩
 else if h:k=6384748 then some ⟨K4,_,fun z=>JH,.inl ⟨_,rfl⟩,h▸.tail _ (.tail _ (.tail _ (.tail _ (.tail _ (.tail _ (.tail _ (.tail _ (.tail _ (.tail _ (.tail _ (.head _)))))))))))⟩
 else none
def Oi(p:PV):Prop:=(∃i,p=.loc i)∨∃i,p=.glob i
theorem mt{st:St}{p:PV}{w:Zk}{β:Type}{f:St->Option β}{K:β->Prop}(H:aL ((Lx st p w).bind f) K):Oi p:=by
 cases p with
|loc i=>exact .inl ⟨i,rfl⟩
|glob i=>exact .inr ⟨i,rfl⟩
|_=>exact H.elim
def BU(f:Î):Prop:=∀st p as r,f st p as=some r->Oi p
theorem rY{α:Type}{f:PV->Option α}{as:List PV}{K:α->Prop}(H:aL (iT f as) K):∃v,aL (f v) K:=by
 match as,H with
|[v],H=>exact⟨v,H⟩
theorem Bo{α:Type}{f:PV->PV->Option α}{as:List PV}{K:α->Prop}(H:aL (vh f as) K):∃v w,aL (f v w) K:=by
 match as,H with
|[v,w],H=>exact⟨v,w,H⟩
theorem vY:BU Zm:=fun st p as r h=>by obtain⟨l,_,H⟩:=(ab (aL.of h)).get;obtain⟨v,H⟩:=rY H;exact mt (aF H).2
theorem vg:BU Z9:=fun st p as r h=>by obtain⟨l,_,H⟩:=(ab (aL.of h)).get;obtain⟨v,H⟩:=rY H;obtain⟨r,_,H⟩:=(ab H).get;exact mt (aF H).2
theorem Fu:BU Ė:=fun st p as r h=>by
 let' H:=aL.of h
 match as,H with
|[],H=>obtain⟨l,_,H⟩:=(ab H).get;obtain⟨x,_,H⟩:=(ab H).get;exact mt H
theorem vJ:BU À:=fun st p as r h=>by obtain⟨l,_,H⟩:=(ab (aL.of h)).get;obtain⟨v,w,H⟩:=Bo H;obtain⟨i,_,H⟩:=(ab H).get;exact mt (aF H).2
theorem ku:dec 107135549927012=Str.ofString "append"∧(dec 111568023285348=Str.ofString "extend"∧(dec 7368560=Str.ofString "pop"∧(dec 115923103347316=Str.ofString "insert"∧(dec 6776180=Str.ofString "get")))):=by decide+kernel
def sw(k:Nat):{m:Option Î//∀f,m=some f->∃id,tL (dec k) "list" id f∧BU f}:=
 if h:k=107135549927012 then⟨some Zm,fun f e=>⟨"list.append",by injection e with e;subst e h;rw[ku.1];exact⟨F.slot_list_append,F.type_list_append,F.plainAttrs_list,yB⟩,by injection e with e;subst e;exact vY⟩⟩
 else if h:k=111568023285348 then⟨some Z9,fun f e=>⟨"list.extend",by injection e with e;subst e h;rw[ku.2.1];exact⟨F.slot_list_extend,F.type_list_extend,F.plainAttrs_list,yN⟩,by injection e with e;subst e;exact vg⟩⟩
 else if h:k=7368560 then⟨some Ė,fun f e=>⟨"list.pop",by injection e with e;subst e h;rw[ku.2.2.1];exact⟨F.slot_list_pop,F.type_list_pop,F.plainAttrs_list,LC⟩,by injection e with e;subst e;exact Fu⟩⟩
 else if h:k=115923103347316 then⟨some À,fun f e=>⟨"list.insert",by injection e with e;subst e h;rw[ku.2.2.2.1];exact⟨F.slot_list_insert,F.type_list_insert,F.plainAttrs_list,yO⟩,by injection e with e;subst e;exact vJ⟩⟩
 else⟨none,nofun⟩
def uR(k:Nat):{m:Option Î//∀f,m=some f->∃id,tL (dec k) "dict" id f}:=
 if h:k=6776180 then⟨some MV,fun f e=>⟨"dict.get",by injection e with e;subst e h;exact(ku.2.2.2.2)▸⟨F.slot_dict_get,F.type_dict_get,F.plainAttrs_dict,Lu⟩⟩⟩
 else⟨none,nofun⟩
end
structure UR(cx:Cx)(sc YT:Scope)(gens:List Comprehension)(x:DC×Bool×List DC):Prop where
 p:∃t it ifs r,gens=⟨t,it,ifs,0⟩::r∧lj YT [t] [x.1.p] x.1.own∧(x.2.1=true->gi t)∧(mH cx fun X=>SI X sc it x.2.1 x.1.it)∧FS it∧(mH cx fun X=>vm X YT ifs x.1.ifs)∧mH cx fun X=>Ad X YT r x.2.2
abbrev CG(cx:Cx)(sc YT:Scope)(gens:List Comprehension):Type 1:=ULift (Option {cl:List DC//mH cx fun X=>Ad X YT gens cl}×Option {x:DC×Bool×List DC//UR cx sc YT gens x})
abbrev CO(cx:Cx)(sc:Scope)(e:Option Expr):Type 1:=ULift (Option {d:DO//mH cx fun X=>SO X sc e d}×Option (PLift (∃k pk pq,e=some (.UnaryOp .USub (.Constant (.int 1) k pk) pq))))
section
variable{cx:Cx}{X:Sx}{sc YT:Scope}
noncomputable def OT:Expr->Bool
|.Slice .. =>true
|z=>false
theorem Mk{i:Expr}(h:(!OT i)=true):∀a b c p,i≠.Slice a b c p:=fun a b c p e=>by subst e;injection h
noncomputable def Bx{α:Type}:(o:Option α)->Option (PLift (o=none))
|none=>some ⟨rfl⟩
|z=>none
def K5(lo hi st:Option Expr)(p:Pos)(cl:CO cx sc lo)(ch:CO cx sc hi)(cs:CO cx sc st):Option {x:Option (DO×DO)//Q7 cx sc (.Slice lo hi st p) x}:=match Bx st with
|some h=>cl.down.1.bind fun l=>ch.down.1.bind fun u=>some ⟨some (l.1,u.1),lo,hi,p,by rw[h.1],l.2,u.2⟩
|none=>cs.down.2.bind fun n=>(Bx lo).bind fun h1=>(Bx hi).bind fun h2=>some ⟨none,by obtain⟨k,pk,pq,e⟩:=n.1;exact⟨k,p,pk,pq,by rw[h1.1,h2.1,e]⟩⟩
theorem Pp{o i:Expr}{p:Pos}{io:DE}{x:Option (DO×DO)}{d:DK}(h:Q7 cx sc i x)(So:mH cx fun X=>SE X sc o io):mH cx fun X=>SE X sc (.Subscript o i p) (match x with
  |none=>NW d io
  |some y=>z7 d io y.1 y.2):=fun X O e=>by
 cases x with
|none=>obtain⟨k,p',pk,pq,rfl⟩:=h;exact TZ (So X O e)
|some y=>obtain⟨lo,hi,p',rfl,h1,h2⟩:=h;exact K3 (So X O e) (h1 X O e) (h2 X O e)
def Mm(o i:Expr)(p:Pos)(c:VE cx sc o)(ci:CE cx sc i):Option (VE cx sc (.Subscript o i p)):=match ci.sl with
|some x=>some ⟨_,kD _,Pp (d:=ij cx.ss p) x.2 c.se,fun z z=>rfl,ut _⟩
|none=>jC (!OT i) fun h=>ci.v.bind fun d=>some ⟨M3 c.d d.d,k2 (fun β u y k=>(item y.2 u y.1).bind fun v=>k (v,y.2)) c.m d.m,fun X O e=>RV (Mk h) (c.se X O e) (d.se X O e),fun z z=>rfl,SW (g:=fun u y=>(item y.2 u y.1).bind fun v=>some (v,y.2)) c.nt d.nt fun z z z z=>ba⟩
theorem mT(O:Ok X){x:Str}{k:Nat}(hk:enc x=some k)(ht:¬X.cx.top.contains k=true):X.T.mg x=none:=(bz hk).1▸O.Y.off k ht (bz hk).2
theorem tj(O:Ok X){x:Str}{k:Nat}{v:Value}(hk:enc x=some k)(ht:¬X.cx.top.contains k=true)(m:(k,v)∈HH):X.T.mb x=some v:=(bz hk).1▸O.Y.bi k v ht m
theorem LI(O:Ok X){x:Str}{k:Nat}(hk:enc x=some k)(ht:X.cx.top.contains k=true)(b:Addr)(hb:X.T.fn k=some b):X.T.mg x=some (.ref b):=(bz hk).1▸O.Y.top k b ht hb
theorem K8{f e t:Expr}{x y:Str}{k:Nat}{p:Pos}{d:DE}(O:Ok X)(hf:∃np,f=.Name x np)(ht':∃tp,t=.Name y tp)(hx:sc.names.lookup x=some .globalImplicit)(hn:bj x=true)(hg:X.T.mg x=none)(hm:X.T.mb x=some (.builtin "isinstance"))(hy:enc y=some k)(hk:k=500186508389)
  (h1:eM sc y=true) (h2:bj y=true) (h3:¬X.cx.top.contains k=true) (S:SE X sc e d) (û:NS e):SE X sc (.Call f [e,t] [] p) (zV qw d):=fun a H=>by
 obtain⟨np,rfl⟩:=hf;obtain⟨tp,rfl⟩:=ht';exact Av O hx hn hg hm (iH h1) h2 (mT O hy h3) (tj O hy h3 (hk▸.tail _ (.tail _ (.tail _ (.tail _ (.tail _ (.head _))))))) S (fun env=>û _ _) a H
def Mq{f:Expr}{x:Str}{k0:Nat}(hf:∃np,f=.Name x np)(hx:eM sc x=true)(hn:bj x=true)(Ï:enc x=some k0)(hk0:k0=497977453406354454504293)(h0:¬cx.top.contains k0=true)(p:Pos):
  {as:List Expr}->CL cx sc as->Option (VE cx sc (.Call f as [] p))
|[_,_],(ce,ct,_)=>ce.v.bind fun d=>ct.nm.bind fun y=>(pf y.1).bind fun k=>
   if hk:k.1=500186508389 then jC (eM sc y.1) fun h1=>jC (bj y.1) fun h2=>if h3:¬cx.top.contains k.1=true then some ⟨zV qw d.d,k1 (fun β x k=>(qw x.1).bind fun c=>k (.bool c,x.2)) d.m,fun X O e=>K8 O hf y.2 (iH hx) hn (mT O Ï (e▸h0))
    (tj O Ï (e▸h0) (hk0▸.tail _ (.tail _ (.tail _ (.tail _ (.tail _ (.tail _ (.tail _ (.tail _ (.tail _ (.tail _ (.tail _ (.tail _ (.head _)))))))))))))) k.2 hk h1 h2 (e▸h3) (d.se X O e) d.ns,fun z z=>rfl,L9 d.nt fun z z z=>ba⟩ else none
   else some ⟨zV (fun z=>none) d.d,kD _,fun X O e=>GK,fun z z=>rfl,ut _⟩
|w,v=>none
theorem Aq{f:Expr}{as:List Expr}{x:Str}{k:Nat}{p:Pos}{Y7:List DE}(O:Ok X)(hf:∃np,f=.Name x np)(hx:eM sc x=true)(hn:bj x=true)(hk:enc x=some k)(ht:X.cx.top.contains k=true)(S:gw X sc as Y7):SE X sc (.Call f as [] p) (vV k Y7):=fun a H=>by obtain⟨np,rfl⟩:=hf;exact JZ O (iH hx) hn (LI O hk ht) S a H
theorem B7{f:Expr}{as:List Expr}{x:Str}{k:Nat}{p:Pos}{Y7:List DE}{d:DK}(O:Ok X)(b:BI k)(hf:∃np,f=.Name x np)(hx:eM sc x=true)(hn:bj x=true)(hk:enc x=some k)(ht:¬X.cx.top.contains k=true)(S:gw X sc as Y7):SE X sc (.Call f as [] p) (uW d b.b Y7):=fun a H=>by obtain⟨np,rfl⟩:=hf;exact Jv O (b.ok O) b.ă (iH hx) hn (mT O hk ht) (tj O hk ht b.mem) S a H
def IO{f:Expr}{as:List Expr}(p:Pos)(x:{x:Str//∃np,f=.Name x np})(a:CL cx sc as):Option (VE cx sc (.Call f as [] p)):=
 jC (eM sc x.1) fun hx=>jC (bj x.1) fun hn=>(pf x.1).bind fun k=>
  if ht:cx.top.contains k.1=true then a.vs.bind fun Y7=>some ⟨vV k.1 Y7.d,kN (UQ k.1) Y7.m,fun X O e=>Aq O x.2 hx hn k.2 (e▸ht) (Y7.se X O e),fun z z=>rfl,NB Y7.nt fun z z z z=>NF⟩
  else if hk:k.1=497977453406354454504293 then Mq x.2 hx hn k.2 hk ht p a
  else(Sq k.1).bind fun b=>a.vs.bind fun Y7=>some ⟨uW (ij cx.ss p) b.b Y7.d,kN (fun β z y k=>(b.b y.2 (ij cx.ss p) y.1).bind k) Y7.m,fun X O e=>B7 O b x.2 hx hn k.2 (e▸ht) (Y7.se X O e),fun z z=>rfl,NB Y7.nt fun z z z z=>rfl⟩
theorem zE{f:Expr}{as:List Expr}{x:Str}{k:Nat}{p:Pos}{w:Value}{tp:Bool}{d:DI}(O:Ok X)(hf:∃np,f=.Name x np)(hx:eM sc x=true)(hn:bj x=true)(hk:enc x=some k)(ht:¬X.cx.top.contains k=true)(m:(k,w)∈HH)
  (S:∀{np},sc.names.lookup x=some .globalImplicit->bj x=true->X.T.mg x=none->X.T.mb x=some w->SI X sc (.Call (.Name x np) as [] p) tp d):SI X sc (.Call f as [] p) tp d:=fun h a H=>by
 obtain⟨np,rfl⟩:=hf;exact S (iH hx) hn (mT O hk ht) (tj O hk ht m) h a H
abbrev WJ(cx:Cx)(sc:Scope)(k:Nat)(as:List Expr)(d:Bool×DI×Value):Prop:=(k,d.2.2)∈HH∧mH cx fun X=>∀{x' np p},sc.names.lookup x'=some .globalImplicit->bj x'=true->X.T.mg x'=none->X.T.mb x'=some d.2.2->SI X sc (.Call (.Name x' np) as [] p) d.1 d.2.1
abbrev Vk(cx:Cx)(sc:Scope)(k:Nat)(as:List Expr):=W4 (β:=KM (List PV×Option PV×St)) (WJ cx sc k as) fun m d=>Nt m d.2.1
def Q9(k:Nat):{as:List Expr}->CL cx sc as->Option (Vk cx sc k as):=fun{as} a=>
 if hk:k=491260897125 then a.vs.bind fun Y7=>some ⟨(false,Ds Y7.d,.type "range"),kN (fun β z x k=>(fA x.1).bind fun l=>k (l,.none,x.2)) Y7.m,⟨hk▸.tail _ (.tail _ (.tail _ (.tail _ (.tail _ (.tail _ (.tail _ (.tail _ (.tail _ (.tail _ (.tail _ (.tail _ (.tail _ (.head _))))))))))))),fun X O e=>fun h1 h2 h3 h4=>x6 O h1 h2 h3 h4 (Y7.se X O e)⟩,NB Y7.nt fun z z z z=>ba⟩
 else if hk:k=1871080539643590046821 then match as,a with
  |[_],(ce,_)=>ce.v.bind fun d=>some ⟨(true,HR d.d,.type "enumerate"),k1 (fun β x k=>(cN x.2 x.1).bind fun l=>k (fN 0 l,(aK x.2 x.1).2,(aK x.2 x.1).1)) d.m,⟨hk▸.tail _ (.tail _ (.tail _ (.tail _ (.tail _ (.tail _ (.tail _ (.tail _ (.tail _ (.tail _ (.tail _ (.tail _ (.tail _ (.tail _ (.head _)))))))))))))),fun X O e=>fun h1 h2 h3 h4=>zL O h1 h2 h3 h4 (.cons (d.se X O e) (d.ns _) .nil)⟩,L9 d.nt fun z z z=>ba⟩
  |w,v=>none
 else if hk:k=8022384 then match as,a with
  |[_,_],(ce,cf,_)=>ce.v.bind fun d=>cf.v.bind fun d'=>some ⟨(true,P6 d.d d'.d,.type "zip"),k2 (fun β u y k=>(gz y.2 u).bind fun l=>(ou y.1).bind fun r=>k (oO l r,(aK y.2 u).2,(aK y.2 u).1)) d.m d'.m,⟨hk▸.tail _ (.tail _ (.tail _ (.tail _ (.tail _ (.tail _ (.tail _ (.tail _ (.tail _ (.tail _ (.tail _ (.tail _ (.tail _ (.tail _ (.tail _ (.head _))))))))))))))),fun X O e=>fun h1 h2 h3 h4=>FF O h1 h2 h3 h4 (.cons (d.se X O e) (d.ns _) (.cons (d'.se X O e) (d'.ns _) .nil))⟩,SW (g:=fun u y=>(gz y.2 u).bind fun l=>(ou y.1).bind fun r=>some (oO l r,(aK y.2 u).2,(aK y.2 u).1)) d.nt d'.nt fun z z z z=>NF⟩
  |w,v=>none
 else none
def MP{f:Expr}{as:List Expr}(p:Pos)(x:{x:Str//∃np,f=.Name x np})(a:CL cx sc as):Option (LE cx sc (.Call f as [] p)):=
 jC (eM sc x.1) fun hx=>jC (bj x.1) fun hn=>(pf x.1).bind fun k=>if ht:¬cx.top.contains k.1=true then(Q9 k.1 a).bind fun y=>some ⟨(y.d.1,y.d.2.1),y.m,fun X O e=>zE O x.2 hx hn k.2 (e▸ht) y.se.1 (y.se.2 X O e),fun z z=>rfl,y.nt⟩ else none
theorem Ec{f:Expr}{as:List Expr}{p:Pos}{k ln:Nat}{io:DE}{Y7:List DE}(h:TS cx sc f (k,ln,io))(hl:(ln==p.line)=true)(hz:as.length<20)(O:Ok X)(e:X.cx=cx)(S:gw X sc as Y7):SE X sc (.Call f as [] p) (xb (sw k).1 (uR k).1 io k Y7):=
 by obtain⟨_,_,_,e',h1,h2,h3,h4⟩:=h.p;exact e'▸fun a H=>MR O h3 (h2.symm▸hl) hz h1 (fun f e=>(bz h1).1▸(sw k).2 f e) (fun f e=>(bz h1).1▸(uR k).2 f e) (h4 X O e) S a H
def Ov{f:Expr}{as:List Expr}(p:Pos)(y:{x:Nat×Nat×DE×KM (PV×St)//TS cx sc f (x.1,x.2.1,x.2.2.1)∧Nt x.2.2.2 x.2.2.1})(a:CL cx sc as):Option (VE cx sc (.Call f as [] p)):=
 jC (y.1.2.1==p.line) fun hl=>if hz:as.length<20 then a.vs.bind fun Y7=>some ⟨xb (sw y.1.1).1 (uR y.1.1).1 y.1.2.2.1 y.1.1 Y7.d,sG (sw y.1.1).1 (uR y.1.1).1 y.1.2.2.2 y.1.1 Y7.m,fun X O e=>Ec y.2.1 hl hz O e (Y7.se X O e),fun z z=>rfl,JJ y.2.2 Y7.nt⟩ else none
def Na(f:Expr)(as:List Expr)(ks:List Keyword)(p:Pos)(cf:CE cx sc f)(a:CL cx sc as):CE cx sc (.Call f as ks p):=match ks with
|_::_=>.no
|[]=>match cf.nm with
  |some x=>{CE.of (IO p x a) (fun z z=>rfl) (fun z z=>rfl) with it:=match MP p x a with
   |some y=>some y
   |none=>(IO p x a).map (US fun z z=>rfl)}
  |none=>match cf.at_ with
   |some y=>.of (Ov p y a) (fun z z=>rfl) fun z z=>rfl
   |none=>.no
def WQ(o:UnaryOp)(e:Expr)(p:Pos)(c:CE cx sc e):CE cx sc (.UnaryOp o e p):=match o with
|.Not=>.tv (c.v.bind fun d=>some ⟨Nd d.d,k1 (fun β x k=>(cX x.1).bind fun b=>k (.bool (!b),x.2)) d.m,fun X O h=>SZ (d.se X O h),fun z z=>rfl,L9 d.nt fun z z z=>ba⟩) (c.t.bind fun d=>some ⟨Qh d.d,Lv (fun x=>(!x.1,x.2)) d.m,fun X O h=>Gp (d.se X O h),Hn d.nt⟩) fun z z=>rfl
|.USub=>{CE.of (c.v.bind fun d=>some ⟨OB d.d,k1 (fun β x k=>(aZ x.1).bind fun i=>k (.int (-i),x.2)) d.m,fun X O h=>RT (d.se X O h),fun z z=>rfl,L9 d.nt fun z z z=>ba⟩) (fun z z=>rfl) (fun z z=>rfl) with neg:=c.one.bind fun h=>some ⟨by obtain⟨k,pk,e⟩:=h.1;exact⟨k,pk,p,by rw[e]⟩⟩}
|y=>.no
def Pg(o:PySem.BoolOp)(es:List Expr)(p:Pos)(c:CL cx sc es):CE cx sc (.BoolOp o es p):=match o with
|.And=>.tv (c.vs.bind fun d=>some ⟨Gm d.d,Ku d.m,fun X O h=>RU (d.se X O h),fun z z=>rfl,MB d.nt⟩) (c.ts.bind fun d=>some ⟨rx d.d,Ac d.m,fun X O h=>Fw (d.se X O h),Jr d.nt⟩) fun z z=>rfl
|.Or=>.tv (c.vs.bind fun d=>some ⟨Q1 d.d,S9 d.m,fun X O h=>WW (d.se X O h),fun z z=>rfl,Rv d.nt⟩) (c.ts.bind fun d=>some ⟨Qk d.d,Ll d.m,fun X O h=>Jg (d.se X O h),OV d.nt⟩) fun z z=>rfl
theorem FP{e:Expr}{gens:List Comprehension}{p:Pos}{x:DC×Bool×List DC}{d:DE}(h:UR cx sc YT gens x)(hs:qh sc YT)(S:mH cx fun X=>SE X YT e d)(k:DK):
  mH cx fun X=>SE X sc (.ListComp e gens YT p) (iX k (aU YT) d (x.1::x.2.2))∧SU X sc (.ListComp e gens YT p) (iX k (aU YT) d (x.1::x.2.2)):=fun X O hx=>
 by obtain⟨_,_,_,_,e,h1,h2,h3,h4,h5,h6⟩:=h.p;exact e▸AX h1 h2 (h3 X O hx) h4 hs (h5 X O hx) (h6 X O hx) (S X O hx)
def IC(e:Expr)(gens:List Comprehension)(YT:Scope)(p:Pos)(g:CG cx sc YT gens)(c:CE cx YT e):Option {d:DE//mH cx fun X=>SE X sc (.ListComp e gens YT p) d∧SU X sc (.ListComp e gens YT p) d}:=
 g.down.2.bind fun x=>c.v.bind fun d=>jC (Ja sc YT) fun h=>some ⟨iX (ij cx.ss p) (aU YT) (iS d.m) (x.1.1::x.1.2.2),FP x.2 (DU h) (fun X O h=>SE.Zy (d.se X O h) d.nt) _⟩
def RG(t it:Expr)(ifs:List Expr)(a:Int)(r:List Comprehension)(i1:CE cx sc it)(i2:CE cx YT it)(fs:CL cx YT ifs)(g:CG cx YT YT r):CG cx sc YT (⟨t,it,ifs,a⟩::r):=
 if ha:a=0 then
  ⟨(LR YT t).bind fun b=>i2.it.bind fun i=>fs.ts.bind fun f=>g.down.1.bind fun cl=>jC (!i.d.1||Z4 t) fun h=>some ⟨⟨b.1.1,b.1.2,i.d.2,f.d⟩::cl.1,fun X O e=>ha▸.cons b.2 (uG h) (i.se X O e) i.ns (f.se X O e) (cl.2 X O e)⟩,
   (LR YT t).bind fun b=>i1.it.bind fun i=>fs.ts.bind fun f=>g.down.1.bind fun cl=>jC (!i.d.1||Z4 t) fun h=>some ⟨(⟨b.1.1,b.1.2,i.d.2,f.d⟩,i.d.1,cl.1),⟨t,it,ifs,r,by rw[ha],b.2,uG h,i.se,i.ns,f.se,cl.2⟩⟩⟩
 else⟨none,none⟩
mutual
noncomputable def cA(cx:Cx):(e:Expr)->(sc:Scope)->CE cx sc e
|.Constant c k p,sc=>{CE.of ((AH c).bind fun x=>some ⟨yD x.1,kD _,fun X O e=>Jk x.2,fun z z=>rfl,ut _⟩) (fun z z=>rfl) (fun z z=>rfl) with one:=S0 c k p}
|.Name x p,sc=>{CE.of (jC (bj x) fun hn=>(pf x).bind fun k=>if hl:rK sc x=true then some ⟨y3 k.1,kD _,fun X O e=>Mh (zt hl) k.2 hn,fun z z=>rfl,ut _⟩ else jC (eM sc x) fun hg=>some ⟨T7 k.1,kD _,fun X O e=>OZ O (iH hg) k.2 hn,fun z z=>rfl,ut _⟩) (fun z z=>rfl) (fun z z=>rfl) with nm:=some ⟨x,p,rfl⟩}
|.BinOp l o r p,sc=>.of ((cA cx l sc).v.bind fun l=>(cA cx r sc).v.bind fun r=>some ⟨Of (ij cx.ss p) o l.d r.d,k2 (fun β u y k=>(fP y.2 (ij cx.ss p) o u y.1).bind k) l.m r.m,fun X O e=>T3 (l.se X O e) (r.se X O e),fun z z=>rfl,SW l.nt r.nt fun z z z z=>rfl⟩) (fun z z=>rfl) fun z z=>rfl
|.UnaryOp o e p,sc=>WQ o e p (cA cx e sc)
|.BoolOp o es p,sc=>Pg o es p (GI cx es sc)
|.Compare l os es p,sc=>.tv ((cA cx l sc).v.bind fun l=>(GI cx es sc).vs.bind fun r=>jC (ol os es) fun h=>some ⟨dB (A1 l.d os r.d),Lv (fun x=>(.bool x.1,x.2)) (BO l.m os r.m),fun X O e=>SA (l.se X O e) h (r.se X O e),fun z z=>rfl,Hn (CU l.nt r.nt)⟩)
   ((cA cx l sc).v.bind fun l=>(GI cx es sc).vs.bind fun r=>jC (ol os es) fun h=>some ⟨A1 l.d os r.d,BO l.m os r.m,fun X O e=>ED (l.se X O e) h (r.se X O e),CU l.nt r.nt⟩) fun z z=>rfl
|.IfExp t a b p,sc=>.tv ((cA cx t sc).t.bind fun t=>(cA cx a sc).v.bind fun a=>(cA cx b sc).v.bind fun b=>some ⟨M1 t.d a.d b.d,Dv t.m a.m b.m,fun X O e=>Sj (t.se X O e) (a.se X O e) (b.se X O e),fun z z=>rfl,xY t.nt a.nt b.nt⟩)
   ((cA cx t sc).t.bind fun t=>(cA cx a sc).t.bind fun a=>(cA cx b sc).t.bind fun b=>some ⟨PX t.d a.d b.d,Dv t.m a.m b.m,fun X O e=>Eo (t.se X O e) (a.se X O e) (b.se X O e),xY t.nt a.nt b.nt⟩) fun z z=>rfl
|.Tuple es k p,sc=>.of ((GI cx es sc).vs.bind fun ds=>if h:es.length≤1000 then some ⟨Ml ds.d,kN (fun β z x k=>k (.tup x.1,x.2)) ds.m,fun X O e=>S5 h (ds.se X O e),fun z z=>rfl,NB ds.nt fun z z z z=>rfl⟩ else none) (fun z z=>rfl) fun z z=>rfl
|.List es p,sc=>.of ((GI cx es sc).vs.bind fun ds=>if h:es.length≤1000 then some ⟨MF (ij cx.ss p) ds.d,kN (fun β z x k=>(alloc x.2 (ij cx.ss p) (.lst x.1)).bind k) ds.m,fun X O e=>RJ h (ds.se X O e),fun z z=>rfl,NB ds.nt fun z z z z=>rfl⟩ else none) (fun z z=>rfl) fun z z=>rfl
|.Dict ks vs p,sc=>.of ((OA ks).bind fun kp=>(GI cx vs sc).vs.bind fun ds=>if h:ks.length≤15∧ks.length=vs.length then some ⟨MN kp.1 ds.d,kD _,fun X O e=>TJ O h.1 h.2 kp.2 (ds.se X O e),fun z z=>rfl,ut _⟩ else none) (fun z z=>rfl) fun z z=>rfl
|.Attribute o a p,sc=>{CE.of ((cA cx o sc).v.bind fun d=>(pf a).bind fun k=>jC (cx.atts.contains k.1) fun hk=>jC (lB o) fun hb=>some ⟨Hp d.d k.1,kF d.m (A6 k.1),fun X O e=>O8 O hb k.2 (O.Y.atts _ (e▸hk)) (d.se X O e),fun z z=>rfl,Hz d.nt (CD k.1)⟩) (fun z z=>rfl) (fun z z=>rfl) with
   at_:=(cA cx o sc).v.bind fun d=>(pf a).bind fun k=>jC (lB o) fun hb=>some ⟨(k.1,p.endLine,d.d,d.m),⟨o,a,p,rfl,k.2,rfl,hb,d.se⟩,d.nt⟩}
|.Slice lo hi st p,sc=>{CE.no with sl:=K5 lo hi st p (cO cx lo sc) (cO cx hi sc) (cO cx st sc)}
|.Subscript o i p,sc=>.of ((cA cx o sc).v.bind fun d=>Mm o i p d (cA cx i sc)) (fun z z=>rfl) fun z z=>rfl
|.ListComp e gens YT p,sc=>{CE.of ((IC e gens YT p (cG cx gens sc YT) (cA cx e YT)).bind fun d=>some ⟨d.1,kD _,fun X O h=>(d.2 X O h).1,fun z z=>rfl,ut _⟩) (fun z z=>rfl) (fun z z=>rfl) with
   su:=IC e gens YT p (cG cx gens sc YT) (cA cx e YT)}
|.Call f as ks p,sc=>Na f as ks p (cA cx f sc) (GI cx as sc)
|w,v=>.no
noncomputable def GI(cx:Cx):(es:List Expr)->(sc:Scope)->CL cx sc es
|[],_=>⟨⟩
|e::r,sc=>(cA cx e sc,GI cx r sc)
noncomputable def cO(cx:Cx):(e:Option Expr)->(sc:Scope)->CO cx sc e
|none,_=>⟨some ⟨oN,fun X O e=>F5⟩,none⟩
|some e,sc=>⟨(cA cx e sc).v.bind fun d=>some ⟨oI d.d,fun X O h=>EC (d.se X O h)⟩,(cA cx e sc).neg.bind fun h=>some ⟨by obtain⟨k,pk,pq,e⟩:=h.1;exact⟨k,pk,pq,YH some e⟩⟩⟩
noncomputable def cG(cx:Cx):(gens:List Comprehension)->(sc YT:Scope)->CG cx sc YT gens
|[],_,_=>⟨some ⟨[],fun X O e=>.nil⟩,none⟩
|⟨t,it,ifs,a⟩::r,sc,YT=>RG t it ifs a r (cA cx it sc) (cA cx it YT) (GI cx ifs YT) (cG cx r YT YT)
end
end
section
variable{X:Sx}{cx:Cx}
def Xj(cx:Cx)(sc:Scope)(q:Stmt)(d:DS):Prop:=mH cx fun X=>SS X sc q d
abbrev Ux(cx:Cx)(sc:Scope)(q:Stmt):=W4 (Xj cx sc q) (Nt (α:=R3))
def Rx(cx:Cx)(sc:Scope)(b:List Stmt)(d:List DS):Prop:=mH cx fun X=>u6 X sc b (m8 d)
abbrev Oe(cx:Cx)(sc:Scope)(b:List Stmt):=W4 (Rx cx sc b) Nq
abbrev CS(cx:Cx)(sc:Scope)(m:Stmt):=Option (Ux cx sc m)
abbrev CB(cx:Cx)(sc:Scope)(b:List Stmt):=Option (Oe cx sc b)
def Oe.t{sc:Scope}{b:List Stmt}(c:Oe cx sc b):DS:=iS (fZ c.m)
theorem Oe.ts{sc:Scope}{b:List Stmt}(c:Oe cx sc b):mH cx fun X=>u6 X sc b c.t:=fun X O e=>u6.Zy (c.se X O e) (fC c.nt)
noncomputable def H4(cx:Cx)(sc:Scope):(ts:List Expr)->Option {ZO:List (DE×Nat)//mH cx fun X=>IV X sc ts ZO}
|[]=>some ⟨[],fun z z z=>.nil⟩
|t::r=>(cA cx t sc).at_.bind fun y=>(H4 cx sc r).bind fun ZO=>jC (cx.atts.contains y.1.1) fun h=>some ⟨(y.1.2.2.1,y.1.1)::ZO.1,fun X O e=>by obtain⟨_,_,_,e',h1,_,_,h4⟩:=y.2.1.p;exact e'▸.cons (h4 X O e) h1 (O.Y.atts _ (e▸h)) (ZO.2 X O e)⟩
def Jy(p:DP)(e:KM (PV×St)):KM R3:=kF e fun β z vs x k=>(p x.1 vs).bind fun vs=>k (.next,vs,x.2)
theorem HF{p:DP}{e:KM (PV×St)}{d:DE}(h:Nt e d):Nt (Jy p e) (GC true p d):=Hz h fun z z z z z=>ba
def IS(cx:Cx)(sc:Scope)(t e:Expr)(p:Pos)(x:{x:DP×List Nat//lj sc [t] [x.1] x.2})(hok:rn t e=true):CS cx sc (.Assign [t] e p):=match(cA cx e sc).su with
|some d=>some ⟨GC true x.1.1 d.1,Jy x.1.1 (kD d.1),fun X O e=>r6 x.2 (d.2 X O e).1 (fun z=>(d.2 X O e).2) hok,HF (ut _)⟩
|none=>jC (!jr e) fun h=>(cA cx e sc).v.bind fun d=>some ⟨GC true x.1.1 d.d,Jy x.1.1 d.m,fun X O e'=>r6 x.2 (d.se X O e') (fun hc=>absurd hc (Bool.eq_false_iff.mp (qd h))) hok,HF d.nt⟩
def RX(cx:Cx)(sc:Scope)(t e:Expr)(p:Pos):CS cx sc (.Assign [t] e p):=match t with
|.Name x q=>(LR sc (.Name x q)).bind fun y=>IS cx sc (.Name x q) e p y rfl
|.Attribute o a q=>(cA cx o sc).v.bind fun y=>(pf a).bind fun k=>jC (cx.atts.contains k.1) fun h=>(cA cx e sc).v.bind fun d=>some ⟨IW y.d k.1 d.d,kF d.m (fun β C vs x k'=>(y.d C vs x.2).bind fun y=>(jU C y.2 y.1 k.1 x.1).bind fun s=>k' (.next,vs,s)),fun X O e=>BH O k.2 (O.Y.atts _ (e▸h)) (y.se X O e) (d.se X O e),Hz d.nt fun v v v v v=>NF⟩
|.Subscript o i q=>(cA cx o sc).v.bind fun x=>(cA cx i sc).v.bind fun y=>(cA cx e sc).v.bind fun d=>some ⟨HZ x.d y.d d.d,kF d.m (fun β C vs w k=>((x.d C vs w.2).bind fun u=>(y.d C vs u.2).bind fun z=>(nY z.2 u.1 z.1 w.1).bind fun s=>some (.next,vs,s)).bind k),fun X O e=>DA (x.se X O e) (y.se X O e) (d.se X O e),Hz d.nt fun v v v v v=>rfl⟩
|.Tuple es c q=>jC (rn (.Tuple es c q) e) fun hok=>match LR sc (.Tuple es c q) with
  |some y=>IS cx sc (.Tuple es c q) e p y hok
  |none=>(H4 cx sc es).bind fun ZO=>jC (!es.isEmpty) fun hn=>(cA cx e sc).v.bind fun d=>some ⟨HE ZO.1 d.d,kF d.m (fun β C vs x k=>(gU x.1).bind fun l=>(jR ZO.1 C l vs x.2).bind fun s=>k (.next,vs,s)),fun X O e=>BB O (ZO.2 X O e) (fun h=>by subst h;injection hn) (d.se X O e) hok,Hz d.nt fun v v v v v=>NF⟩
|r=>none
def RS(cx:Cx)(sc:Scope)(t:Expr)(o:Operator)(e:Expr)(p:Pos):CS cx sc (.AugAssign t o e p):=match t with
|.Name x q=>jC (fO sc x) fun h1=>jC (bj x) fun h2=>(pf x).bind fun k=>(cA cx e sc).v.bind fun d=>some ⟨Ij k.1 o d.d,kD _,fun X O e=>CA (wg h1) k.2 h2 (d.se X O e),ut _⟩
|.Attribute b a q=>(cA cx b sc).v.bind fun y=>(pf a).bind fun k=>jC (cx.atts.contains k.1) fun h=>(cA cx e sc).v.bind fun d=>some ⟨Iy y.d k.1 o d.d,kD _,fun X O e=>A9 O k.2 (O.Y.atts _ (e▸h)) (y.se X O e) (d.se X O e),ut _⟩
|z=>none
def Th(cx:Cx)(sc:Scope)(e:Option Expr)(p:Pos):CS cx sc (.Return e p):=match e with
|none=>some ⟨_,kD _,fun X O e=>DR,ut _⟩
|some e=>(cA cx e sc).v.bind fun d=>some ⟨KC d.d,kF d.m (fun β z vs x k=>(fi x.2 x.1).bind fun y=>k (.ret y.1,vs,y.2)),fun X O e=>FK (d.se X O e),Hz d.nt fun z z z z z=>ba⟩
def S1(cx:Cx)(sc:Scope)(t e:Expr)(b o:List Stmt)(p:Pos)(bd:CB cx sc b):CS cx sc (.For t e b o p):=match o with
|[]=>(LR sc t).bind fun y=>(cA cx e sc).it.bind fun i=>bd.bind fun b=>jC (!i.d.1||Z4 t) fun h=>some ⟨OF y.1.1 i.d.2 b.t,kF i.m (fun β C vs w k=>(au (fun x vs s=>(y.1.1 x vs).bind fun vs=>b.t C vs s) w.1 vs w.2.2).bind fun z=>k (z.1,z.2.1,aO z.2.2 w.2.1)),fun X O e=>Ej y.2 (uG h) (i.se X O e) i.ns (b.ts X O e),Hz i.nt fun v v v v v=>ba⟩
|u=>none
def KY(cx:Cx)(sc:Scope)(t:Expr)(b o:List Stmt)(p:Pos)(bd:CB cx sc b):CS cx sc (.While t b o p):=match o with
|[]=>(cA cx t sc).t.bind fun t=>bd.bind fun b=>some ⟨zK (iS t.m) b.t,kD _,fun X O e=>yS (ST.Zy (t.se X O e) t.nt) (b.ts X O e),ut _⟩
|z=>none
def Ti(sc:Scope)(b:List Stmt)(hs:List ExceptHandler)(o f:List Stmt)(p:Pos)(bd:CB cx sc b):CS cx sc (.Try b hs o f p):=match o with
|[]=>match f with
  |[]=>bd.bind fun b=>some ⟨m8 b.d,fZ b.m,fun X O e=>Gc (b.se X O e),fC b.nt⟩
  |z=>none
|z=>none
def Mu(cx:Cx)(sc:Scope)(ts:List Expr)(e:Expr)(p:Pos):CS cx sc (.Assign ts e p):=match ts with
|[]=>none
|t::r=>match r with
  |[]=>RX cx sc t e p
  |z=>none
mutual
noncomputable def cS(cx:Cx)(sc:Scope):(m:Stmt)->CS cx sc m
|.Assign ts e p=>Mu cx sc ts e p
|.AugAssign t o e p=>RS cx sc t o e p
|.Expr e p=>jC (!jr e) fun h=>(cA cx e sc).v.bind fun d=>some ⟨Ia d.d,kF d.m (fun β z vs x k=>k (.next,vs,x.2)),fun X O e=>AY (qd h) (d.se X O e),Hz d.nt fun z z z z z=>rfl⟩
|.If t b o p=>(cA cx t sc).t.bind fun t=>(oX cx sc b).bind fun b=>(oX cx sc o).bind fun o=>some ⟨R8 t.d (m8 b.d) (m8 o.d),Dv t.m (fZ b.m) (fZ o.m),fun X O e=>Bj (t.se X O e) (b.se X O e) (o.se X O e),xY t.nt (fC b.nt) (fC o.nt)⟩
|.While t b o p=>KY cx sc t b o p (oX cx sc b)
|.For t e b o p=>S1 cx sc t e b o p (oX cx sc b)
|.Return e p=>Th cx sc e p
|.Break p=>some ⟨xM .brk,kD _,fun X O e=>wn (fun env=>⟨p,rfl⟩) (.inr (.inl ⟨rfl,rfl⟩)),ut _⟩
|.Continue p=>some ⟨xM .cont,kD _,fun X O e=>wn (fun env=>⟨p,rfl⟩) (.inr (.inr ⟨rfl,rfl⟩)),ut _⟩
|.Pass p=>some ⟨xM .next,kD _,fun X O e=>wn (fun env=>⟨p,rfl⟩) (.inl ⟨rfl,rfl⟩),ut _⟩
|.Raise _ _ _=>some ⟨Ĭ,kD _,fun X O e=>Mw,ut _⟩
|.Try b hs o f p=>Ti sc b hs o f p (oX cx sc b)
|y=>none
noncomputable def oX(cx:Cx)(sc:Scope):(m:List Stmt)->CB cx sc m
|[]=>some ⟨[],[],fun X O e=>FH,.nil⟩
|m::r=>(cS cx sc m).bind fun d=>(oX cx sc r).bind fun ds=>some ⟨d.d::ds.d,d.m::ds.m,fun X O e=>si (d.se X O e) (ds.se X O e),.cons d.nt ds.nt⟩
end
end
section
variable{T:Tp}{G:Gh}{h:Heap}{s:Shared}{A:Around}
theorem wc:∀{ps:List Nat}{l:List PV}{vs:List Value},(∀k∈ps,enc (dec k)=some k)->Vs T G h l vs->∀{y:Nat},enc (dec y)=some y->
  match aQ (ps.zip l) y with
  |some p=>∃v,((ps.map dec).zip vs).lookup (dec y)=some v∧V T G h p v
  |none=>((ps.map dec).zip vs).lookup (dec y)=none
|[],l,vs,_,x,y,hy=>rfl
|k::ps,[],vs,_,x,y,hy=>by obtain rfl:=x;rfl
|k::ps,p::l,vs,hp,x,y,hy=>by
  obtain⟨v,r,rfl,a,b⟩:=x;show match(if k=y then some p else aQ (ps.zip l) y) with
   |some p=>∃w,((dec k,v)::(ps.map dec).zip r).lookup (dec y)=some w∧V T G h p w
   |none=>((dec k,v)::(ps.map dec).zip r).lookup (dec y)=none
  rw[YG];by_cases hk:k=y
  ·subst hk;rw[Yh rfl,Y5];exact⟨v,rfl,a⟩
  ·rw[Yg hk,Y4.mpr fun e=>hk (jQ (hp k Xy) hy e.symm)];exact(wc (fun k h=>hp k (XB _ h)) b hy)
theorem yZ{f:Str×Value->List (Str×Value)->Sem (ForInStep (List (Str×Value)))}(hf:∀x b,f x b=if(b.lookup x.1).isNone then pure (.yield (b++[x])) else pure (.yield b))(L:List (Str×Value)):∀(b:List (Str×Value)),∃b',forIn L b f=pure b'∧∀x,b'.lookup x=(b.lookup x).or (L.lookup x):=by
 induction L with
|nil=>intro b;exact⟨b,by rw[List.forIn_nil],fun x=>(Option.or_none).symm⟩
|cons q0 r ih=>
  obtain⟨n,d⟩:=q0;intro b;rw[List.forIn_cons,hf];by_cases h:(b.lookup n).isNone=true
  ·rw[Yh h,pure_bind];obtain⟨b',e,k⟩:=ih (b++[(n,d)]);refine⟨b',e,fun x=>?_⟩;rw[k,List.lookup_append,YG,YG,List.lookup_nil];cases hx:x==n with
   |true=>rw[Y1.mp hx,Yu.mp h];rfl
   |false=>rw[Option.or_none]
  ·rw[Yg h,pure_bind];obtain⟨b',e,k⟩:=ih b;refine⟨b',e,fun x=>?_⟩;rw[k,YG];cases hx:x==n with
   |true=>
    rw[Y1.mp hx];cases hb:b.lookup n with
    |none=>exact absurd (by rw[hb];rfl) h
    |some v=>rfl
   |false=>rfl
def AK(T:Tp)(ds:List PV)(v:Value):Prop:=(ds=[]∧v=.none)∨∃a items,v=.ref a∧a≠T.P∧T.h0.get? a=some (cT items 0)∧Vs T (G0 T) T.h0 ds items.toList
theorem tY{P:Str->Bool}{Q':Nat->Bool}{qs:List Nat}:(∀k∈qs,P (dec k)=Q' k)->(qs.map dec).any P=qs.any Q':=by
 induction qs with
|nil=>intro _;exact rfl
|cons k qs ih=>intro h;rw[XM,List.any_cons,List.any_cons,h k Xy,ih fun k hk=>h k (XB _ hk)]
theorem t5{α:Type}{f:α->Bool}{l:List α}(h:l.any f=false):(l.filter f).isEmpty=true:=
 List.isEmpty_iff.mpr (List.filter_eq_nil_iff.mpr fun x hx=>List.any_eq_false.mp h x hx)
theorem EJ{f:Nat->Option PV}{g:Str->Option Value}{qs:List Nat}:(∀k∈qs,match f k with|some p=>∃v,g (dec k)=some v∧V T G h p v|none=>g (dec k)=none)->
  ∃xs:List (Nat×PV×Value),(qs.filterMap fun n=>(f n).map fun v=>(n,v))=xs.map (fun x=>(x.1,x.2.1))∧((qs.map dec).filterMap fun n=>(g n).map (n,·))=xs.map (fun x=>(dec x.1,x.2.2))∧∀x∈xs,x.1∈qs∧V T G h x.2.1 x.2.2:=by
 induction qs with
|nil=>intro _;exact⟨[],rfl,rfl,nofun⟩
|cons k qs ih=>
  intro H;obtain⟨xs,a,b,c⟩:=ih fun k hk=>H k (XB _ hk)
  have:=H k Xy;rw[YJ,XM,YJ,a,b];cases hf:f k with
  |none=>rw[hf] at this;exact(show g (dec k)=none from this)▸⟨xs,rfl,rfl,fun x hx=>⟨XB _ (c x hx).1,(c x hx).2⟩⟩
  |some p=>rw[hf] at this;obtain⟨v,e,hv⟩:=this;exact(e)▸⟨(k,p,v)::xs,rfl,rfl,fun x hx=>(Xo.mp hx).elim (fun e=>e▸⟨Xy,hv⟩) fun hx=>⟨XB _ (c x hx).1,(c x hx).2⟩⟩
theorem wJ{α:Type}{M:Model}{A:Around}{E:Value->Shared->Prop}{c:Prop}[Decidable c]{x y:Sem α}{Q:α->Shared->Prop}{s:Shared}(h:¬c)(k:wpAny M A y Q E s):wpAny M A (if c then x else y) Q E s:=by exact(Yg h)▸k
theorem FV{fd:FuncData}{args:List Arg}{kd:List (Option Expr)}{df:List Expr}{ps:List Nat}{vs:List Value}{l ds:List PV}{K:YA->Prop}{Q:List (Str×Value)->Shared->Prop}
  (hp:fd.params=⟨[],args,none,[],kd,none,df⟩) (hn:args.map (·.arg)=ps.map dec) (he:∀k∈ps,enc (dec k)=some k) (hd:AK T ds fd.defaults) (old:∀b o,b≠T.P->T.h0.get? b=some o->s.heap.get? b=some o) (L0:jz (G0 T) T.h0 G s.heap) (hv:Vs T G s.heap l vs) (H:aL (Mine.Internal.eA ps l ds) K)
  (hQ:∀xs:List (Nat×PV×Value),K (xs.map fun x=>(x.1,x.2.1))->(∃f:Nat->Option PV,(ps.filterMap fun n=>(f n).map fun v=>(n,v))=xs.map fun x=>(x.1,x.2.1))->(∀x∈xs,x.1∈ps∧V T G s.heap x.2.1 x.2.2)->Q (xs.map fun x=>(dec x.1,x.2.2)) s):
  W T A (PySem.bindArgs fd ⟨vs,[]⟩) Q s:=by
 obtain⟨nm,qn,params,body,scope,gl,cl,dfl,kdf,doc,pm,an,code,ct,bu⟩:=fd;dsimp only at hp hd;subst hp;obtain⟨o,hs,hV⟩:∃o:Option (Array Value),(∀{Q:Option (Array Value)->Shared->Prop},Q o s->wpAny (model T.prog T.w) A (seqItems? dfl) Q no s)∧Vs T G s.heap ds (o.getD #[]).toList:=by
  rcases hd with⟨rfl,rfl⟩|⟨a,items,rfl,hP,ha,hV⟩
  ·exact⟨none,fun hq=>Yb hq,iC⟩
  ·exact⟨some items,fun hq=>wpAny_seqItems (old a _ hP ha) rfl hq,hV.lat L0⟩
 generalize hD:(o.getD #[]).toList=D at hV;have Ō:Vs T G s.heap (ds.drop (ds.length-ps.length)) (D.drop (D.length-(ps.map dec).length)):=by rw[hV.length,Xm];exact hV.drop _
 let' H:aL (Do ps l (ds.drop (ds.length-ps.length))) K:=H;generalize ds.drop (ds.length-ps.length)=ds' at H Ō;generalize hD':D.drop (D.length-(ps.map dec).length)=D' at Ō;obtain⟨h1,H⟩:=kj H;obtain⟨h2,H⟩:=kj H;let' el:=Ō.length;let' hA:∀k∈ps,match aQ (ps.zip l) k with|some p=>∃v,((ps.map dec).zip vs).lookup (dec k)=some v∧V T G s.heap p v|none=>((ps.map dec).zip vs).lookup (dec k)=none:=(fun k hk=>wc he hv (he k hk))
 have hm:((((ps.map dec).take ((ps.map dec).length-D'.length)).filter fun n=>(((ps.map dec).zip vs).lookup n).isNone)).isEmpty=true:=by
  refine t5 ?_;rw[Xm,<-List.map_take,el,tY (Q':=fun n=>(aQ (ps.zip l) n).isNone) fun k hk=>?_]
  ·exact Bool.eq_false_iff.mpr h2
  ·have:=hA k (List.mem_of_mem_take hk);cases e:aQ (ps.zip l) k with
   |none=>rw[e] at this;rw[show((ps.map dec).zip vs).lookup (dec k)=none from this];rfl
   |some p=>rw[e] at this;obtain⟨v,e',_⟩:=this;rw[e'];rfl
 obtain⟨b',eb,kb⟩:=yZ (f:=fun x b=>if(b.lookup x.1).isNone then pure (.yield (b++[x])) else pure (.yield b)) (fun z z=>rfl) (((ps.map dec).drop ((ps.map dec).length-D'.length)).zip D') ((ps.map dec).zip vs);obtain⟨xs,a,b,c⟩:=EJ (T:=T) (G:=G) (h:=s.heap) (f:=Dj ps l ds') (g:=fun n=>b'.lookup n) (qs:=ps) fun k hk=>by
  rw[kb];unfold Dj;let' z1:=hA k hk;rw[Xm,el,<-List.map_drop];cases e:aQ (ps.zip l) k with
  |some p=>rw[e] at z1;obtain⟨v,e',hv⟩:=z1;exact⟨v,by rw[e'];rfl,hv⟩
  |none=>rw[e] at z1;rw[show((ps.map dec).zip vs).lookup (dec k)=none from z1];exact(wc (ps:=ps.drop (ps.length-ds'.length)) (fun k h=>he k (List.mem_of_mem_drop h)) Ō (he k hk))
 let' hq:=hQ xs (a▸H) ⟨_,a⟩ c;rw[<-b] at hq;let' n1:¬(decide (vs.length>(ps.map dec).length)&&(none:Option Arg).isNone)=true:=(fun e=>h1 (by have e:=Ye (az e).1;rw[Xm,hv.length] at e;exact e))
 have n2:¬(!((((ps.map dec).take ((ps.map dec).length-D'.length)).filter fun n=>(((ps.map dec).zip vs).lookup n).isNone)).isEmpty)=true:=by rw[hm];decide
 clear hm hA h1 h2 el Ō hV hv c kb he H hd old L0;subst hD';subst hD;rw[<-hn] at n1 n2 eb hq;rw[<-Xu (args.map (·.arg))] at hq;unfold PySem.bindArgs;refine X9 (Yb (X9 (hs (wJ n1 (wJ n2 (X9 (Zc eb (X9 (Yb ?_)))))))));exact Yb hq
end
theorem FG{v:YA}{k:Nat}{q:PV}(h:aQ v k=some q):(k,q)∈v:=by
 induction v with
|nil=>injection h
|cons y r ih=>
  obtain⟨a,b⟩:=y;by_cases hk:a=k
  ·subst hk;let' h:some b=some q:=(Yh rfl).symm.trans h;obtain rfl:=Xn h;exact Xy
  ·exact XB _ (ih ((Yg hk).symm.trans h))
theorem Dq{f:Nat->Option PV}{ps:List Nat}(h:ps.Nodup):((ps.filterMap fun n=>(f n).map fun v=>(n,v)).map (·.1)).Nodup:=by
 refine h.sublist ?_;clear h;induction ps with
|nil=>exact .slnil
|cons k r ih=>
  rw[YJ];cases f k with
  |none=>exact ih.cons k
  |some v=>exact ih.cons_cons k
section
variable{X:Sx}{sc:Scope}
theorem nO{f:Str×Value->PUnit->Sem (ForInStep PUnit)}{G:Gh}{st:St}:∀(xs:List (Nat×PV×Value)) {F:Fr}{s:Shared},(∀x u,f x u=(do storeName F.env x.1 x.2;pure (.yield ⟨⟩)))->dY G F.env F.lev sc->At X sc F G s st->
  (∀x∈xs,(sc.names.lookup (dec x.1)=some .local∨sc.names.lookup (dec x.1)=some .cell)∧enc (dec x.1)=some x.1∧V X.T G s.heap x.2.1 x.2.2)->
  wp X F (forIn (xs.map fun x=>(dec x.1,x.2.2)) ⟨⟩ f) (fun z s'=>At X sc (F.w (ub F.vars (xs.map fun x=>(x.1,x.2.1)))) G s' st∧cB (Xf F.lev) G s G s') s
|[],F,s,hf,O,a,H=>by rw[List.map_nil,List.forIn_nil];exact Yb ⟨a,Ex.refl _ _ _ _⟩
|x::xs,F,s,hf,O,a,H=>by obtain⟨h1,h2,h3⟩:=H x Xy;rw[XM,List.forIn_cons,hf];refine X9 (X9 ((kq a O h1 h2 h3).mono fun z s1 ⟨a1,x1⟩=>Yb ?_));exact(nO xs (F:=F.w (dK F.vars x.1 x.2.1)) hf O a1 fun y hy=>let⟨p,q,r⟩:=H y (XB _ hy);⟨p,q,r.lat x1.lat⟩).mono fun z s2 ⟨a2,x2⟩=>⟨a2,x1.trans x2⟩
end
def B9:Expr->Option PV
|.Constant c _ _=>(AH c).map (·.1)
|z=>none
noncomputable def xw:List Expr->Option (List PV)
|[]=>some []
|e::r=>(B9 e).bind fun v=>(xw r).bind fun l=>some (v::l)
def Lq:Expr->Option PV
|.Tuple es _ _=>(xw es).map .tup
|e=>B9 e
noncomputable def fy:List Expr->Option (List PV)
|[]=>some []
|e::r=>(Lq e).bind fun v=>(fy r).bind fun l=>some (v::l)
noncomputable def EE:List Str->Option (List Nat)
|[]=>some []
|x::r=>(enc x).bind fun n=>(EE r).bind fun l=>some (n::l)
structure ï where
 ps:List Nat
 ds:List PV
 m:KM R3
 nt:Nt m (iS m)
def ï.fn(f:ï):Fn:=⟨f.ps,f.ds,iS f.m⟩
def nV(cx:Cx)(a:Arguments)(body:List Stmt)(sc:Scope):Option ï:=
 (EE (a.args.map (·.arg))).bind fun ps=>(fy a.defaults).bind fun ds=>(oX cx sc body).bind fun b=>
  if decide ps.Nodup&&a.args.all (fun x=>fO sc x.arg) then some ⟨ps,ds,fZ b.m,(fC b.nt).Zy⟩ else none
def JP(cx:Cx)(a:Arguments)(body:List Stmt)(sc:Scope):Option Fn:=(nV cx a body sc).bind fun f=>some f.fn
theorem Ev{α:Type 1}{β:Type}{x:Option α}{f:α->Option β}{K:β->Prop}(H:aL (x.bind f) K):∃a,x=some a∧aL (f a) K:=by cases x with|none=>exact H.elim|some a=>exact⟨a,rfl,H⟩
theorem r7{α:Type}{β:Type 1}{x:Option α}{f:α->Option β}{b:β}(h:x.bind f=some b):∃a,x=some a∧f a=some b:=by cases x with|none=>injection h|some a=>exact⟨a,rfl,h⟩
theorem EX{l:List Str}:∀{K:List Nat->Prop},aL (EE l) K->∃ps,K ps∧l=ps.map dec∧∀k∈ps,enc (dec k)=some k:=by
 induction l with
|nil=>intro K H;exact⟨[],H,rfl,nofun⟩
|cons x r ih=>intro K H;obtain⟨k,hk,H⟩:=(ab H).get;obtain⟨ps,H,a,b⟩:=ih (ab H);obtain⟨c,d⟩:=bz hk;exact⟨_,H,by rw[XM,c,a],fun y hy=>(Xo.mp hy).elim (fun e=>e▸d) (b y)⟩
structure QE(T:Tp)(cx:Cx)(f:Fn)(args:List Arg)(body:List Stmt)(sc:Scope)(cd:Value)(ql:Str):Prop where
 nam:args.map (·.arg)=f.params.map dec
 enc:∀k∈f.params,enc (dec k)=some k
 nodup:f.params.Nodup
 own:∀k∈f.params,fO sc (dec k)=true
 body:∀X,Ok X->X.cx=cx->X.T=T->∀{F:Fr}{G:Gh}{s:Shared}{st:St}{Q:Flow->Shared->Prop},F.env.code=cd->F.env.qual=ql->At X sc F G s st->dY G F.env F.lev sc->aL (f.body X.C F.vars st) (fj X sc F (Xs G.n F.lev) G s Q)->wp X F (execs body F.env) Q s
theorem Kz{T:Tp}{cd:Value}{ql:Str}{cx:Cx}{a:Arguments}{sc:Scope}{body:List Stmt}{f:Fn}(h:JP cx a body sc=some f):QE T cx f a.args body sc cd ql:=by
 obtain⟨g,hg,H⟩:=Ev (aL.of h);obtain rfl:g.fn=f:=H;obtain⟨ps,e1,hg⟩:=r7 hg;obtain⟨Zt,rfl,h1,h2⟩:=EX (aL.of e1);obtain⟨ds,_,hg⟩:=r7 hg;cases hb:oX cx sc body with
|none=>rw[hb] at hg;injection hg
|some b=>
  rw[hb] at hg;by_cases hc:(decide Zt.Nodup&&a.args.all fun x=>fO sc x.arg)=true
  ·let' hg:(if(decide Zt.Nodup&&a.args.all fun x=>fO sc x.arg)=true then some (⟨Zt,ds,fZ b.m,(fC b.nt).Zy⟩:ï) else none)=some g:=hg;rw[Yh hc] at hg;obtain rfl:=Xn hg;obtain⟨h3,h4⟩:=az hc;refine⟨h1,h2,Ye h3,fun k hk=>?_,fun X O hx z z z z z z z z a o H=>b.ts X O hx a o H⟩;obtain⟨x,hx,e⟩:=Yt.mp (h1▸List.mem_map_of_mem hk:dec k∈a.args.map (·.arg));exact e▸XV.mp h4 x hx
  ·let' hg:(if(decide Zt.Nodup&&a.args.all fun x=>fO sc x.arg)=true then some (⟨Zt,ds,fZ b.m,(fC b.nt).Zy⟩:ï) else none)=some g:=hg;rw[Yg hc] at hg;injection hg
structure uN(T:Tp)(cx:Cx)(a:Addr)(f:Fn)(o:Obj)(fd:FuncData)(body:List Stmt)(args:List Arg)(kd:List (Option Expr))(df:List Expr):Prop where
 get:T.h0.get? a=some o
 data:o.data=.func fd
 Ą:a≠T.P
 comp:QE T cx f args body fd.scope fd.code (fd.qualname++".<locals>.")
 body:fd.body=.stmts body
 par:fd.params=⟨[],args,none,[],kd,none,df⟩
 co:fd.scope.isCoroutine=false
 gen:fd.scope.isGenerator=false
 kind:fd.scope.kind=.function
 free:∀x∈fd.scope.names,x.2≠.free
 gl:fd.globals=mainGlobals
 cl:fd.closure=[]
 bu:fd.builtins=builtinsNs
 code:T.h0.CodeRec fd.code fd.qualname
 ð:∀c,fd.code=.ref c->c≠T.P
 dfl:AK T f.Z7 fd.defaults
structure nj(T:Tp):Prop where
 lim:T.h0.NoLimit
 ą:cStatics≠T.P
def R9(T:Tp)(G:Gh)(h:Heap):Fl->Value->Prop
|.next,v=>v=.none
|.ret p,v=>V T G h p v∧aw p=true
|z,y=>True
theorem qj{X:Sx}(O:Ok X)(Rm:nj X.T){cx:Cx}(ō:X.cx=cx){a:Addr}{f:Fn}{o:Obj}{fd:FuncData}{body:List Stmt}{args:List Arg}{kd:List (Option Expr)}{df:List Expr}(Fa:uN X.T cx a f o fd body args kd df)
  {G1:Gh}{s:Shared}{Zo:St}{A:Around}{l:List PV}{vs:List Value}{Rr:Result->Shared->Prop}(R1:aG X.T G1 s Zo) (hm:G1.n=G1.top) (rm:A.handled=none∧A.depth+1+4*X.n≤900∧A.units+3+40*X.n≤9000) (hv:Vs X.T G1 s.heap l vs)
  (H:aL ((Mine.Internal.eA f.params l f.Z7).bind fun vars=>f.body X.C vars Zo) fun y=>∀G2 s2 v,aG X.T G2 s2 y.2.2->cB (Xs G1.n G1.n) G1 s G2 s2->R9 X.T G2 s2.heap y.1 v->Rr (.ok (.ret v)) s2):codeAny (model X.T.prog X.T.w) A (.call (.ref a) ⟨vs,[]⟩) Rr s:=by
 have cf:=Fa.comp;have r1:=rm.2;have r2:=rm.3;refine codeAny_call_function (by show A.depth<1000;exact XQ (Xk (XH _ _) (Xk (XH _ _) r1)) (by decide)) (R1.old _ _ Fa.Ą Fa.get).1 Fa.data Fa.co Fa.gen Fa.body ?_ (dA (FV Fa.par cf.nam cf.enc Fa.dfl (fun b o h e=>(R1.old b o h e).1) R1.Ļ hv (ab H) fun xs H ⟨fm,hfm⟩ hV=>?_))
 ·obtain⟨c,oc,w,tq,z1,z2,z3⟩:=Fa.code;exact⟨c,oc,w,tq,z1,(R1.old _ _ (Fa.ð c z1) z2).1,z3⟩
 unfold newFunctionEnv;rw[Yg (show ¬(none:Option Env).isSome=true by decide)];refine X9 (wpAny_alloc ?_);refine X9 (wpAny_layCells _ (fun name kind cells=>by cases Μ:kind==NameKind.cell<;>simp[Μ]) _ _ _ _ ?_);rw[show({s with heap:=s.heap.push {cls:=.type "frame",data:=.dict #[]}}:Shared).heap.objs.size=s.heap.objs.size+1 from Heap.size_push ..,Fa.cl,Fa.gl,Fa.bu];have hL:s.heap.get? s.heap.objs.size=none:=aV _;have k:gn s.heap (pushCells (s.heap.push {cls:=.type "frame",data:=.dict #[]}) fd.scope.names):=fun b o e=>pushCells_keeps _ _ b o (Xv _ e)
 have ok:=cellsFrom_ok fd.scope.names (s.heap.push {cls:=.type "frame",data:=.dict #[]}) (s.heap.objs.size+1) [] ⟨fun z z hm=>(nomatch hm),List.Pairwise.nil⟩ (by rw[Heap.size_push];exact Xx _);rw[Heap.size_push] at ok;have fresh:∀x c,(x,c)∈cellsFrom (s.heap.objs.size+1) fd.scope.names []->s.heap.get? c=none:=fun x c h=>Heap.get?_none_of_le (Nat.le_of_succ_le (ok.empty x c h).2)
 have ş:∀x c,(x,c)∈cellsFrom (s.heap.objs.size+1) fd.scope.names []->c≠s.heap.objs.size:=fun x c h=>Nat.ne_of_gt (ok.empty x c h).2
 have ň:(pushCells (s.heap.push {cls:=.type "frame",data:=.dict #[]}) fd.scope.names).Ns s.heap.objs.size fun z=>none:=(Heap.Ns.new s.heap (.type "frame")).keeps (pushCells_keeps _ _)
 obtain⟨Rf,M⟩:=R1.í (L:=s.heap.objs.size) (cs:=cellsFrom (s.heap.objs.size+1) fd.scope.names []) (n:=G1.n) (t:=G1.top) (la:=G1.la) (lst:=Zo.l) s.toks k hL fresh
  (by obtain⟨o,es,ep,e,_⟩:=ň;exact⟨o,e⟩) (fun x c h=>by obtain⟨o,e,_⟩:=(ok.empty x c h).1;exact⟨o,e⟩) R1.nle (Xx _) R1.llen fun i e b h1 h2=>.inl ⟨h1,h2,rfl,Xq _⟩
 have X0:cB (Xs G1.n G1.n) G1 s _ _:=Ex.mv R1 M (Xq _) rfl (fun z=>rfl) fun b n k e d=>by rw[R1.fresh (d.elim (fun h=>h▸hL) fun Zg=>by obtain⟨x,h⟩:=Zg;exact fresh x b h)] at e;injection e
 have has:∀x,fd.scope.names.lookup x=some .cell->∃c,(cellsFrom (s.heap.objs.size+1) fd.scope.names []).lookup x=some c:=fun x hx=>jh fd.scope.names (s.heap.objs.size+1) x (aX hx)
 have Ć:∀x c,(cellsFrom (s.heap.objs.size+1) fd.scope.names []).lookup x=some c->Heap.IsCell (pushCells (s.heap.push {cls:=.type "frame",data:=.dict #[]}) fd.scope.names) c none∧(G1.frame s.heap.objs.size (cellsFrom (s.heap.objs.size+1) fd.scope.names []) G1.n G1.top G1.la).own c=.fr G1.top (.cell x):=fun x c h=>
  ⟨(ok.empty x c (aX h)).1,G1.ZJ _ _ _ ok.apart (aX h) (ş x c (aX h))⟩
 refine X9 (dA (W.mono (nO (X:=X) (sc:=fd.scope) (st:=Zo) (G:=G1.frame s.heap.objs.size (cellsFrom (s.heap.objs.size+1) fd.scope.names []) G1.n G1.top G1.la) xs
   (F:=⟨{scope:=fd.scope,locals:=s.heap.objs.size,globals:=mainGlobals,cells:=cellsFrom (s.heap.objs.size+1) fd.scope.names [],qual:=fd.qualname++".<locals>.",func:=some a,code:=fd.code,frame:=some s.heap.objs.size,builtins:=builtinsNs},G1.top,[],A.in1⟩)
   (fun z z=>rfl) (fun x hx=>by obtain⟨c,hc⟩:=has x hx;exact⟨c,hc,(Ć x c hc).2⟩)
   ⟨Rf,⟨Fa.kind,rfl,rfl,⟨_,ň,G1.Ø ..,nofun⟩,nofun,fun x c h=>⟨⟨_,(Ć x c h).1⟩,_,Xx _,(Ć x c h).2⟩,fun x h=>h.elim (has x) fun h=>absurd rfl (Fa.free _ (aX h)),nofun⟩,
    ⟨rm.1,by show A.depth+4*X.n≤900;exact Xk (XJ (Nat.le_succ _) _) r1,by show A.units+1+40*X.n≤9000;exact Xk (XJ (XA (by decide) _) _) r2⟩,Xx _,fun x=>.inl rfl⟩
   fun x Ï=>let⟨a1,a2⟩:=hV x Ï;⟨wg (cf.own _ a1),cf.enc _ a1,a2.lat X0.lat⟩) fun z s3 ⟨a3,x3⟩=>Yb ⟨Rm.lim.at fun o e=>(a3.R.old _ _ Rm.ą e).1,codeAny_func (dA ?_)⟩))
 have nd:((xs.map fun x=>(x.1,x.2.1)).map (·.1)).Nodup:=hfm▸Dq cf.nodup;have a4:At X fd.scope ⟨{scope:=fd.scope,locals:=s.heap.objs.size,globals:=mainGlobals,cells:=cellsFrom (s.heap.objs.size+1) fd.scope.names [],qual:=fd.qualname++".<locals>.",func:=some a,code:=fd.code,frame:=some s.heap.objs.size,builtins:=builtinsNs},G1.top,xs.map fun x=>(x.1,x.2.1),A.deeper {scope:=fd.scope,locals:=s.heap.objs.size,globals:=mainGlobals,cells:=cellsFrom (s.heap.objs.size+1) fd.scope.names [],qual:=fd.qualname++".<locals>.",func:=some a,code:=fd.code,frame:=some s.heap.objs.size,builtins:=builtinsNs}⟩ _ s3 Zo:=
  ⟨a3.R,a3.E.weaken fun y q h=>qW nd (FG h),⟨rm.1,by show A.depth+1+4*X.n≤900;exact r1,by show A.units+3+40*X.n≤9000;exact r2⟩,a3.lv,a3.ZK⟩
 refine cf.body X O ō rfl rfl rfl a4 (fun x hx=>let⟨c,hc⟩:=has x hx;⟨c,hc,(Ć x c hc).2⟩) (H.mono fun q0 H=>?_);obtain⟨fl,w,Zu⟩:=q0;have Κ:cB (Xs G1.n G1.n) G1 s _ s3:=X0.trans (x3.mono fun m k h=>.inr (hm▸h));have ţ:∀{G2 s2},cB (Xs G1.n G1.top) (G1.frame s.heap.objs.size (cellsFrom (s.heap.objs.size+1) fd.scope.names []) G1.n G1.top G1.la) s3 G2 s2->cB (Xs G1.n G1.n) G1 s G2 s2:=fun x=>Κ.trans (x.mono fun m k h=>hm▸h)
 cases fl with
|ret p=>exact fun G2 s2 v r=>H G2 s2 v r.R (ţ r.x) ⟨r.v,r.nl⟩
|next=>exact fun G2 s2 r=>H G2 s2 _ r.a.R (ţ r.x) rfl
|brk=>exact fun G2 s2 r=>H G2 s2 _ r.a.R (ţ r.x) trivial
|cont=>exact fun G2 s2 r=>H G2 s2 _ r.a.R (ţ r.x) trivial
theorem Im{α β:Type}{x:Option α}{f:α->Option β}{Q:β->Prop}(h:aL x fun a=>aL (f a) Q):aL (x.bind f) Q:=by cases x with|none=>exact h|some a=>exact h
structure En(G:Gh)(s:Shared)(G':Gh)(s':Shared):Prop where
 fz:∀a o,G.own a=.fz->s.heap.get? a=some o->s'.heap.get? a=some o∧G'.own a=.fz
 fr:∀a n k,G.own a=.fr n k->s'.heap.get? a=s.heap.get? a∧G'.own a=.fr n k
 lk:∀a,G.lk a->s'.heap.get? a=s.heap.get? a∧G'.lk a
 ga:G.ga<+:G'.ga
 os:s'.os=s.os
section
variable{T:Tp}{D:Addr->Prop}{G G1 G2:Gh}{s s1 s2:Shared}{st Zo Zu:St}
theorem En.trans(a:En G s G1 s1)(b:En G1 s1 G2 s2):En G s G2 s2:=
 ⟨fun x o e f=>by obtain⟨p,q⟩:=a.fz x o e f;exact b.fz x o q p,fun x m k e=>by obtain⟨p,q⟩:=a.fr x m k e;obtain⟨p',q'⟩:=b.fr x m k q;exact⟨p'.trans p,q'⟩,fun x h=>by obtain⟨p,q⟩:=a.lk x h;obtain⟨p',q'⟩:=b.lk x q;exact⟨p'.trans p,q'⟩,a.ga.trans b.ga,b.os.trans a.os⟩
theorem Mv.en(R:aG T G s st)(M:Mv D G s G1 s1)(h:∀b,D b->s.heap.get? b=none):En G s G1 s1:=
 have nd:∀{b o},s.heap.get? b=some o->¬D b:=fun e d=>by rw[h _ d] at e;injection e
 ⟨M.fz,fun a n k e=>have⟨o,eo⟩:=R.there a (by rw[e];nofun);⟨(M.kh a o (nd eo) eo).trans eo.symm,(M.kt a (nd eo)).trans e⟩,
  fun a hl=>have⟨⟨o,eo⟩,_⟩:=R.lkd a hl;⟨(M.kh a o (nd eo) eo).trans eo.symm,M.lk▸hl⟩,M.ga,M.os⟩
theorem aG.call(R:aG T G s st):∃G',aG T G' s ⟨[],st.g⟩∧En G s G' s∧G'.n=G.top+1∧G'.top=G.top+1∧G'.ga=G.ga:=by
 have no:∀b,¬ ∃m k,G.own b=.fr m k∧¬m≤G.top+1:=fun b Zg=>by obtain⟨m,k,e,h⟩:=Zg;exact h (XX (R.lev b m k e).1)
 obtain⟨R',M⟩:=R.back (n:=G.top+1) (t:=G.top+1) (la:=[]) (lst:=[]) (h':=s.heap) s.toks (Xx _) rfl (fun b o z e=>e) (fun b o z e=>e) nofun;exact⟨_,R',M.en R fun b d=>(no b d).elim,rfl,rfl,rfl⟩
theorem rS:∀{g g':List Ent},di g g'=true->∀{i:Nat}{e:Ent},g'[i]?=some e->e.k.Zp=true->∃y,g[i]?=some y∧y.k.Zp=true
|_,[],_,i,e,h,_=>by injection h
|[],x::r,h,i,e,hi,hk=>by
  let' h:(!x.k.Zp&&di [] r)=true:=h;cases i with
  |succ i=>obtain⟨y,e',_⟩:=rS (az h).2 (show r[i]?=some e from hi) hk;exact nomatch e'
  |zero=>obtain rfl:=Xn hi;have:=qd (az h).1;rw[hk] at this;injection this
|a::g,x::r,h,i,e,hi,hk=>by
  let' h:((!x.k.Zp||a.k.Zp)&&di g r)=true:=h;cases i with
  |succ i=>exact rS (az h).2 (show r[i]?=some e from hi) hk
  |zero=>obtain rfl:=Xn hi;have:=(az h).1;rw[hk] at this;exact⟨a,rfl,this⟩
theorem dp.ñ{G':Gh}{s':Shared}{n i:Nat}{a:Addr}{e:Ent}(x:dp T G s.heap (dX n i e.k) a e)(E:cB (fun z z=>False) G s G' s'):G'.own a=dX n i e.k∧gY T G' s'.heap (fun dx=>G'.own dx=(dX n i e.k).d) a e.o:=by
 have mv:∀b o,G.own b=dX n i e.k∨G.own b=(dX n i e.k).d->s.heap.get? b=some o->s'.heap.get? b=some o∧G'.own b=G.own b:=fun b o hb eo=>by
  cases hk:e.k with
  |ZG=>rw[hk] at hb;have hb:G.own b=.fz:=hb.elim id id;obtain⟨p,q⟩:=E.lat.fz b o hb eo;exact⟨p,q.trans hb.symm⟩
  |_=>
   rw[hk] at hb;obtain⟨d,hb⟩:∃d,G.own b=.fr n (.obj i d):=hb.elim (fun h=>⟨_,h⟩) fun h=>⟨_,h⟩
   obtain⟨p,q⟩:=E.fr b _ _ hb id;exact⟨p.trans eo,q.trans hb.symm⟩
 obtain⟨o,eo⟩:=x.obj.get;exact⟨(mv a o (.inl x.own) eo).2.trans x.own,x.obj.lt E.lat (fun o e=>(mv a o (.inl x.own) e).1) (fun dx o d e=>by obtain⟨p,q⟩:=mv dx o (.inr d) e;exact⟨p,q.trans d⟩) (fun h=>by injection h)⟩
theorem dp.keep{G':Gh}{s':Shared}{n i:Nat}{a:Addr}{e:Ent}(x:dp T G s.heap (dX n i e.k) a e)(E:cB (fun z z=>False) G s G' s')(Ĕ:∀b,G'.lk b↔G.lk b):dp T G' s'.heap (dX n i e.k) a e:=
 ⟨(x.ñ E).1,(x.ñ E).2,fun h hl=>x.mu h ((Ĕ a).mp hl),fun h=>(Ĕ a).mpr (x.tm h)⟩
theorem xX(R:aG T G s st)(en:En G s G1 s1){X:Nat->b5->Prop}(x:cB X G1 s1 G2 s2)(hX:∀m k,m≤G.top->¬X m k)(R2:aG T G2 s2 Zu)(Ĕ:di st.g Zu.g=true):
  ∃G3,aG T G3 s2 ⟨st.l,Zu.g⟩∧cB (fun z z=>False) G s G3 s2∧Lt true G2 s2.heap G3 s2.heap∧∀b m k,G2.own b=.fr m k->G.top<m->G3.own b=.fz:=by
 have ù:G.ga<+:G2.ga:=en.ga.trans x.lat.ga;have Ŏ:∀b,G.lk b->G2.lk b:=fun b h=>(x.lk b (en.lk b h).2).2
 obtain⟨RA,MA⟩:=R2.back (n:=G.n) (t:=G.top) (la:=[]) (lst:=[]) (h':=s2.heap) s2.toks R.nle rfl (fun b o z e=>e) (fun b o z e=>e) nofun;have RB:=RA.Z2 (lk':=G.lk) (st':=⟨[],Zu.g⟩) rfl rfl nofun (fun i e a h1 h2=>⟨e,h1,rfl,(R2.gk i e h1).1,fun h hl=>(R2.g i e a h1 h2).mu h (Ŏ a hl),fun h=>by
   obtain⟨y,e',Ş⟩:=rS Ĕ h1 h;have e2:G.ga[i]?=some a:=by obtain⟨t,et⟩:=ù;have h2:G2.ga[i]?=some a:=h2;rw[<-et,Ys (by exact(R.glen)▸(XO.mp e').1)] at h2;exact h2
   exact(R.g i _ a e' e2).tm Ş⟩) fun a h=>RA.lkd a (Ŏ a h)
 have fzk:∀b,G2.own b=.fz->cI G.top (cI G.top (G2.own b))=.fz:=fun b e=>by rw[e];rfl
 have E:cB (fun z z=>False) G s (Gh.back {own:=fun b=>cI G.top (G2.own b),ga:=G2.ga,la:=[],n:=G.n,top:=G.top,lk:=G.lk} G.n G.top G.la) s2:=by
  refine⟨⟨fun a o e f=>?_,fun z=>Xq _,ù⟩,fun a m k e hx=>?_,fun a h=>⟨(x.lk a (en.lk a h).2).1.trans (en.lk a h).1,h⟩,rfl,fun z=>rfl,x.os.trans en.os⟩
  ·obtain⟨p,q⟩:=en.fz a o e f;obtain⟨p',q'⟩:=x.lat.fz a o q p;exact⟨p',fzk a q'⟩
  ·have hm:=(R.lev a m k e).1;obtain⟨p,q⟩:=en.fr a m k e;obtain⟨p',q'⟩:=x.fr a m k q (hX m k hm);refine⟨p'.trans p,?_⟩;refine(?_:cI G.top (cI G.top (G2.own a))=_);rw[q',wG hm,wG hm]
 obtain⟨RC,_⟩:=RB.back (n:=G.n) (t:=G.top) (la:=G.la) (lst:=st.l) (h':=s2.heap) s2.toks R.nle R.llen (fun b o z e=>e) (fun b o z e=>e) fun i e a h1 h2=>.inr fun z=>(R.l i e a h1 h2).keep E fun b=>.rfl
 exact⟨_,RC,E,⟨fun a o e f=>⟨f,fzk a e⟩,(fun h=>by injection h),Xq _⟩,fun b m k e h=>by refine(?_:cI G.top (cI G.top (G2.own b))=_);rw[e,qK (Nat.not_le.mpr h)];rfl⟩
def PC(T:Tp)(G:Gh)(s:Shared)(st':St)(p:PV):Value->Shared->Prop:=fun v s'=>∃G',aG T G' s' st'∧cB (fun z z=>False) G s G' s'∧V T G' s'.heap p v
theorem PC.pe{st':St}{p:PV}{v:Value}{s':Shared}(x:PC T G s st' p v s'):PE T G s st' p v s':=by obtain⟨G',a,b,c⟩:=x;exact⟨G',a,b.mono fun z z h=>h.elim,c⟩
end
section
variable{X:Sx}{cx:Cx}{a:Addr}{f:Fn}{o:Obj}{fd:FuncData}{body:List Stmt}{args:List Arg}{kd:List (Option Expr)}{df:List Expr}{G:Gh}{s:Shared}{st:St}{A:Around}{l:List PV}{vs:List Value}{r:PV×List Ent}
theorem Mb{a j k c m:Nat}(hj:j≤k)(h:a+(m+k)≤c):a+j+m≤c:=by rw[XS,XZ j];exact Xk (XA (XA hj m) a) h
theorem B2{n t:Nat}(h:n=t+1):∀m k,m≤t->¬Xs n n m k:=fun m k hm hx=>by have:m=n:=hx.elim (·.1) (·.1);exact absurd (XQ hm (Yq t)) (by rw[this,h];exact YU _)
theorem B6(O:Ok X)(Rm:nj X.T)(ō:X.cx=cx)(Fa:uN X.T cx a f o fd body args kd df)(h:pJ X.C f l st.g=some r)(R:aG X.T G s st)(rm:fF (X.n+1) A)(hn:aj l=true)(hv:Vs X.T G s.heap l vs):
  W X.T A (PySem.call (.ref a) vs) (PC X.T G s {st with g:=r.2} r.1) s:=by
 let' H:=aL.of h;let' r1:=rm.2;let' r2:=rm.3;obtain⟨G1,R1,en,n1,t1,g1⟩:=R.call;refine wpAny_call (qj O Rm ō Fa R1 (n1.trans t1.symm) ⟨rm.1,Mb (k:=4) (m:=4*X.n) (by decide) rm.2,Mb (k:=40) (m:=40*X.n) (by decide) rm.3⟩ (hv.lt (nl:=true) ⟨en.fz,(fun h=>by injection h),en.ga⟩ fun z=>hn) (Im ((ab H).mono fun vars H=>(ab H).mono fun q0 H G2 s2 v R2 X2 E2=>?_)));obtain⟨fl,w,Zu⟩:=q0;obtain⟨Ĕ,H⟩:=aF H;obtain⟨G3,R3,X3,L3,_⟩:=xX R en X2 (B2 n1) R2 Ĕ;cases fl with
|next=>obtain rfl:(PV.none,Zu.g)=r:=H;obtain rfl:v=.none:=E2;exact⟨G3,R3,X3,gP⟩
|ret q=>obtain rfl:(q,Zu.g)=r:=H;exact⟨G3,R3,X3,E2.1.lt L3 fun z=>E2.2⟩
|brk=>exact H.elim
|cont=>exact H.elim
def li:Nat:=0x5f5f696e69745f5f
theorem yX:dec li=Str.ofString "__init__":=by decide+kernel
theorem pQ{T:Tp}{h0:Heap}{G:Gh}{h':Heap}{x dx D:Addr}{c:Nat}{dk:Addr->Prop}(M:Heap.MadeObj h0 h' x dx D)(hc:T.cls c=some D)(hd:dk dx):gY T G h' dk x (.inst c [])∧dx≠x∧∃o,h'.get? dx=some o:=by
 obtain⟨o,e1,e2,e3,e4⟩:=M.inst;have e5:=M.dict o e1;rcases e4 with⟨e4,_⟩|⟨d,e4,e6,e7⟩
 ·rw[e5] at e4;injection e4
 ·rw[e5] at e4;obtain rfl:=Xn e4;obtain⟨oc,od,odt,osl⟩:=o;subst e2 e5;exact⟨⟨dx,_,hd,⟨(D,odt,osl),⟨hc,e3⟩,e1,e6,e7⟩,List.nodup_nil,nofun,trivial⟩,e6,qt e7⟩
theorem aG.Ì{T:Tp}(R:aG T G s st){x dx D:Addr}{c:Nat}{h':Heap}(M:Heap.MadeObj s.heap h' x dx D)(hc:T.cls c=some D)(t:Bool->iW){la ga:List Addr}{lst g':List Ent}
  (ć:∀d m sl,t d=.fr m sl->m≤G.top∧∀c,sl≠.it c) (hfz:∀d,t d≠.fz) (hd:(t false).d=t true) (hll:la.length=lst.length) (hgl:ga.length=g'.length) (ù:G.ga<+:ga)
  (Hg:∀(i:Nat) (e:Ent) (a:Addr),g'[i]?=some e->ga[i]?=some a->(st.g[i]?=some e∧G.ga[i]?=some a)∨(a=x∧t false=.gl i false∧e=⟨.inst c [],.mut⟩))
  (Hl:∀(i:Nat) (e:Ent) (a:Addr),lst[i]?=some e->la[i]?=some a->(st.l[i]?=some e∧G.la[i]?=some a∧G.la<+:la)∨(a=x∧t false=.fr G.n (.obj i false)∧e=⟨.inst c [],.mut⟩)):
  ∃G',aG T G' {s with heap:=h'} ⟨lst,g'⟩∧En G s G' {s with heap:=h'}∧G'.n=G.n∧G'.top=G.top∧G'.la=la∧G'.ga=ga∧∀b,G'.lk b↔G.lk b:=by
 have⟨mo,dne,ed⟩:=pQ (T:=T) (G:=G) (dk:=fun z=>True) M hc trivial;have no:∀b,b=x∨b=dx->s.heap.get? b=none:=fun b h=>h.elim (fun e=>e▸M.newX) fun e=>e▸M.newD
 have Mv':Mv (fun b=>b=x∨b=dx) G s {own:=fun b=>if b=x then t false else if b=dx then t true else G.own b,ga:=ga,la:=la,n:=G.n,top:=G.top,lk:=G.lk} {s with heap:=h'}:=
  ⟨fun b d=>(Yg fun e=>d (.inl e)).trans (Yg fun e=>d (.inr e)),fun b o z e=>M.keeps b o e,fun b d e=>(by rw[R.fresh (no b d)] at e;injection e),fun b o d z e=>(by rw[no b d] at e;injection e),
   fun b d hl=>(by obtain⟨⟨o,e⟩,_⟩:=R.lkd b hl;rw[no b d] at e;injection e),fun b d z=>⟨?_,fun n k e=>?_⟩,rfl,fun z z z z z h=>h,ù,rfl,rfl⟩
 ·have ent:∀{i:Nat}{e:Ent}{u:iW},t false=u->e=⟨.inst c [],.mut⟩->dp T {own:=fun b=>if b=x then t false else if b=dx then t true else G.own b,ga:=ga,la:=la,n:=G.n,top:=G.top,lk:=G.lk} h' u x e:=fun e1 e2=>by
   subst e1 e2;exact⟨Yh rfl,(pQ (dk:=fun b=>(if b=x then t false else if b=dx then t true else G.own b)=(t false).d) M hc (((Yg dne).trans (Yh rfl)).trans hd.symm)).1,fun z hl=>(by obtain⟨⟨o,e⟩,_⟩:=R.lkd x hl;rw[M.newX] at e;injection e),(fun h=>by injection h)⟩
  have nb:∀b u,G.own b=u->u≠.fz->¬(b=x∨b=dx):=fun b u e h d=>h (e.symm.trans (R.fresh (no b d)))
  refine⟨_,R.mv Mv' R.nle hgl hll (fun i e a h1 h2=>(Hg i e a h1 h2).imp (fun Zg=>by obtain⟨p,q⟩:=Zg;exact⟨p,q,fun b d e=>nb b _ e (fun h=>by injection h)⟩) fun Z6=>by obtain⟨p,q,r⟩:=Z6;exact p▸ent (i:=i) q r) (fun i e h1=>?_)
   fun i e a h1 h2=>(Hl i e a h1 h2).imp (fun Zg=>by obtain⟨p,q,r⟩:=Zg;exact⟨p,q,rfl,r,fun b d e=>nb b _ e (fun h=>by injection h)⟩) fun Z6=>by obtain⟨p,q,r⟩:=Z6;exact p▸ent (i:=i) (by exact(r)▸q) r,Mv'.en R no,rfl,rfl,rfl,rfl,fun b=>.rfl⟩
  have hi:i<ga.length:=by exact(hgl)▸(XO.mp h1).1
  rcases Hg i e _ h1 (XK hi) with⟨p,_⟩|⟨_,_,r⟩
  ·exact R.gk i e p
  ·subst r;exact⟨rfl,rfl⟩
 ·rcases d with rfl|rfl
  ·exact mo.get
  ·exact ed
 ·have e:(if b=x then t false else if b=dx then t true else G.own b)=.fr n k:=e;by_cases h1:b=x
  ·rw[Yh h1] at e;exact⟨(ć _ _ _ e).1,fun c h=>absurd h ((ć _ _ _ e).2 c)⟩
  ·rw[Yg h1,Yh (d.resolve_left h1)] at e;exact⟨(ć _ _ _ e).1,fun c h=>absurd h ((ć _ _ _ e).2 c)⟩
theorem n9(B:lO X.T){c:Nat}{D a:Addr}{m:Nat}(hc:X.T.cls c=some D)(hm:X.T.meth c li=some m)(hf:X.T.fn m=some a){Q:Value->Shared->Prop}(R:aG X.T G s st)
  (hq:∀h' x dx,Heap.MadeObj s.heap h' x dx D->W X.T (A.under (.builtin "type.__call__" ⟨.ref D::vs,[]⟩)) (PySem.call (.ref a) (.ref x::vs)) (fun r s'=>r=.none∧Q (.ref x) s') {s with heap:=h'}):
  W X.T A (PySem.call (.ref D) vs) Q s:=by
 let' K:=B.cls c D hc;obtain⟨nm,q,bs,sn,sub,col,dd,k0,k1,k2,k3,k5,newId,Ê,F⟩:=K.obj;obtain⟨a',o,z1,z2,z3,z4,z5,_⟩:=K.meth li m hm;obtain rfl:=Xn (hf.symm.trans z1);rw[yX] at z2;exact wpAny_call_obj_init F (R.old _ _ K.ď Ê).1 (R.ZB K.ns K.neN) z2 (R.old _ _ z3 z4).1 z5 hq
theorem Kw(O:Ok X){c m:Nat}{D:Addr}(hc:X.T.cls c=some D)(hm:X.T.meth c li=some m)(h:vU X.C c m l st.g=some r)(R:aG X.T G s st)(rm:fF (X.n+1) A)(hn:aj l=true)(hv:Vs X.T G s.heap l vs):
  W X.T A (PySem.call (.ref D) vs) (PE X.T G s {st with g:=r.2} r.1) s:=by
 obtain⟨q,e1,H⟩:=(ab (aL.of h)).get;obtain⟨hq,H⟩:=aF H;obtain rfl:(PV.glob st.g.length,q.2)=r:=H;obtain⟨a,hf,Ą,_,ŏ⟩:=O.O.F m _ _ _ e1;let' r1:=rm.2;let' r2:=rm.3;refine n9 O.B hc hm hf R fun h' x dx M=>?_
 let' hx:(G.ga++[x])[st.g.length]?=some x:=(by exact(R.glen)▸List.getElem?_concat_length)
 obtain⟨G1,R1,en,n1,t1,Ť,Τ,lk1⟩:=R.Ì M hc (fun d=>.gl st.g.length d) (la:=G.la) (ga:=G.ga++[x]) (lst:=st.l) (g':=st.g++[⟨.inst c [],.mut⟩]) nofun nofun rfl R.llen (by rw[Xl,Xl,R.glen];rfl) (List.prefix_append _ _)
  (fun i e a h1 h2=>(Dc R.glen h1 h2).imp id fun Zg=>by obtain⟨p,q,r⟩:=Zg;exact⟨r.symm,YH (iW.gl · false) p.symm,q.symm⟩) fun i e a h1 h2=>.inl ⟨h1,h2,Xq _⟩
 have X1:cB (Xe G.n) G s G1 {s with heap:=h'}:=⟨⟨en.fz,fun z=>Ť▸Xq _,en.ga⟩,fun b m k e z=>en.fr b m k e,en.lk,n1,fun z=>t1,en.os⟩
 refine(ŏ (A:=A.under (.builtin "type.__call__" ⟨.ref D::vs,[]⟩)) (st:=⟨st.l,st.g++[⟨.inst c [],.mut⟩]⟩) rfl R1 ⟨rm.1,Mb (j:=1) (k:=4) (m:=4*X.n) (by decide) rm.2,Mb (j:=1) (k:=40) (m:=40*X.n) (by decide) rm.3⟩ (by rw[aj,hn];rfl) (bA ⟨x,Τ▸hx,rfl⟩ (hv.lat X1.lat))).mono fun w s2 q0=>?_
 obtain⟨G2,R2,X2,V2⟩:=q0;obtain⟨p,g2⟩:=q;cases p with
|none=>obtain rfl:=V2;exact⟨rfl,G2,R2,X1.trans (n1▸X2),x,dq X2.lat.ga (Τ▸hx),rfl⟩
|_=>injection hq
theorem P3(O:Ok X)(Rm:nj X.T)(ō:X.cx=cx){c m:Nat}{D:Addr}(hc:X.T.cls c=some D)(hm:X.T.meth c li=some m)(hf:X.T.fn m=some a)(Fa:uN X.T cx a f o fd body args kd df)
  (h:BA X.C c f l st.g=some r) (R:aG X.T G s st) (rm:fF (X.n+1) A) (hn:aj l=true) (hv:Vs X.T G s.heap l vs):W X.T A (PySem.call (.ref D) vs) (PC X.T G s {st with g:=r.2} r.1) s:=by
 let' H:=aL.of h;let' r1:=rm.2;let' r2:=rm.3;refine n9 O.B hc hm hf R fun h' x dx M=>?_
 obtain⟨G0,R0,en0,n0,t0,g0⟩:=R.call;obtain⟨G1,R1,en1,n1,t1,Ť,Τ,lk1⟩:=R0.Ì M hc (fun d=>.fr G0.n (.obj 0 d)) (la:=[x]) (ga:=G0.ga) (lst:=[⟨.inst c [],.mut⟩]) (g':=st.g) (fun d m sl e=>by injection e with e1 e2;subst e1 e2;exact⟨R0.nle,nofun⟩) nofun rfl rfl R0.glen (Xq _)
  (fun i e a h1 h2=>.inl ⟨h1,h2⟩) fun i e a h1 h2=>by
   cases i with
   |succ i=>injection h1
   |zero=>injection h1 with h1;injection h2 with h2;exact .inr ⟨h2.symm,rfl,h1.symm⟩
 let' en:=en0.trans en1;let' Υ:G1.n=G.top+1:=n1.trans n0;refine wpAny_call (qj O Rm ō Fa (l:=.loc 0::l) R1 (Υ.trans (t1.trans t0).symm) ⟨rm.1,Mb (j:=2) (k:=4) (m:=4*X.n) (by decide) rm.2,Mb (j:=4) (k:=40) (m:=40*X.n) (by decide) rm.3⟩ (bA ⟨x,by rw[Ť];rfl,rfl⟩ (hv.lt (nl:=true) ⟨en.fz,(fun h=>by injection h),en.ga⟩ fun z=>hn))
  (Im ((ab H).mono fun vars H=>(ab H).mono fun⟨fl,w,Zu⟩ H G2 s2 v R2 X2 E2=>?_)))
 obtain⟨Ĕ,H⟩:=aF H;obtain⟨G3,R3,X3,L3,up⟩:=xX R en X2 (B2 Υ) R2 Ĕ;cases fl with
|next=>
  obtain⟨l2,g2⟩:=Zu;cases l2 with
  |nil=>exact H.elim
  |cons y r'=>
   obtain⟨o2,k2⟩:=y;cases k2 with
   |«mut»=>obtain⟨ho,H⟩:=aF H;obtain rfl:(dR o2,g2)=r:=H;let' E:=R2.l 0 _ x rfl (dq (X2.lat.la rfl) (by rw[Ť];rfl));let' nn:G2.n=G.top+1:=X2.n.trans Υ;exact⟨E2,G3,R3,X3,qT (up x _ _ E.own (nn▸Yq _)) (E.obj.lt L3 (fun z e=>e) (fun d o hd e=>⟨e,up d _ _ hd (nn▸Yq _)⟩) fun z=>ho)⟩
   |_=>exact H.elim
|_=>exact H.elim
end
noncomputable def jp(m:Nat):iW->iW
|.gl i d=>if i<m then .gl i d else .fz
|x=>x
def Gh.settle(G:Gh)(m:Nat):Gh:={own:=fun b=>jp m (G.own b),ga:=G.ga.take m,la:=G.la,n:=G.n,top:=G.top,lk:=G.lk}
section
variable{T:Tp}{G:Gh}{h:Heap}{m:Nat}
theorem Gh.Û{b:Addr}{t:iW}(e:(G.settle m).own b=t)(ht:t≠.fz):G.own b=t:=by
 let' e:jp m (G.own b)=t:=e;cases hb:G.own b with
|gl i d=>
  rw[hb] at e;let' e:(if i<m then iW.gl i d else .fz)=t:=e;by_cases hi:i<m
  ·rw[Yh hi] at e;exact e
  ·rw[Yg hi] at e;exact absurd e.symm ht
|_=>rw[hb] at e;exact e
theorem Gh.Zs{b:Addr}(e:G.own b=.fz):(G.settle m).own b=.fz:=by show jp m (G.own b)=_;rw[e];rfl
theorem Gh.Ü{b:Addr}{k:Nat}{sl:b5}(e:G.own b=.fr k sl):(G.settle m).own b=.fr k sl:=by show jp m (G.own b)=_;rw[e];rfl
theorem Gh.ZE{b:Addr}{i:Nat}{d:Bool}(e:G.own b=.gl i d):(G.settle m).own b=if i<m then .gl i d else .fz:=by show jp m (G.own b)=_;rw[e];rfl
theorem lK.set{P P':Addr->Prop}{v:Value}(hp:∀a,P a->P' a):lK G P v->lK (G.settle m) P' v:=fun Zg=>by obtain⟨a,e,f,p⟩:=Zg;exact⟨a,e,G.Zs f,hp a p⟩
mutual
theorem V.set:∀{p:PV}{v:Value},bF m p=true->V T G h p v->V T (G.settle m) h p v
|.none,_,_,y=>y
|.bool _,_,_,y=>y
|.int _,_,_,y=>y
|.str _,_,_,y=>y
|.bytes _,_,_,y=>y
|.tup _,_,hn,y=>lK.set (fun a=>cV.lat (fun z e=>e) fun z=>Vs.ZX hn) y
|.lst _,_,hn,y=>lK.set (fun a=>cV.lat (fun z e=>e) fun z=>Vs.ZX hn) y
|.dct _,_,hn,y=>lK.set (fun a=>eT.lat (fun z e=>e) fun z=>g9.ZX hn) y
|.inst _ _,_,hn,y=>lK.set (fun a=>ig.lat (fun z e=>e) (fun dx o d e=>⟨e,G.Zs d⟩) fun z=>gH.ZX hn) y
|.loc _,_,hn,_=>by injection hn
|.glob i,_,hn,⟨a,e,f⟩=>⟨a,by show(G.ga.take m)[i]?=_;rw[List.getElem?_take,Yh (Ye hn)];exact e,f⟩
theorem Vs.ZX:∀{l:List PV}{vs:List Value},iA m l=true->Vs T G h l vs->Vs T (G.settle m) h l vs
|[],_,_,y=>y
|p::l,_,hn,⟨v,r,e,e1,e2⟩=>⟨v,r,e,V.set (az hn).1 e1,Vs.ZX (az hn).2 e2⟩
theorem g9.ZX:∀{l:List (PV×PV)}{es:List DictEntry},fx m l=true->g9 T G h l es->g9 T (G.settle m) h l es
|[],_,_,y=>y
|(k,p)::l,_,hn,⟨e,r,e0,e1,e2,e3,e4⟩=>⟨e,r,e0,V.set (az (az hn).1).1 e1,e2,V.set (az (az hn).1).2 e3,g9.ZX (az hn).2 e4⟩
theorem gH.ZX:∀{l:List (Nat×PV)}{mm:Str->Option Value},rO m l=true->gH T G h l mm->gH T (G.settle m) h l mm
|[],_,_,_=>trivial
|(k,p)::l,_,hn,⟨⟨e0,v,e1,e2⟩,e3⟩=>⟨⟨e0,v,e1,V.set (az hn).1 e2⟩,gH.ZX (az hn).2 e3⟩
end
def Qr(T:Tp)(G:Gh)(h:Heap)(m:Nat)(f:PV->Option PV):Prop:=∀(p:PV) (v:Value) (K:PV->Prop),aL (f p) K->V T G h p v->∃p',K p'∧V T (G.settle m) h p' v
theorem Od{f:PV->Option PV}(hf:Qr T G h m f){l:List PV}:∀{vs:List Value}{K:List PV->Prop},aL (dm f l) K->Vs T G h l vs->∃l',K l'∧Vs T (G.settle m) h l' vs:=by
 induction l with
|nil=>intro vs K H x;exact⟨[],H,x⟩
|cons p r ih=>intro vs K H x;obtain⟨v,q,rfl,e1,e2⟩:=x;obtain⟨p',H,a⟩:=hf _ _ _ (ab H) e1;obtain⟨l',H,b⟩:=ih (ab H) e2;exact⟨_,H,bA a b⟩
theorem Kh{f:PV->Option PV}(hf:Qr T G h m f){l:List (PV×PV)}:∀{es:List DictEntry}{K:List (PV×PV)->Prop},aL (dm (fun(x:PV×PV)=>if bF m x.1 then(f x.2).bind fun v=>some (x.1,v) else .none) l) K->g9 T G h l es->
  ∃l',K l'∧g9 T (G.settle m) h l' es∧l'.map (·.1)=l.map (·.1):=by
 induction l with
|nil=>intro es K H x;exact⟨[],H,x,rfl⟩
|cons q0 r ih=>obtain⟨k,p⟩:=q0;intro es K H x;obtain⟨e,q,rfl,e1,e2,e3,e4⟩:=x;obtain⟨hb,H⟩:=aF (ab H);obtain⟨p',H,a⟩:=hf _ _ _ (ab H) e3;obtain⟨l',H,b,c⟩:=ih (ab H) e4;exact⟨_,H,⟨e,q,rfl,e1.set hb,e2,a,b⟩,YH (k:: ·) c⟩
theorem Jx{f:PV->Option PV}(hf:Qr T G h m f){l:List (Nat×PV)}:∀{mm:Str->Option Value}{K:List (Nat×PV)->Prop},aL (dm (fun(x:Nat×PV)=>(f x.2).bind fun v=>some (x.1,v)) l) K->gH T G h l mm->
  ∃l',K l'∧gH T (G.settle m) h l' mm∧l'.map (·.1)=l.map (·.1):=by
 induction l with
|nil=>intro mm K H x;exact⟨[],H,trivial,rfl⟩
|cons q0 r ih=>obtain⟨k,p⟩:=q0;intro mm K H x;obtain⟨⟨e0,v,e1,e2⟩,e3⟩:=x;obtain⟨p',H,a⟩:=hf _ _ _ (ab (ab H)) e2;obtain⟨l',H,b,c⟩:=ih (ab H) e3;exact⟨_,H,⟨⟨e0,v,e1,a⟩,b⟩,YH (k:: ·) c⟩
theorem eF.keys{l l':List (PV×PV)}(h:eF l)(e:l'.map (·.1)=l.map (·.1)):eF l':=by
 have a:∀(f:PV->Bool),l'.all (fun x=>f x.1)=l.all (fun x=>f x.1):=fun f=>by have:=YH (List.all · f) e;rw[List.all_map,List.all_map] at this;exact this
 exact⟨h.1.imp (a jL).trans (Or.imp (a xC).trans (a ny).trans),e.symm▸h.2⟩
theorem iI{s:Shared}{st:St}(R:aG T G s st):∀(k:Nat),Qr T G s.heap m (Mine.Internal.dO m st.g k)
|0=>fun z z z H x=>by obtain⟨hb,H⟩:=aF H;exact⟨_,H,x.set hb⟩
|k+1=>fun p v K H x=>by
  have rest:aL (if bF m p then some p else none) K->∃p',K p'∧V T (G.settle m) s.heap p' v:=fun H=>by obtain⟨hb,H⟩:=aF H;exact⟨_,H,x.set hb⟩
  cases p with
  |glob i=>
   obtain⟨hi,H⟩:=kj H;obtain⟨a,ha,rfl⟩:=x;obtain⟨e,he,H⟩:=(ab H).get;have E:=R.g i e a he ha;have fz:(G.settle m).own a=.fz:=(G.ZE E.own).trans (Yg hi);have q:=E.obj;obtain⟨o,kk⟩:=e;cases o with
   |lst l=>obtain⟨items,w,e1,ez,e2⟩:=q;obtain⟨l',H,b⟩:=Od (iI R k) (ab H) e2;exact⟨_,H,a,rfl,fz,items,w,e1,by rw[<-b.length,e2.length];exact ez,b⟩
   |dct l=>obtain⟨es,w,e1,⟨ez,ek⟩,e2⟩:=q;obtain⟨l',H,b,c⟩:=Kh (iI R k) (ab H) e2;exact⟨_,H,a,rfl,fz,es,w,e1,⟨ez,ek.keys c⟩,b⟩
   |inst c f=>obtain⟨dx,mA,d,e1,e2,e3,e4⟩:=q;obtain⟨l',H,b,c⟩:=Jx (iI R k) (ab H) e4;exact⟨_,H,a,rfl,fz,dx,mA,(G.ZE d).trans (Yg hi),e1,c.symm▸e2,c.symm▸e3,b⟩
  |_=>exact rest H
theorem nv{α:Type}{l:List α}{i:Nat}{e:α}(h:(l.take m)[i]?=some e):i<m∧l[i]?=some e:=by
 rw[List.getElem?_take] at h;by_cases hi:i<m
 ·rw[Yh hi] at h;exact⟨hi,h⟩
 ·rw[Yg hi] at h;injection h
theorem gY.set{dk â:Addr->Prop}{a:Addr}(kd:∀dx,dk dx->â dx):∀{o:Zk},bF m (dR o)=true->gY T G h dk a o->gY T (G.settle m) h â a o
|.lst _,b=>cV.lat (fun z e=>e) fun z=>Vs.ZX b
|.dct _,b=>eT.lat (fun z e=>e) fun z=>g9.ZX b
|.inst _ _,b=>ig.lat (fun z e=>e) (fun dx o d e=>⟨e,kd dx d⟩) fun z=>gH.ZX b
theorem Kd{t:iW}(h:iY t=true):iY (jp m t)=true:=by
 cases t with
|gl i d=>
  by_cases hi:i<m
  ·exact(YH iY (Yh hi)).trans h
  ·exact YH iY (Yg hi)
|_=>exact h
theorem yW{s:Shared}{st:St}(R:aG T G s st){r:Option (PV×List Ent)}{q:PV×List Ent}(h:eU st.g r=some q){v:Value}{s2:Shared}(y:∃x,r=some x∧PC T G s {st with g:=x.2} x.1 v s2):PC T G s {st with g:=q.2} q.1 v s2:=by
 obtain⟨⟨p,g1⟩,rfl,G1,R1,X,V1⟩:=y;obtain⟨p',H,V'⟩:=iI R1 _ _ _ _ (ab (aL.of h:aL ((Mine.Internal.dO st.g.length g1 8 p).bind _) _)) V1;obtain⟨h1,H⟩:=aF H;obtain rfl:(p',g1.take st.g.length)=q:=H;obtain⟨hb,hl⟩:=az h1;let' hb:=XV.mp hb;let' hl:=Ye hl;have ega:G1.ga.take st.g.length=G.ga:=by have:=List.prefix_iff_eq_take.mp X.lat.ga;rw[R.glen] at this;exact this.symm
 have E:cB (fun z z=>False) G s (G1.settle st.g.length) s2:=⟨⟨fun a o e f=>by obtain⟨p,q⟩:=X.lat.fz a o e f;exact⟨p,G1.Zs q⟩,X.lat.la,by show G.ga<+:G1.ga.take _;exact(ega)▸Xq _⟩,
  fun a n k e hx=>by obtain⟨p,q⟩:=X.fr a n k e hx;exact⟨p,G1.Ü q⟩,X.lk,X.n,X.top,X.os⟩
 refine⟨G1.settle st.g.length,⟨fun b o hb e=>by obtain⟨p,q⟩:=R1.old b o hb e;exact⟨p,G1.Zs q⟩,R1.ct.lat (G':=G1.settle st.g.length) (fun a o e f=>⟨f,G1.Zs e⟩) (fun z e=>e),?_,fun a h=>R1.there a fun e=>h (G1.Zs e),fun a n k e=>R1.lev a n k (G1.Û e (fun h=>by injection h)),R1.nle,?_,R1.llen,
  fun i e a h1 h2=>?_,fun i e h1=>R1.gk i e (nv h1).2,fun i e a h1 h2=>?_,fun a ha=>⟨(R1.lkd a ha).1,Kd (R1.lkd a ha).2⟩,R1.gens⟩,E,V'⟩
 ·refine(?_:jp _ (G1.own T.P)=_);rw[R1.ctP];rfl
 ·refine(?_:(G1.ga.take _).length=(g1.take _).length);rw[Yr,Yr,R1.glen]
 ·obtain⟨hi,e1⟩:=nv h1;let' q:=R1.g i e a e1 (nv h2).2;exact⟨(G1.ZE q.own).trans (Yh hi),q.obj.set (fun dx (d:G1.own dx=.gl i true)=>(G1.ZE d).trans (Yh hi)) (hb e (List.mem_of_getElem? h1)),q.mu,q.tm⟩
 ·let' h2:G1.la[i]?=some a:=h2;let' q:=R1.l i e a h1 h2;let' en:(G1.settle st.g.length).n=G.n:=E.n;obtain⟨k1,k2⟩:=(R.l i e a h1 ((((List.IsPrefix.eq_of_length (X.lat.la rfl)) (R.llen.trans R1.llen.symm)).symm:G1.la=G.la)▸h2)).ñ E;exact en▸⟨k1,k2,q.mu,q.tm⟩
end
end
section
open PySem.W
set_option smartUnfolding false
noncomputable def prog:Program:=PySem.Challenge.pw_pq1310_01
noncomputable def db:Cx:=⟨[((169,12),.loc),((170,27),.loc),((170,35),.loc),((188,18),.loc),((188,22),.loc),((196,18),.loc),((202,12),.loc),((281,24),.loc),((298,12),.loc),((327,13),.loc),((418,13),.loc),((423,21),.loc),((428,21),.loc),((436,15),.loc),((439,73),.loc),((461,13),.loc),((505,12),.loc),((518,22),.loc),((582,11),.loc),((619,21),.glob),((702,81),.loc),((714,16),.loc),((719,12),.loc),((726,11),.loc),((768,17),.loc),((845,24),.loc),((929,36),.loc),((1052,10),.loc),((1063,22),.glob),((1067,23),.glob),((1080,15),.loc),((1140,18),.loc),((1194,26),.loc),((1194,35),.loc),((1290,29),.loc),((1292,15),.loc),((1308,37),.loc),((1252,21),.glob)],[1953459300,28817527407604339,6844279,8319400191629685864,32635402940111277215878112371,469311931136425172562804,2117091436637051614046213719352684,497976732832583101081955,32199676679972210,439855772532,108187682958948,119183033855091,499850046565,1684108385,131260348654948,7598521962762038373,1650553701,1818325876,122537185339758,7308327815843050611,123610792682867,122520239960676,30521817456538484,422541747571,1952807028,24948,33607025609438323,435610215794,1701733491,109330362692723,1835101817,112568466435954,29117745638302835,1751478885,1751477348,28258988067220596,126943688291443,130160803538291,7234300945208472691,1835102323,531016004935481008153971,512970876019,482670637683,32481100067398771],[26845007757664095,115298650732169353826230111,450385070130581040422751,6872338482965208927,495202749781778667071250210074353503,29516388843672123817340395359,6872324159366848351,450384417673801227329375,410024766572,6872332921116909407,1690514916614143686569555156685652,360177381027845359424340,104342297299210066057122644,1554230877449586953797,327579419731,94898766564435,361872575571,1537514359928667260243,9186049313665347524166686699812716422524005,2117089898968613136519955443184243,32304228194711504166579238003,126188391385591813150697842,126188391385591813067337316,20827776958623983701291058259,5331910901407739827564653464403,1364969190760381395853312730747987,30770134607472841614906977892,567608798217644821302584796947342852661164207731,30770134607472841614990338418,2217221868037675083214515514500786215793353588,624092473668261784995785781374606514105108995406407608398437,567608798217644821301979063720803875053384987237,516237194658647077906531168780312935,7877154459513047453377682039147,5566827780581049413,341362135544125751186260,5498709736855524180,6155973487655808882,80249023320856818203848295,18684431718900837,18684431970954341,4783214592818048101,29681726081950821,32635403255151308136670917733,1945221618047325593970,7165055919059857254,126943972257638,1925773082622874645861,8907096317847089841900687027302,31702202135104831363830345319,8115763746586266842248388044132,31369497939174756,123836727090259904748086628,474106934504271029429604,9795508351062512910804117027169709380101491,531874692896296379785048914554614393,4859222852629652850,7165065861843346788,28832984876412774,7235172,81372504316440478892707664,1365204081377854265525254629576260,5332828442882243224712371589700,349492244832730691970810425801590099,81524212646718970499395187,516297326656720132538048028265375076,516297326656720132542828739049055588,8603398556016207204,2138793790123798107458615716180580,7878072000987550850512248271732,2016786432252813017745411776933476,30773718753857620509762614117,7878072000987550850572360446564,2016786432252813017731161377633384,7878072000987550850537951225196,31389028957493013044718366578,7878073228619300075131637036147,516297407110794449726918748329768051,27988538521907813,7878072000987550850503657613684,516297326656720132539170655525037427,37587147992881235872740673428589795767411,6597370923015086199906163313747,100819599619505643086766949,9142614481120384853751269518451,139505225847173841002263667,9142614481120384858166210553203,9142614481120384865828584318308,139505225847173841035355251,9142614481120384842755901845107,2340509307166818524547125328765800,9142614481120384865862775305076,35713337816876503382260411493,599170382634705541918428145168901476,9142614481120384843868433245550,544942288465522816281708,35713337816876503287904432756,39267230196348062334050818831885166273387,30787924973348211,6009316421717747058,1365204081472558400562139985171033,5332828443252253326303962419801,81372504322080951681503827,1241645878937801151045,349492244856909189123449475088469587,5332828443252109212215767353684,1365204081472539958327236626568011,349492244856970229331772602287998548,516297326642231525222977723012507763,4859221735182005093,120209838878893929103385956,1243960764253838009192,5002484806629356659,1834256574690036905573,516297326642207931693198849135043940,402955737445026854030917,402955737445082571621714,103156668785927999913149774,402955737445104096334420,2166656509962533298532,554664066550425771664229,121371375230547945430738488,6675370788784504689608987328836,6675370788784504672012422958926,1708894921928833199131435001794119,364947918497086235980650450631348296,9068351315482804217364885892715,35423247326104703974366603118,389400131391659048199538,540219918037648770098547,8829129093482429916687090673011,2360477272803789654798356695707251,34488785521415741780688921971,102009783118184496720405868,134814852825629464808076984283843490920,31389028957493012959221871720,1556545762911752646247,117787098568757244674535012,8386099895587726692,2319913994929332314583991243598693,5936147174211281264,540147068661016770344819,7952976992603403354308166317171,1147237473,1760250341482834518891,1760250341482835370359,1760250341483036107627,450624087419674289138789,1760250341482834261089,450624087419666035402099,1760250341482985251941,115359766379432254382499187,1760250341482968476004,115359766379432267200292211,495466423873861712338879994441197684,7102839]⟩
structure FD where
 a:Arguments
 b:List Stmt
 sc:Scope
noncomputable def fI(c m:Nat):Nat:=c*256^40+m
noncomputable def Cq(c:Nat):List Stmt->List (Nat×FD)
|[]=>[]
|st::r=>match st with
  |.FunctionDef n a b _ _ _ sc _ _ _=>(fI c (oQ n.cps.toList),⟨a,b,sc⟩)::Cq c r
  |z=>Cq c r
noncomputable def fh:List Stmt->List (Nat×FD)
|[]=>[]
|st::r=>match st with
  |.FunctionDef n a b _ _ _ sc _ _ _=>(oQ n.cps.toList,⟨a,b,sc⟩)::fh r
  |.ClassDef n _ _ b _ _ _ _ _ _ _=>Cq (oQ n.cps.toList) b++fh r
  |z=>fh r
noncomputable def qO:List Stmt->List Nat
|[]=>[]
|st::r=>match st with
  |.ClassDef n bs _ b _ _ _ _ _ _ _=>(match bs with
   |[]=>oQ n.cps.toList::qO r
   |z=>qO r)
  |z=>qO r
noncomputable def qB{α:Type}:List (Nat×α)->Nat->Option α
|[],_=>none
|(k,a)::r,n=>if k=n then some a else qB r n
def zd(k:Nat):Option Fn:=(qB (fh prog.main.body) k).bind fun d=>JP db d.a d.b d.sc
def gq(k:Nat):Bool:=(qO prog.main.body).contains k
def jv(k:Nat):Bool:=(qB (fh prog.main.body) k).isSome
noncomputable def Jc:List Nat:=[100819599619505643086766949,81524212646718970499395187,4859221735182005093,1243960764253838009192,6009316421717747058]
noncomputable def d8:List Nat:=[1760250341482834261089,1760250341482985251941,450624087419674289138789,540219918037648770098547,8386099895587726692]
def iV:Nat:=6872327479327219551
def Í:Nat:=123836727090259904748086628
def Uf:Scope:={prog.main.scope with names:=prog.main.scope.names.map fun x=>(x.1,.globalImplicit)}
def sY(c m:Nat):Option Nat:=if Nat.blt m (256^40)&&jv (fI c m) then some (fI c m) else none
noncomputable def fc:List Stmt->YA->YA
|[],acc=>acc
|st::r,acc=>match st with
  |.Assign ts e _=>(match ts with
   |[t]=>(match t with
    |.Name x _=>(match(cA db e Uf).v with
     |some d=>(match d.1 ⟨aQ acc,fun z z z=>none,fun z z=>none⟩ [] ⟨[],[]⟩ with
      |some v=>fc r ((oQ x.cps.toList,v.1)::acc)
      |none=>fc r acc)
     |none=>fc r acc)
    |y=>fc r acc)
   |y=>fc r acc)
  |y=>fc r acc
def jj:YA:=fc prog.main.body []
def U0:List PV->Option (List PV)
|[]=>some []
|x::r=>(nE (x::r)).bind fun x=>(oB x).bind fun y=>(aZ y.1).bind fun z=>some [y.2]
def P9(p:PV):Option (List PV):=(ou p).bind U0
def QS(as:List PV)(g:List Ent):Option (PV×List Ent):=(iT P9 as).bind fun r=>some (.lst r,g)
def Bf(C:Zn)(f:Nat)(as:List PV)(g:List Ent):Option (PV×List Ent):=
 if f=Í then QS as g
 else if gq f then(if Jc.contains f then(zd (fI f iV)).bind fun fn=>BA C f fn as g else if jv (fI f iV) then vU C f (fI f iV) as g else none)
 else(zd f).bind fun fn=>if d8.contains f then eU g (pJ C fn as g) else pJ C fn as g
noncomputable def af:Nat->Nat->List PV->List Ent->Option (PV×List Ent)
|0=>fun z z z=>none
|n+1=>Bf ⟨aQ jj,af n,sY⟩
def ac(n:Nat):Zn:=⟨aQ jj,af n,sY⟩
set_option smartUnfolding true
end
section
open PySem.W PyProof.Rows
structure jK(T:Tp)(a:Addr):Prop where
 Ą:a≠T.P
 callee:k6 T.h0 a
 run:∀{n:Nat}{l:List PV}{g:List Ent}{r:PV×List Ent}{G:Gh}{s:Shared}{st:St}{A:Around}{vs:List Value},QS l g=some r->st.g=g->aG T G s st->fF (n+1) A->aj l=true->Vs T G s.heap l vs->W T A (call (.ref a) vs) (PE T G s {st with g:=r.2} r.1) s
structure O3(T:Tp):Prop where
 base:lO T
 room:nj T
 cons:∀x p,aQ jj x=some p->∃v,T.mg (dec x)=some v∧V T (G0 T) T.h0 p v
 meth:∀c m,sY c m=T.meth c m
 cls:∀k,gq k=true->∃D,T.cls k=some D∧T.fn k=some D∧D≠T.P∧k6 T.h0 D
 fn:∀k f,zd k=some f->∃a o fd body args kd df,T.fn k=some a∧uN T db a f o fd body args kd df
 sorted:∃a,T.fn Í=some a∧jK T a
 cx:Lb ⟨T,ac 0,0,db⟩
theorem Kp{k:Nat}{f:Fn}(h:zd k=some f):jv k=true:=by obtain⟨d,e,_⟩:=XC.mp h;refine(?_:(qB (fh prog.main.body) k).isSome=true);rw[e];rfl
theorem Pz{T:Tp}(t:O3 T):∀n,Ok ⟨T,ac n,n,db⟩:=by
 intro n;induction n with
|zero=>exact⟨t.base,⟨t.cons,t.meth,fun f l g r h=>nomatch h⟩,⟨t.cx.atts,t.cx.top,t.cx.off,t.cx.bi⟩⟩
|succ n ih=>
  let' ih:=ih;refine⟨t.base,⟨t.cons,t.meth,fun f l g r h=>?_⟩,⟨t.cx.atts,t.cx.top,t.cx.off,t.cx.bi⟩⟩;let' h:Bf (ac n) f l g=some r:=h;let' init:∀{c},jv (fI c iV)=true->T.meth c li=some (fI c iV):=(fun{c} e=>(t.meth c iV).symm.trans (Yh ((Xp _ _).mpr ⟨by decide,e⟩)))
  unfold Bf at h;by_cases h1:f=Í
  ·rw[Yh h1] at h;obtain⟨a,e,S⟩:=t.sorted;exact⟨a,h1▸e,S.Ą,S.callee,fun e1 R rm hn hv=>S.run h e1 R rm hn hv⟩
  rw[Yg h1] at h;by_cases h2:gq f=true
  ·rw[Yh h2] at h;obtain⟨D,c1,c2,c3,c4⟩:=t.cls f h2;refine⟨D,c2,c3,c4,fun{G s st A vs} e1 R rm hn hv=>?_⟩;subst e1;by_cases h3:Jc.contains f=true
   ·rw[Yh h3] at h;obtain⟨fn,hf,h⟩:=XC.mp h;let' hd:=Kp hf;obtain⟨a,o,fd,body,args,kd,df,e,Fa⟩:=t.fn _ fn hf;exact(P3 (X:=⟨T,ac n,n,db⟩) ih t.room rfl c1 (init hd) e Fa h R rm hn hv).mono fun z z y=>y.pe
   ·rw[Yg h3] at h;by_cases hd:jv (fI f iV)=true
    ·rw[Yh hd] at h;exact Kw (X:=⟨T,ac n,n,db⟩) ih c1 (init hd) h R rm hn hv
    ·rw[Yg hd] at h;injection h
  ·rw[Yg h2] at h;obtain⟨fn,hf,h⟩:=XC.mp h;obtain⟨a,o,fd,body,args,kd,df,e,Fa⟩:=t.fn _ fn hf;refine⟨a,e,Fa.Ą,⟨o,Fa.get,.inl ⟨fd,Fa.data⟩⟩,fun{G s st A vs} e1 R rm hn hv=>?_⟩;subst e1;by_cases h3:d8.contains f=true
   ·rw[Yh h3] at h;cases hr:pJ (ac n) fn l st.g with
    |none=>rw[hr] at h;injection h
    |some x=>exact(B6 (X:=⟨T,ac n,n,db⟩) ih t.room rfl Fa hr R rm hn hv).mono fun v s2 y=>(yW R h ⟨x,hr,y⟩).pe
   ·rw[Yg h3] at h;exact(B6 (X:=⟨T,ac n,n,db⟩) ih t.room rfl Fa h R rm hn hv).mono fun z z y=>y.pe
end
def OY(k:Nat):Option ï:=(qB (fh prog.main.body) k).bind fun d=>nV db d.a d.b d.sc
def wk(C:Zn)(f:ï)(args:List PV)(g:List Ent):Option (PV×List Ent):=
 (eA f.ps args f.ds).bind fun vs=>f.m _ C vs ⟨[],g⟩ fun y=>if di g y.2.2.g then(mU y.1).bind fun v=>some (v,y.2.2.g) else .none
def BG(C:Zn)(c:Nat)(f:ï)(args:List PV)(g:List Ent):Option (PV×List Ent):=
 (eA f.ps (.loc 0::args) f.ds).bind fun vs=>f.m _ C vs ⟨[⟨.inst c [],.mut⟩],g⟩ fun y=>if di g y.2.2.g then(match y.1,y.2.2.l with
  |.next,⟨o,.mut⟩::_=>if bT o then some (dR o,y.2.2.g) else .none
  |z,x=>.none) else .none
theorem K7(C:Zn)(f:ï)(args:List PV)(g:List Ent):pJ C f.fn args g=wk C f args g:=YH _ (funext fun vs=>(f.nt _ C vs ⟨[],g⟩ _).symm)
theorem Ay(C:Zn)(c:Nat)(f:ï)(args:List PV)(g:List Ent):BA C c f.fn args g=BG C c f args g:=YH _ (funext fun vs=>(f.nt _ C vs _ _).symm)
def Ag(C:Zn)(k:Nat)(as:List PV)(g:List Ent):Option (PV×List Ent):=
 if k=Í then QS as g
 else if gq k then(if Jc.contains k then(OY (fI k iV)).bind fun fn=>BG C k fn as g else if jv (fI k iV) then vU C k (fI k iV) as g else none)
 else(OY k).bind fun f=>if d8.contains k then eU g (wk C f as g) else wk C f as g
theorem tu(k:Nat){α:Type}(F:Fn->Option α):(zd k).bind F=(OY k).bind fun f=>F f.fn:=by
 unfold zd OY;cases qB (fh prog.main.body) k with
|none=>rfl
|some d=>refine(?_:(JP db d.a d.b d.sc).bind F=_);unfold JP;refine(?_:_=(nV db d.a d.b d.sc).bind fun f=>F f.fn);cases nV db d.a d.b d.sc<;>rfl
theorem GG(C:Zn)(k:Nat)(as:List PV)(g:List Ent):Bf C k as g=Ag C k as g:=by unfold Bf Ag;rw[tu,tu];simp only[K7,Ay]
theorem ak:∀g:List Ent,di g g=true:=by
 intro g;induction g with
|nil=>exact rfl
|cons e r ih=>show((!e.k.Zp||e.k.Zp)&&di r r)=true;rw[ih];cases e.k.Zp<;>rfl
section
open PySem.W
inductive Tr where
|em|ob (o:Obj)|nd (x y:Tr)
def Tr.lf(t:Tr):Tr:= @Tr.rec (fun z=>Tr) .em (fun z=>.em) (fun x z z z=>x) t
def Tr.rt(t:Tr):Tr:= @Tr.rec (fun z=>Tr) .em (fun z=>.em) (fun z y z z=>y) t
def Tr.get(t:Tr):Option Obj:= @Tr.rec (fun z=>Option Obj) none some (fun z z z z=>none) t
def Tr.find(k:Nat):Tr->Nat->Option Obj:= @Nat.rec (fun z=>Tr->Nat->Option Obj) (fun t z=>t.get) (fun z ih t a=> @Bool.rec (fun z=>Option Obj) (ih t.rt (Nat.div a 2)) (ih t.lf (Nat.div a 2)) (Nat.beq (Nat.mod a 2) 0)) k
def Tr.set(o:Obj)(k:Nat):Tr->Nat->Tr:= @Nat.rec (fun z=>Tr->Nat->Tr) (fun z z=>.ob o) (fun z ih t a=> @Bool.rec (fun z=>Tr) (.nd t.lf (ih t.rt (Nat.div a 2))) (.nd (ih t.lf (Nat.div a 2)) t.rt) (Nat.beq (Nat.mod a 2) 0)) k
theorem Tr.Ñ(k:Nat)(t:Tr)(a:Nat):Tr.find (k+1) t a=if a%2=0 then Tr.find k t.lf (a/2) else Tr.find k t.rt (a/2):=by refine(?_: @Bool.rec (fun z=>Option Obj) (Tr.find k t.rt (a/2)) (Tr.find k t.lf (a/2)) (Nat.beq (a%2) 0)=_);rcases Nat.mod_two_eq_zero_or_one a with h|h<;>rw[h]<;>rfl
theorem Tr.Ő(o:Obj)(k:Nat)(t:Tr)(a:Nat):Tr.set o (k+1) t a=if a%2=0 then .nd (Tr.set o k t.lf (a/2)) t.rt else .nd t.lf (Tr.set o k t.rt (a/2)):=by refine(?_: @Bool.rec (fun z=>Tr) (.nd t.lf (Tr.set o k t.rt (a/2))) (.nd (Tr.set o k t.lf (a/2)) t.rt) (Nat.beq (a%2) 0)=_);rcases Nat.mod_two_eq_zero_or_one a with h|h<;>rw[h]<;>rfl
theorem par{a b:Nat}(m:b%2=a%2)(q:b/2=a/2):b=a:=by rw[<-Nat.div_add_mod b 2,q,m,Nat.div_add_mod]
theorem Tr.ò(o:Obj)(k:Nat):∀(t:Tr) (a b:Nat),a<2^k->b<2^k->Tr.find k (Tr.set o k t a) b=if b=a then some o else Tr.find k t b:=by
 induction k with
|zero=>intro t a b ha hb;rw[Yh ((Nat.lt_one_iff.mp hb).trans (Nat.lt_one_iff.mp ha).symm)];rfl
|succ k ih=>
  intro t a b ha hb;have ha:=(Nat.div_lt_iff_lt_mul Nat.two_pos).mpr ha;have hb:=(Nat.div_lt_iff_lt_mul Nat.two_pos).mpr hb;rw[Tr.Ñ,Tr.Ñ,Tr.Ő];by_cases h:a%2=0<;>by_cases h':b%2=0
  ·rw[Yh h,Yh h',Yh h'];refine(ih t.lf (a/2) (b/2) ha hb).trans ?_;by_cases q:b/2=a/2
   ·rw[Yh q,Yh (par (h'.trans h.symm) q)]
   ·rw[Yg q,Yg fun e=>q (YH (· /2) e)]
  ·rw[Yh h,Yg h',Yg h',Yg fun e:b=a=>h' (e▸h)];rfl
  ·rw[Yg h,Yh h',Yh h',Yg fun e:b=a=>h (e▸h')];rfl
  ·rw[Yg h,Yg h',Yg h'];refine(ih t.rt (a/2) (b/2) ha hb).trans ?_;by_cases q:b/2=a/2
   ·rw[Yh q,Yh (par (((Nat.mod_two_eq_zero_or_one b).resolve_left h').trans ((Nat.mod_two_eq_zero_or_one a).resolve_left h).symm) q)]
   ·rw[Yg q,Yg fun e=>q (YH (· /2) e)]
structure PS where
 ov:Tr
 size:Nat
 toks:Nat
noncomputable def D8(o:Option Obj):Option Obj:=match o with
|some ⟨_,_,.freed,_⟩=>none
|o=>o
def raw(P:Params)(s:PS)(a:Nat):Option Obj:= @Bool.rec (fun z=>Option Obj) (@Option.rec Obj (fun z=>Option Obj) ((boot_heap P).objs[a]?) some (Tr.find 12 s.ov a)) none (Nat.ble 4096 a)
noncomputable def uI{α:Type}(n:Nat)(f:Nat->α):α:= @Nat.rec (fun z=>α) (f 0) (fun m z=>f (Nat.succ m)) n
theorem pG{α:Type}(n:Nat)(f:Nat->α):uI n f=f n:=by cases n<;>rfl
noncomputable def zb:Shared:={}
noncomputable def UO(a:Nat):Bool:=Nat.ble 11 a||a==mainNs||a==cStatics
abbrev RR:=Nat->PS->Code->Pos->List Frame->Option PS
noncomputable def iz(n:Nat)(k:Nat->Option PS):Option PS:= @Nat.rec (fun z=>Option PS) none (fun m z=>k m) n
def QH{α:Type}(o:Option α)(k:α->Option PS):Option PS:= @Option.rec α (fun z=>Option PS) none k o
def Oz(o:Bool)(k:Option PS):Option PS:= @Bool.rec (fun z=>Option PS) none k o
section
variable(den:Code->Sem PySem.Fin)(p:Program)(w:World)(IH:Sem PySem.Fin->RR)
def QJ{α:Type}(x:α)(ih:α->RR):RR:=fun n s c p st=>iz n fun n=>ih x n s c p st
def WO(p:Pos)(ih:Unit->RR):RR:=fun n s c z st=>iz n fun n=>ih () n s c p st
def OG(a:Addr)(ih:Obj->RR):RR:=fun n s c p st=>iz n fun n=>QH (D8 (raw w.params s a)) fun o=>ih o n s c p st
def RO(a:Addr)(f:Obj->Obj)(ih:Unit->RR):RR:=fun n s c p st=>iz n fun n=>Oz (UO a) (QH (D8 (raw w.params s a)) fun o=>ih () n ⟨Tr.set (f o) 12 s.ov a,s.size,s.toks⟩ c p st)
def RL(o:Obj)(ih:Addr->RR):RR:=fun n s c p st=>iz n fun n=>uI s.size fun z=>Oz (Nat.blt z 4095) (ih z n ⟨Tr.set o 12 s.ov z,Nat.succ z,s.toks⟩ c p st)
def JT(a:Addr)(ih:Option Obj->RR):RR:=fun n s c p st=>iz n fun n=>ih (D8 (raw w.params s a)) n s c p st
def JD(ih:Nat->RR):RR:=fun n s c p st=>iz n fun n=>uI s.toks fun z=>ih z n ⟨s.ov,s.size,Nat.succ z⟩ c p st
def lP(cur:Sem PySem.Fin):RR:=fun n s c pos st=>iz n fun n=>match PySem.W.Fast.tw8437177126325714943 den p w zb ⟨cur,c,pos,st⟩ with
|.go _ t=>IH t.cur n s t.code t.pos t.stack
|.halt _ _=>none
def Nm(a:PySem.Fin):RR:=fun n s c pos st=>match through ⟨.pure a,c,pos,st⟩ with
|true=>iz n fun z=>some s
|false=>Oz (PySem.W.Fast.tw2348191978395082540 ⟨.pure a,c,pos,st⟩) (lP den p w IH (.pure a) n s c pos st)
noncomputable def Ý:RR:=fun z z z z z=>none
def Qi(cur:Sem PySem.Fin):RR:=
 @Sem.rec PySem.Fin (fun z=>RR) (Nm den p w IH) (fun e=>lP den p w IH (.raise e)) (fun z=>Ý) (fun z=>Ý)
  (fun z z ih=>QJ () ih) (fun p z ih=>WO p ih) (fun a z z ih=>OG w a ih)
  (fun a z g z ih=>RO w a g ih) (fun o z ih=>RL o ih) (fun a z ih=>JT w a ih)
  (fun z z ih=>QJ () ih) (fun z z z=>Ý) (fun z ih=>JD ih) (fun z ih=>QJ ⟨p,w.params⟩ ih)
  (fun z z z z=>Ý) (fun z z z z=>Ý) (fun c h g l x z=>lP den p w IH (.call c h g l x))
  (fun o x z=>lP den p w IH (.handled o x)) (fun z z z=>Ý) (fun z z z=>Ý)
  (fun z z z z z=>Ý) (fun z z z z z=>Ý) (fun x z=>lP den p w IH (.stack x))
  (fun z z z=>Ý) (fun z ih=>QJ 0 ih) (fun z z z z z z=>Ý) cur
end
def My(den:Code->Sem PySem.Fin)(p:Program)(w:World)(f:Nat):Sem PySem.Fin->RR:= @Nat.rec (fun z=>Sem PySem.Fin->RR) (fun z=>Ý) (fun z IH=>Qi den p w IH) f
def KL(den:Code->Sem PySem.Fin)(p:Program)(w:World)(n:Nat)(s:PS)(t:Thread):Option PS:=My den p w n t.cur n s t.code t.pos t.stack
structure PR(P:Params)(s:Shared)(ps:PS):Prop where
 obj:∀a,s.heap.objs[a]?=raw P ps a
 size:s.heap.objs.size=ps.size
 toks:s.toks=ps.toks
 gens:s.gens=#[]
 life:s.heap.life={}
theorem wH(h:Heap)(a:Nat):h.get? a=D8 h.objs[a]? :=rfl
theorem xK{P:Params}{s:PS}{a:Nat}{o:Obj}{n m:Nat}(ha:a<4096)(b:Nat):raw P ⟨Tr.set o 12 s.ov a,n,m⟩ b=if b=a then some o else raw P s b:=by
 delta raw;cases hb:Nat.ble 4096 b with
|true=>rw[Yg (by rintro rfl;exact absurd (Nat.le_of_ble_eq_true hb) (Nat.not_le.mpr ha))]
|false=>
  refine(?_: @Option.rec Obj (fun z=>Option Obj) _ some (Tr.find 12 (Tr.set o 12 s.ov a) b)=_);rw[Tr.ò o 12 s.ov a b ha (Nat.lt_of_not_le fun h=>by rw[Nat.ble_eq_true_of_le h] at hb;injection hb:b<4096)];by_cases q:b=a
  ·rw[Yh q,Yh q]
  ·rw[Yg q,Yg q]
theorem Lr{P:Params}{s:PS}{a:Nat}{o:Obj}(h:raw P s a=some o):a<4096:=Nat.lt_of_not_le fun q=>by unfold raw at h;rw[Nat.ble_eq_true_of_le q] at h;injection h
theorem zs{x:Option Obj}{o:Obj}(h:D8 x=some o):x=some o:=by
 delta D8 at h;cases x with
|none=>exact h
|some x=>
  obtain⟨a,b,c,d⟩:=x;cases c with
  |freed=>injection h
  |_=>exact h
theorem HM{α:Type}{o:Option α}{k:α->Option PS}{r:PS}(h:QH o k=some r):∃x,o=some x∧k x=some r:=by
 cases o with
|none=>injection h
|some x=>exact⟨x,rfl,h⟩
theorem DF{o:Bool}{k:Option PS}{r:PS}(h:Oz o k=some r):o=true∧k=some r:=by
 cases o with
|false=>injection h
|true=>exact⟨rfl,h⟩
section
variable{p:Program}{w:World}{ann:Option Value}
variable(p w ann) in
def pU(n:Nat)(s:Shared)(t:Thread)(r:PS):Prop:=∃s',topRun treeTable p w 11 ann n s t=some s'∧PR w.params s' r
variable(p w ann) in
def Mc(cur:Sem PySem.Fin)(r:RR):Prop:=∀n s ps code pos st Zt,PR w.params s ps->r n ps code pos st=some Zt->pU p w ann n s ⟨cur,code,pos,st⟩ Zt
theorem pU.step{n:Nat}{s s1:Shared}{t t1:Thread}{r:PS}(h:through t=false)(k:stepOk 11 ann t=true)(e:step (denote treeTable) p w s t=.go s1 t1)(x:pU p w ann n s1 t1 r):pU p w ann (n+1) s t r:=by obtain⟨s',x,y⟩:=x;refine⟨s',?_,y⟩;unfold topRun;rw[h,k,e];exact x
theorem jI{cur:Sem PySem.Fin}{f:Nat->PS->Code->Pos->List Frame->Option PS}(q:∀code pos st,through ⟨cur,code,pos,st⟩=false∧stepOk 11 ann ⟨cur,code,pos,st⟩=true)
  (h:∀n s ps code pos st Zt,PR w.params s ps->f n ps code pos st=some Zt->∃s1 t1,step (denote treeTable) p w s ⟨cur,code,pos,st⟩=.go s1 t1∧pU p w ann n s1 t1 Zt):Mc p w ann cur fun n s c p st=>iz n fun n=>f n s c p st:=fun n s ps code pos st Zt R e=>by
 cases n with
|zero=>injection e
|succ n=>obtain⟨s1,t1,e1,x⟩:=h n s ps code pos st Zt R e;exact .step (q ..).1 (q ..).2 e1 x
theorem Il{cur:Sem PySem.Fin}:Mc p w ann cur Ý:=fun z z z z z z z z e=>by injection e
theorem ky{ih:Sem PySem.Fin->RR}(IH:∀c,Mc p w ann c (ih c)){cur:Sem PySem.Fin}
  (h:∀(s s1:Shared) code pos st t1,s.gens=#[]->step (denote treeTable) p w zb ⟨cur,code,pos,st⟩=.go s1 t1->step (denote treeTable) p w s ⟨cur,code,pos,st⟩=.go s t1)
  {n:Nat}{s:Shared}{ps Zt:PS}{code:Code}{pos:Pos}{st:List Frame} (q:through ⟨cur,code,pos,st⟩=false∧stepOk 11 ann ⟨cur,code,pos,st⟩=true) (R:PR w.params s ps) (e:lP (denote treeTable) p w ih cur n ps code pos st=some Zt):pU p w ann n s ⟨cur,code,pos,st⟩ Zt:=by
 cases n with
|zero=>injection e
|succ n=>
  delta lP at e;rw[<-PySem.W.Fast.te8437177126325714943] at e;let' e:=e;cases e1:step (denote treeTable) p w zb ⟨cur,code,pos,st⟩ with
  |halt a b=>rw[e1] at e;injection e
  |go s1 t1=>rw[e1] at e;exact .step q.1 q.2 (h s s1 code pos st t1 R.gens e1) (IH t1.cur n s ps t1.code t1.pos t1.stack Zt R e)
theorem Ck(o:Outcome)(s1:Shared)(t1:Thread):finish o zb≠Step.go s1 t1:=fun e=>by delta finish at e;split at e<;>injection e
theorem pS{s s1:Shared}{t t1:Thread}(e:Step.go zb t=.go s1 t1):Step.go s t=.go s t1:=by injection e with _ e;exact YH (Step.go s) e
theorem DJ{s s1:Shared}{t t1:Thread}{g:Nat}{x:GenState}{z:Shared}(h:s.gens=#[])(e:Step.go z t=.go s1 t1):Step.go ⟨s.heap,s.gens.setIfInBounds g x,s.drawn,s.toks,s.os⟩ t=.go s t1:=by
 injection e with _ e
 rw[show s.gens.setIfInBounds g x=s.gens by rw[h];rfl];exact YH (Step.go s) e
theorem EP{ih:Sem PySem.Fin->RR}(IH:∀c,Mc p w ann c (ih c))(cur:Sem PySem.Fin):Mc p w ann cur (Qi (denote treeTable) p w ih cur):=by
 let' lf:∀st:List Frame,(st.isEmpty&&false)=false:=(fun y=>Bool.and_false _)
 induction cur with
|pure a=>
  intro n s ps code pos st Zt R e;have e:(match through ⟨.pure a,code,pos,st⟩ with
   |true=>iz n fun y=>some ps
   |false=>Oz (PySem.W.Fast.tw2348191978395082540 ⟨.pure a,code,pos,st⟩) (lP (denote treeTable) p w ih (.pure a) n ps code pos st))=some Zt:=e
  cases q:through ⟨.pure a,code,pos,st⟩ with
  |true=>
   rw[q] at e;cases n with
   |zero=>injection e
   |succ n=>exact⟨s,by unfold topRun;rw[q],(Xn e)▸R⟩
  |false=>
   rw[q] at e;rw[<-PySem.W.Fast.te2348191978395082540] at e;obtain⟨q1,e⟩:=DF e;refine ky IH (fun s s1 code pos st t1 G e=>?_) ⟨q,(Xp _ _).mpr ⟨q1,rfl⟩⟩ R e;cases a with
   |again c=>exact pS e
   |done f=>
    cases st with
    |nil=>exact(Ck _ _ _ e).elim
    |cons fr rest=>cases fr with
     |ret=>exact pS e
     |gen g=>exact DJ G e
|raise x=>
  refine fun n s ps code pos st Zt R e=>ky IH (fun s s1 code pos st t1 G e=>?_) ⟨lf st,rfl⟩ R e
  cases st with
  |nil=>exact(Ck _ _ _ e).elim
  |cons fr rest=>cases fr with
   |ret=>exact pS e
   |gen g=>exact DJ G e
|call c h g l k i=>
  refine fun n s ps code pos st Zt R e=>ky IH (fun s s1 code pos st t1 G e=>?_) ⟨lf st,rfl⟩ R e
  exact pS e
|handled o k i=>
  refine fun n s ps code pos st Zt R e=>ky IH (fun s s1 code pos st t1 G e=>?_) ⟨lf st,rfl⟩ R e
  exact pS e
|stack k i=>
  refine fun n s ps code pos st Zt R e=>ky IH (fun s s1 code pos st t1 G e=>?_) ⟨lf st,rfl⟩ R e
  exact pS e
|rule t k i=>exact jI (fun y y st=>⟨lf st,rfl⟩) fun n s ps code pos st Zt R e=>⟨_,_,rfl,i _ n s ps code pos st Zt R e⟩
|point t k i=>exact jI (fun y y st=>⟨lf st,rfl⟩) fun n s ps code pos st Zt R e=>⟨_,_,rfl,i _ n s ps code pos st Zt R e⟩
|ask k i=>exact jI (fun y y st=>⟨lf st,rfl⟩) fun n s ps code pos st Zt R e=>⟨_,_,rfl,i _ n s ps code pos st Zt R e⟩
|thread k i=>exact jI (fun y y st=>⟨lf st,rfl⟩) fun n s ps code pos st Zt R e=>⟨_,_,rfl,i _ n s ps code pos st Zt R e⟩
|«at» q k i=>exact jI (fun y y st=>⟨lf st,rfl⟩) fun n s ps code pos st Zt R e=>⟨_,_,rfl,i _ n s ps code q st Zt R e⟩
|load a m k i=>
  refine jI (fun y y st=>⟨lf st,rfl⟩) fun n s ps code pos st Zt R e=>?_
  obtain⟨o,e1,e⟩:=HM e;let' q:s.heap.get? a=some o:=(YH D8 (R.obj a)).trans e1;refine⟨s,⟨k o,code,pos,st⟩,?_,i o n s ps code pos st Zt R e⟩;refine(?_:(match s.heap.get? a with|some o=>_|none=>_)=_);rw[q]
|update a m f k i=>
  intro n s ps code pos st Zt R e;cases n with
  |zero=>injection e
  |succ n=>
   obtain⟨q0,e⟩:=DF (k:=QH _ _) e;obtain⟨o,e1,e⟩:=HM e;let' q1:=zs e1;refine .step (t1:=⟨k (),code,pos,st⟩) (s1:={s with heap:=s.heap.update a f}) (lf st) ?_ ?_ (i () n _ ⟨Tr.set (f o) 12 ps.ov a,ps.size,ps.toks⟩ code pos st Zt ⟨fun b=>?_,?_,R.toks,R.gens,R.life⟩ e)
   ·refine(?_:(true&&(UO a||_))=true);rw[q0];rfl
   ·have q:(s.heap.get? a).isSome=true:=by rw[wH,R.obj,e1];rfl
    refine(?_:(if(s.heap.get? a).isSome=true then _ else _)=_);exact(Yh q)
   ·rw[xK (Lr q1)];refine(?_:(s.heap.objs.modify a f)[b]?=_);refine(Array.getElem?_modify).trans ?_;by_cases q3:b=a
    ·rw[Yh q3,Yh q3.symm,q3,R.obj,q1];rfl
    ·rw[Yg q3,Yg fun z=>q3 z.symm,R.obj]
   ·refine(?_:(s.heap.objs.modify a f).size=_);rw[Array.size_modify];exact R.size
|alloc o k i=>
  refine jI (fun y y st=>⟨lf st,rfl⟩) fun n s ps code pos st Zt R e=>?_
  rw[pG] at e;obtain⟨q,e⟩:=DF e;refine⟨{s with heap:=s.heap.push o},⟨k ps.size,code,pos,st⟩,?_,i _ n _ ⟨Tr.set o 12 ps.ov ps.size,ps.size+1,ps.toks⟩ code pos st Zt ⟨fun b=>?_,?_,R.toks,R.gens,R.life⟩ e⟩
  ·refine(?_:Step.go _ ⟨k s.heap.objs.size,code,pos,st⟩=_);rw[R.size]
  ·rw[xK (Nat.lt_succ_of_lt (Nat.blt_eq.mp q))];refine(?_:(s.heap.objs.push o)[b]?=_);rw[Array.getElem?_push,R.size];by_cases q3:b=ps.size
   ·rw[Yh q3,Yh q3]
   ·rw[Yg q3,Yg q3,R.obj]
  ·refine(?_:(s.heap.objs.push o).size=_);rw[Array.size_push,R.size]
|loadIfAlive a k i=>
  refine jI (fun y y st=>⟨lf st,rfl⟩) fun n s ps code pos st Zt R e=>⟨s,⟨k (D8 (raw w.params ps a)),code,pos,st⟩,?_,i _ n s ps code pos st Zt R e⟩
  refine(?_:Step.go _ ⟨k (s.heap.get? a),code,pos,st⟩=_);rw[wH,R.obj]
|fresh k i=>
  refine jI (fun y y st=>⟨lf st,rfl⟩) fun n s ps code pos st Zt R e=>?_
  rw[pG] at e;refine⟨{s with toks:=s.toks+1},⟨k ps.toks,code,pos,st⟩,?_,i _ n _ ⟨ps.ov,ps.size,ps.toks+1⟩ code pos st Zt ⟨R.obj,R.size,YH (·+1) R.toks,R.gens,R.life⟩ e⟩;refine(?_:Step.go _ ⟨k s.toks,code,pos,st⟩=_);rw[R.toks]
|_=>exact Il
theorem Hb(n:Nat){s:Shared}{ps Zt:PS}{t:Thread}(R:PR w.params s ps)(h:KL (denote treeTable) p w n ps t=some Zt):∃s',topRun treeTable p w 11 ann n s t=some s'∧PR w.params s' Zt:=by
 have all:∀f c,Mc p w ann c (My (denote treeTable) p w f c):=fun f=>by
  induction f with
  |zero=>exact fun z=>Il
  |succ f ih=>exact EP ih
 exact all n t.cur n s ps t.code t.pos t.stack Zt R h
end
end
section
open PySem.W PyProof.Rows
noncomputable def OP(t:String)(o:Obj):Bool:=decide (o.cls=.type t)
def pY(g:Addr->Option Obj)(P:Nat)(v:Value):Option (Array Value×Nat):=match v with
|.ref a=>(match Nat.beq a P with
  |true=>none
  |false=>match g a with
   |some o=>(match o.data with
    |.seq items n=>(match OP "tuple" o&&o.dict.isNone&&o.slots.isEmpty with
     |true=>some (items,n)
     |false=>none)
    |z=>none)
   |none=>none)
|z=>none
mutual
noncomputable def BN(g:Addr->Option Obj)(P:Nat):PV->Value->Bool
|.none,v=>(match v with
  |.none=>true
  |z=>false)
|.bool b,v=>(match v with
  |.bool c=>b==c
  |z=>false)
|.int i,v=>(match v with
  |.int j _=>decide (j=i)
  |z=>false)
|.str s,v=>(match v with
  |.str x _=>PySem.W.Fast.sEq x s
  |z=>false)
|.tup l,v=>(match pY g P v with
  |some x=>Nat.ble l.length 4000000&&pI g P l x.1.toList
  |none=>false)
|z,y=>false
noncomputable def pI(g:Addr->Option Obj)(P:Nat):List PV->List Value->Bool
|[],vs=>vs.isEmpty
|p::l,vs=>(match vs with
  |[]=>false
  |v::r=>BN g P p v&&pI g P l r)
end
noncomputable def iZ:Option Value->Option Addr
|some (.ref a)=>some a
|z=>none
section
variable(g:Addr->Option Obj)(N:Addr->Str->Option Value)(I:Addr->Bool)(C:Value->Str->Bool)
def kX(k:Nat):Option (Addr×Obj×ClassData):=match iZ (N mainGlobals (dec k)) with
|some C=>(match g C with
  |some o=>(match o.data with
   |.cls cd=>some (C,o,cd)
   |z=>none)
  |none=>none)
|none=>none
def vT(c:Nat):Nat:=match kX g N c with
|some x=>x.2.2.ns
|none=>0
def F3(k:Nat):Nat:=match Nat.blt k (256^40) with
|true=>mainGlobals
|false=>vT g N (k/256^40)
def rh(k:Nat):Option Addr:=iZ (N (F3 g N k) (dec (k%256^40)))
def cW(h:Heap):Nat:=match h.fnAt mainGlobals (dec Í) with
|some x=>(match x.2.2.code with
  |.ref c=>(h.tab0At c).getD 0
  |z=>0)
|none=>0
noncomputable def Hv(a:Arguments):Bool:=a.posonlyargs.isEmpty&&a.vararg.isNone&&a.kwonlyargs.isEmpty&&a.kwarg.isNone
noncomputable def Pe(sc:Scope):Bool:= !sc.isCoroutine&& !sc.isGenerator&&decide (sc.kind=.function)&&sc.names.all fun x=>!decide (x.2=.free)
def Eu(g:Addr->Option Obj)(P:Nat)(es:List Expr)(v:Value):Bool:=match fy es with
|none=>true
|some ds=>match ds with
  |[]=>decide (v=.none)
  |z=>match pY g P v with
   |some x=>Nat.beq x.2 0&&pI g P ds x.1.toList
   |none=>false
noncomputable def Sp(P:Nat):Value->Bool
|.ref c=>!Nat.beq c P
|z=>true
def zN(P:Nat)(k:Nat)(d:FD):Option (Arguments×FuncBody×Scope×Bool):=match rh g N k with
|some a=>(match g a with
  |some o=>(match o.data with
   |.func fd=>some (fd.params,fd.body,fd.scope,OP "function" o&& !Nat.beq a P&&Nat.beq fd.globals mainGlobals&&fd.closure.isEmpty&&Nat.beq fd.builtins builtinsNs&&C fd.code fd.qualname&&
     Sp P fd.code&&Eu g P d.a.defaults fd.defaults&&Hv d.a&&Pe d.sc&&decide (enc (dec (k%256^40))=some (k%256^40)))
   |z=>none)
  |none=>none)
|none=>none
def H7(P:Nat)(k:Nat)(C:Addr)(o:Obj)(cd:ClassData):Prop:=
 o.cls=.type "type"∧(o.slots.toList.length=6∧(o.slots.toList[4]?=some (some (.builtin "object.__new__"))∧(cd.mro=[.ref C,.type "object"]∧(cd.hasDict=true∧(cd.abstract=false∧(cd.hasDel=false∧(C≠P∧(cd.ns≠P∧(I cd.ns=true∧(N cd.ns "__getattribute__"=none∧(N cd.ns "__getattr__"=none∧(N cd.ns "__setattr__"=none∧(db.atts.all fun a=>(N cd.ns (dec a)).isNone||(sY k a).isSome)=true))))))))))))
noncomputable def II(P k:Nat)(C:Addr)(o:Obj)(cd:ClassData):Decidable (H7 N I P k C o cd):= @instDecidableAnd _ _ inferInstance (@instDecidableAnd _ _ inferInstance (@instDecidableAnd _ _ inferInstance inferInstance))
def vc(P:Nat)(k:Nat):Bool:=match kX g N k with
|some x=> @decide _ (II N I P k x.1 x.2.1 x.2.2)
|none=>false
def Cn(P:Nat):Bool:=match iZ (N mainGlobals "__builtins__") with
|some bm=>!Nat.beq bm builtinsNs&& !Nat.beq bm mainGlobals&& !Nat.beq bm P&&(match g bm with
  |some o=>o.plainModuleOk builtinsNs
  |none=>false)
|none=>false
def Lw(h:Heap):Bool:=match h.fnAt mainGlobals (dec Í) with
|some x=>decide (x.2.2.qualname=Str.ofString "form_sorted")
|none=>false
def Cb(h:Heap)(P:Nat):Bool:=
 (qO prog.main.body).all (vc g N I P)&&
 (jj.all fun x=>match aQ jj x.1 with
  |some p=>(match N mainGlobals (dec x.1) with
   |some v=>BN g P p v
   |none=>false)
  |none=>true)&&
 ((h.nsKeys mainGlobals).all fun x=>db.top.contains (oQ x.cps.toList))&&I mainGlobals&&I builtinsNs&&h.noLimitOk&&(g sysModules).isSome&&h.tab0Ok (dec Í)&&
 !Nat.beq P mainGlobals&& !Nat.beq P builtinsNs&& !Nat.beq P cStatics&& !Nat.beq P sysModules&&Cn g N P&&Lw h
def Sn(h:Heap):=(Cb g N I h (cW h),(fh prog.main.body).map (fun d=>zN g N C (cW h) d.1 d.2),HH.map fun x=>N builtinsNs (dec x.1))
end
def Qx(v:Value)(name:Str):Bool:=match v with
|.str s _=>PySem.W.Fast.sEq s name
|z=>false
def S2(name:Str)(l:List DictEntry):Option Value:= @List.rec DictEntry (fun z=>Option Value) none (fun e z ih=> @Bool.rec (fun z=>Option Value) ih (some e.val) (Qx e.key name)) l
def QO(g:Addr->Option Obj)(a:Addr)(name:Str):Option Value:=match g a with
|some o=>(match o.data with
  |.dict es _=>S2 name es.toList
  |z=>none)
|none=>none
theorem ID(s n:Str):(s==n)=PySem.W.Fast.sEq s n:=by
 cases q:PySem.W.Fast.sEq s n with
|true=>exact Y1.mpr (PySem.W.Fast.sEq_iff.mp q)
|false=>exact Y4.mpr fun e=>by rw[PySem.W.Fast.sEq_iff.mpr e] at q;injection q
theorem LD(v:Value)(name:Str):v.isStr name=Qx v name:=by
 cases v with
|str s t=>exact ID s name
|_=>rfl
theorem JB(name:Str)(l:List DictEntry):(l.find? fun e=>e.key.isStr name).map (·.val)=S2 name l:=by
 induction l with
|nil=>rfl
|cons e r ih=>
  rw[List.find?_cons,LD];refine(?_:_= @Bool.rec (fun z=>Option Value) (S2 name r) (some e.val) (Qx e.key name));cases Qx e.key name with
  |true=>rfl
  |false=>exact ih
theorem J0(h:Heap):h.nsMap=QO h.get?:=by
 funext a name
 delta Heap.nsMap QO;cases h.get? a with
|none=>rfl
|some o=>
  dsimp only;cases o.data with
  |dict es _=>obtain⟨l⟩:=es;refine(?_:(Array.find? _ (Array.mk l)).map _=_);rw[List.find?_toArray];exact JB name l
  |_=>rfl
noncomputable def Qy(g:Addr->Option Obj)(a:Addr):Bool:=match g a with
|some o=>(match o.data with
  |.dict es _=>es.toList.all fun e=>match e.key with
   |.str _ _=>true
   |z=>false
  |z=>false)
|none=>false
theorem J8(h:Heap):h.isNs=Qy h.get?:=by
 funext a
 delta Heap.isNs Qy;cases h.get? a with
|none=>rfl
|some o=>
  dsimp only;cases o.data with
  |dict es _=>exact(Array.all_toList ..).symm
  |_=>rfl
def Gv(g:Addr->Option Obj)(v:Value)(q:Str):Bool:=match v with
|.ref c=>(match g c with
  |some o=>(match o.data with
   |.fields vs=>(match(vs.toList[1]? :Option Value) with
    |some (.str n _)=>PySem.W.Fast.sEq n q
    |z=>false)
   |z=>false)
  |none=>false)
|z=>false
theorem E7(h:Heap):h.codeRecOk=Gv h.get?:=by
 funext v q
 delta Heap.codeRecOk Gv;cases v with
|ref c=>
  dsimp only;cases h.get? c with
  |none=>rfl
  |some o=>
   dsimp only;cases o.data with
   |fields vs=>
    refine(?_:(match(vs[1]? :Option Value) with|some (.str n _)=>n==q|_=>false)=_);rw[<-Yk];dsimp only;cases vs.toList[1]? with
    |none=>rfl
    |some x=>cases x with
     |str n _=>exact ID ..
     |_=>rfl
   |_=>rfl
|_=>rfl
abbrev DD(h:Heap):=kX h.get? h.nsMap
abbrev pN(h:Heap):=vT h.get? h.nsMap
abbrev jb(h:Heap):=rh h.get? h.nsMap
abbrev K1(h:Heap):=zN h.get? h.nsMap h.codeRecOk
abbrev Nk(h:Heap):=H7 h.nsMap h.isNs
abbrev IE(h:Heap):=vc h.get? h.nsMap h.isNs
abbrev MI(h:Heap):=Cn h.get? h.nsMap
abbrev Uu(h:Heap):=Cb h.get? h.nsMap h.isNs h
abbrev sm(h:Heap):=Sn h.get? h.nsMap h.isNs h.codeRecOk h
theorem O7(h:Heap):sm h=Sn h.get? (QO h.get?) (Qy h.get?) (Gv h.get?) h:=by rw[<-J0,<-J8,<-E7]
def jl:Bool×List (Option (Arguments×FuncBody×Scope×Bool))×List (Option Value):=(true,(fh prog.main.body).map (fun d=>some (d.2.a,.stmts d.2.b,d.2.sc,true)),HH.map fun x=>some x.2)
def f9(w:World)(h:Heap):Tp:={prog:=prog,w:=w,h0:=h,mg:=h.nsMap mainGlobals,mb:=h.nsMap builtinsNs,cls:=fun c=>if gq c then iZ (h.nsMap mainGlobals (dec c)) else none,cns:=fun c=>h.nsMap (pN h c),cnN:=pN h,meth:=sY,atts:=db.atts,fn:=jb h,P:=cW h,cst:=aQ jj}
theorem iD{v:Option Value}{a:Addr}(e:iZ v=some a):v=some (.ref a):=by
 cases v with
|none=>injection e
|some v=>cases v<;>first|(injection e with e;rw[e])|injection e
theorem dD{a b:Nat}(e:(!Nat.beq a b)=true):a≠b:=fun q=>by rw[q,Nat.beq_refl] at e;injection e
theorem An{t:String}{o:Obj}(e:OP t o=true):o.cls=.type t:=Ye e
theorem uc{h:Heap}{P:Nat}{v:Value}{x:Array Value×Nat}(e:pY h.get? P v=some x):∃a,v=.ref a∧a≠P∧h.get? a=some (cT x.1 x.2):=by
 cases v with
|ref a=>
  have e:(match Nat.beq a P with
  |true=>none
  |false=>match h.get? a with
   |some o=>(match o.data with
    |.seq items n=>(match OP "tuple" o&&o.dict.isNone&&o.slots.isEmpty with
     |true=>some (items,n)
     |false=>none)
    |_=>none)
   |none=>none)=some x:=e
  cases q:Nat.beq a P with
  |true=>rw[q] at e;injection e
  |false=>
   refine⟨a,rfl,fun z=>(by rw[z,Nat.beq_refl] at q;injection q),?_⟩;rw[q] at e;cases q1:h.get? a with
   |none=>rw[q1] at e;injection e
   |some o=>
    rw[q1] at e;obtain⟨oc,od,dt,⟨sl⟩⟩:=o;cases dt with
    |seq items n=>
     dsimp only at e;cases q2:OP "tuple" (⟨oc,od,.seq items n,⟨sl⟩⟩:Obj)&&od.isNone&&(⟨sl⟩:Array (Option Value)).isEmpty with
     |false=>rw[q2] at e;injection e
     |true=>
      rw[q2] at e;obtain rfl:=Xn e;obtain⟨a1,a3⟩:=(Xp _ _).mp q2;obtain⟨a1,a2⟩:=(Xp _ _).mp a1;obtain rfl:oc=.type "tuple":=An a1;obtain rfl:od=none:=Yu.mp a2;cases sl with
      |nil=>rfl
      |cons _ _=>injection a3
    |_=>injection e
|_=>injection e
mutual
theorem ro{T:Tp}{h:Heap}:∀{p:PV}{v:Value},BN h.get? T.P p v=true->V T (G0 T) h p v
|.none,v,e=>by cases v<;>first|rfl|injection e
|.bool b,v,e=>by
  cases v with
  |bool c=>exact YH Value.bool (Y1.mp e).symm
  |_=>injection e
|.int i,v,e=>by
  cases v with
  |int j t=>exact⟨t,YH (Value.int · t) (Ye e)⟩
  |_=>injection e
|.str x,v,e=>by
  cases v with
  |str y t=>exact⟨t,YH (Value.str · t) (PySem.W.Fast.sEq_iff.mp e)⟩
  |_=>injection e
|.tup l,v,e=>by
  have e:(match pY h.get? T.P v with
   |some x=>Nat.ble l.length 4000000&&pI h.get? T.P l x.1.toList
   |none=>false)=true:=e
  cases q:pY h.get? T.P v with
  |none=>rw[q] at e;injection e
  |some x=>rw[q] at e;obtain⟨e1,e2⟩:=(Xp _ _).mp e;obtain⟨a,rfl,n,g⟩:=uc q;exact⟨a,rfl,Yg n,x.1,x.2,g,Nat.le_of_ble_eq_true e1,n5 e2⟩
|.bytes _,_,e=>by injection e
|.lst _,_,e=>by injection e
|.dct _,_,e=>by injection e
|.inst _ _,_,e=>by injection e
|.loc _,_,e=>by injection e
|.glob _,_,e=>by injection e
theorem n5{T:Tp}{h:Heap}:∀{l:List PV}{vs:List Value},pI h.get? T.P l vs=true->Vs T (G0 T) h l vs
|[],vs,e=>by cases vs with|nil=>rfl|cons _ _=>injection e
|p::l,vs,e=>by
  cases vs with
  |nil=>injection e
  |cons v r=>obtain⟨e1,e2⟩:=(Xp _ _).mp (e:(BN h.get? T.P p v&&pI h.get? T.P l r)=true);exact⟨v,r,rfl,ro e1,n5 e2⟩
end
theorem Ge{T:Tp}{es:List Expr}{v:Value}{ds:List PV}(e:Eu T.h0.get? T.P es v=true)(h:fy es=some ds):AK T ds v:=by
 unfold Eu at e;rw[h] at e;cases ds with
|nil=>exact .inl ⟨rfl,Ye e⟩
|cons d r=>
  dsimp only at e;cases q:pY T.h0.get? T.P v with
  |none=>rw[q] at e;cases e
  |some x=>rw[q] at e;obtain⟨e1,e2⟩:=(Xp _ _).mp e;obtain⟨a,rfl,n,g⟩:=uc q;exact .inr ⟨a,x.1,rfl,n,(Nat.eq_of_beq_eq_true e1)▸g,n5 e2⟩
theorem Lz{cx:Cx}{a:Arguments}{b:List Stmt}{sc:Scope}{f:Fn}(h:JP cx a b sc=some f):fy a.defaults=some f.Z7:=by
 delta JP nV at h;cases q:EE (a.args.map (·.arg)) with
|none=>rw[q] at h;injection h
|some ps=>
  rw[q] at h;cases q1:fy a.defaults with
  |none=>rw[q1] at h;injection h
  |some ds=>
   rw[q1] at h;cases q2:oX cx sc b with
   |none=>rw[q2] at h;injection h
   |some b2=>
    rw[q2] at h;have h:Option.bind (if(decide ps.Nodup&&a.args.all (fun x=>fO sc x.arg))=true then some (⟨ps,ds,fZ b2.m,(fC b2.nt).Zy⟩:ï) else none) (fun f=>some f.fn)=some f:=h;cases q3:(decide ps.Nodup&&a.args.all (fun x=>fO sc x.arg)) with
    |false=>rw[q3] at h;injection h
    |true=>rw[q3] at h;injection h with h;rw[<-h];rfl
theorem tI{α:Type}{l:List (Nat×α)}:∀{k:Nat}{a:α},qB l k=some a->(k,a)∈l:=by
 induction l with
|nil=>intro _ _ h;injection h
|cons q0 r ih=>
  obtain⟨y,b⟩:=q0;intro k a h;unfold qB at h;by_cases q:y=k
  ·rw[Yh q] at h;obtain rfl:=Xn h;subst q;exact .head _
  ·rw[Yg q] at h;exact .tail _ (ih h)
theorem vt{α β:Type}{f g:α->β}:∀{l:List α},l.map f=l.map g->∀x∈l,f x=g x
|y::r,h,x,hx=>by
  rw[XM,XM] at h;injection h with h1 h2
  rcases Xo.mp hx with rfl|hx
  ·exact h1
  ·exact vt h2 x hx
structure yz(h:Heap)(P k:Nat)(d:FD)(a:Addr)(o:Obj)(fd:FuncData):Prop where
 ref:jb h k=some a
 get:h.get? a=some o
 data:o.data=.func fd
 par:fd.params=d.a
 body:fd.body=.stmts d.b
 sc:fd.scope=d.sc
 cls:o.cls=.type "function"
 Ą:a≠P
 gl:fd.globals=mainGlobals
 cl:fd.closure=[]
 bu:fd.builtins=builtinsNs
 code:h.CodeRec fd.code fd.qualname
 ð:∀c,fd.code=.ref c->c≠P
 dfl:Eu h.get? P d.a.defaults fd.defaults=true
 pok:Hv d.a=true
 sok:Pe d.sc=true
 enc:enc (dec (k%256^40))=some (k%256^40)
theorem cp{a b:Bool}(h:(a&&b)=true):a=true∧b=true:=(Xp _ _).mp h
theorem Hc{h:Heap}{P k:Nat}{d:FD}(e:K1 h P k d=some (d.a,.stmts d.b,d.sc,true)):∃a o fd,yz h P k d a o fd:=by
 delta K1 zN at e;cases q:rh h.get? h.nsMap k with
|none=>rw[q] at e;injection e
|some a=>
  rw[q] at e;dsimp only at e;cases q1:h.get? a with
  |none=>rw[q1] at e;injection e
  |some o=>
   rw[q1] at e;dsimp only at e;cases q2:o.data with
   |func fd=>
    rw[q2] at e;injection e with e
    injection e with e1 e
    injection e with e2 e
    injection e with e3 e
    obtain⟨e,ħ⟩:=cp e;obtain⟨e,Ĩ⟩:=cp e;obtain⟨e,c9⟩:=cp e;obtain⟨e,c8⟩:=cp e;obtain⟨e,c7⟩:=cp e;obtain⟨e,c6⟩:=cp e;obtain⟨e,c5⟩:=cp e;obtain⟨e,c4⟩:=cp e;obtain⟨e,c3⟩:=cp e;obtain⟨c1,c2⟩:=cp e;exact⟨a,o,fd,q,q1,q2,e1,e2,e3,An c1,dD c2,Nat.eq_of_beq_eq_true c3,List.isEmpty_iff.mp c4,Nat.eq_of_beq_eq_true c5,.of_ok c6,fun c hc=>(by rw[hc] at c7;exact dD c7),c8,c9,Ĩ,Ye ħ⟩
   |_=>rw[q2] at e;injection e
theorem yz.at0{w:World}{h:Heap}{k:Nat}{d:FD}{a:Addr}{o:Obj}{fd:FuncData}{f:Fn}(F:yz h (cW h) k d a o fd)(hc:QE (f9 w h) db f d.a.args d.b d.sc fd.code (fd.qualname++".<locals>."))(hd:fy d.a.defaults=some f.Z7):uN (f9 w h) db a f o fd d.b d.a.args d.a.kw_defaults d.a.defaults:=by
 obtain⟨s1,s4⟩:=cp F.sok;obtain⟨s1,s3⟩:=cp s1;obtain⟨s1,s2⟩:=cp s1;obtain⟨p1,p4⟩:=cp F.pok;obtain⟨p1,p3⟩:=cp p1;obtain⟨p1,p2⟩:=cp p1;refine⟨F.get,F.data,F.Ą,by rw[F.sc];exact hc,F.body,?_,by rw[F.sc];simpa using s1,by rw[F.sc];simpa using s2,by rw[F.sc];exact Ye s3,fun x hx=>?_,F.gl,F.cl,F.bu,F.code,F.ð,Ge F.dfl hd⟩
 ·refine(F.par).trans ?_;have e:d.a=⟨d.a.posonlyargs,d.a.args,d.a.vararg,d.a.kwonlyargs,d.a.kw_defaults,d.a.kwarg,d.a.defaults⟩:=by cases d.a;rfl
  rw[List.isEmpty_iff.mp p1,Yu.mp p2,List.isEmpty_iff.mp p3,Yu.mp p4] at e;exact e
 ·rw[F.sc] at hx;have:=XV.mp s4 x hx;intro q;rw[q] at this;exact absurd this (by decide)
theorem yz.at{w:World}{h:Heap}{k:Nat}{d:FD}{a:Addr}{o:Obj}{fd:FuncData}{f:Fn}(F:yz h (cW h) k d a o fd)(hf:JP db d.a d.b d.sc=some f):uN (f9 w h) db a f o fd d.b d.a.args d.a.kw_defaults d.a.defaults:=F.at0 (Kz hf) (Lz hf)
theorem uH:(qO prog.main.body).all (fun k=>Nat.blt k (256^40))=true:=by rfl'
theorem yH:db.top.all (fun k=>Nat.blt k (256^40))=true:=by rfl'
theorem yM:(db.atts.all fun a=>decide (fastLookup "object" (dec a)=some none))=true:=by rfl'
theorem fk{h:Heap}{k:Nat}(e:Nat.blt k (256^40)=true):jb h k=iZ (h.nsMap mainGlobals (dec k)):=by have:k<256^40:=Nat.le_of_ble_eq_true e;delta jb rh F3;rw[e,Nat.mod_eq_of_lt this]
theorem Gg{N c m:Nat}(hm:m<N):(c*N+m)/N=c∧(c*N+m)%N=m:=by rw[Nat.mul_add_mod_self_right,Nat.mod_eq_of_lt hm,Nat.mul_comm,Nat.mul_add_div (XQ (Nat.zero_le m) hm:0<N),Nat.div_eq_of_lt hm];exact⟨rfl,rfl⟩
theorem Ln{c m:Nat}(e:Nat.blt m (256^40)=true):fI c m/256^40=c∧fI c m%256^40=m:=Gg (Nat.le_of_ble_eq_true e)
theorem Hm{h:Heap}{k c:Nat}(hc:c≠0)(e:k/256^40=c):F3 h.get? h.nsMap k=pN h c:=by
 unfold F3;cases q:Nat.blt k (256^40) with
|false=>rw[<-e]
|true=>have:k<256^40:=Nat.le_of_ble_eq_true q;exact absurd (e.symm.trans (Nat.div_eq_of_lt this)) hc
theorem lw{k:Nat}(h:gq k=true):k∈qO prog.main.body:=List.contains_iff_mem.mp h
theorem yj{x:Nat}{p:PV}{vs:YA}:aQ vs x=some p->∃q,(x,q)∈vs:=by
 induction vs with
|nil=>intro h;injection h
|cons q0 r ih=>
  obtain⟨y,w⟩:=q0;intro h;unfold aQ at h;by_cases q:y=x
  ·exact⟨w,q▸.head _⟩
  ·rw[Yg q] at h;obtain⟨p,hp⟩:=ih h;exact⟨p,.tail _ hp⟩
theorem wz:fastBuiltinMro "object"=some [.type "object"]:=by rfl'
theorem tH(n:Str):∃y,typeLookup (.type "object") n=pure y:=by rw[typeLookup_type,builtinLookup_eq_fast];unfold fastLookup;rw[wz];exact⟨_,rfl⟩
theorem yw:∀a∈db.atts,typeLookup (.type "object") (dec a)=pure none:=fun a ha=>by rw[typeLookup_type,builtinLookup_eq_fast,Ye (XV.mp yM a ha)]
theorem ER:(qO prog.main.body).all (fun k=>!Nat.beq k 0)=true:=by rfl'
theorem Cr:Nat.ble db.atts.length 1000=true:=by rfl'
structure kG(h:Heap):Prop where
 cls:∀k∈qO prog.main.body,IE h (cW h) k=true
 con:∀x p,aQ jj x=some p->∃v,h.nsMap mainGlobals (dec x)=some v∧BN h.get? (cW h) p v=true
 keys:∀x∈h.nsKeys mainGlobals,db.top.contains (oQ x.cps.toList)=true
 gl:h.isNs mainGlobals=true
 bi:h.isNs builtinsNs=true
 lim:h.noLimitOk=true
 mods:∃o,h.get? sysModules=some o
 tab:h.tab0Ok (dec Í)=true
 p1:cW h≠mainGlobals
 p2:cW h≠builtinsNs
 p3:cW h≠cStatics
 p4:cW h≠sysModules
 fn:∀k d,(k,d)∈fh prog.main.body->∃a o fd,yz h (cW h) k d a o fd
 blt:∀x∈HH,h.nsMap builtinsNs (dec x.1)=some x.2
 bm:MI h (cW h)=true
 qn:Lw h=true
theorem N8{h:Heap}(e:sm h=jl):kG h:=by
 let' e1:=YH Prod.fst e;let' e2:(fh prog.main.body).map (fun d=>K1 h (cW h) d.1 d.2)=(fh prog.main.body).map (fun d=>some (d.2.a,FuncBody.stmts d.2.b,d.2.sc,true)):=YH (fun x=>x.2.1) e;let' e3:=YH (fun x=>x.2.2) e;obtain⟨e1,ť⟩:=cp e1;obtain⟨e1,Ŧ⟩:=cp e1;obtain⟨e1,ŧ⟩:=cp e1;obtain⟨e1,ħ⟩:=cp e1;obtain⟨e1,Ĩ⟩:=cp e1;obtain⟨e1,c9⟩:=cp e1;obtain⟨e1,c8⟩:=cp e1;obtain⟨e1,c7⟩:=cp e1;obtain⟨e1,c6⟩:=cp e1;obtain⟨e1,c5⟩:=cp e1;obtain⟨e1,c4⟩:=cp e1;obtain⟨e1,c3⟩:=cp e1;obtain⟨c1,c2⟩:=cp e1;refine⟨XV.mp c1,fun x p hp=>?_,XV.mp c3,c4,c5,c6,Option.isSome_iff_exists.mp c7,c8,dD c9,dD Ĩ,dD ħ,dD ŧ,fun k d hd=>Hc (vt e2 (k,d) hd),vt e3,Ŧ,ť⟩
 obtain⟨q,hq⟩:=yj hp;have:=XV.mp c2 _ hq;rw[hp] at this;cases z:h.nsMap mainGlobals (dec x) with
|none=>rw[z] at this;injection this
|some v=>rw[z] at this;exact⟨v,rfl,this⟩
section
variable{w:World}{h:Heap}(S:kG h)
include S
theorem kG.ó{k:Nat}(hk:gq k=true):∃C o cd,DD h k=some (C,o,cd)∧Nk h (cW h) k C o cd:=by
 let' x:=S.cls k (lw hk);unfold IE vc at x;cases q:kX h.get? h.nsMap k with
|none=>rw[q] at x;injection x
|some y=>rw[q] at x;exact⟨y.1,y.2.1,y.2.2,q,@Ye _ (II ..) x⟩
omit S in
theorem fT{k:Nat}{C:Addr}{o:Obj}{cd:ClassData}(e:DD h k=some (C,o,cd)):iZ (h.nsMap mainGlobals (dec k))=some C∧h.get? C=some o∧o.data=.cls cd:=by
 delta DD kX at e;cases q:iZ (h.nsMap mainGlobals (dec k)) with
|none=>rw[q] at e;injection e
|some C'=>
  rw[q] at e;dsimp only at e;cases q1:h.get? C' with
  |none=>rw[q1] at e;injection e
  |some o'=>
   rw[q1] at e;dsimp only at e;cases q2:o'.data with
   |cls cd'=>rw[q2] at e;injection e with e;injection e with e1 e;injection e with e2 e3;subst e1;subst e2;subst e3;exact⟨rfl,q1,q2⟩
   |_=>rw[q2] at e;injection e
theorem kG.meth{k m f:Nat}(hk:gq k=true)(hm:sY k m=some f):∃a o,jb h f=some a∧h.nsMap (pN h k) (dec m)=some (.ref a)∧a≠cW h∧h.get? a=some o∧o.cls=.type "function"∧(∃fd,o.data=.func fd)∧Mine.Internal.enc (dec m)=some m∧∃y,typeLookup (.type "object") (dec m)=pure y:=by
 delta sY at hm;by_cases z:(Nat.blt m (256^40)&&jv (fI k m))=true
 ·rw[Yh z] at hm;obtain rfl:=Xn hm;obtain⟨z1,z2⟩:=cp z;obtain⟨d,hd⟩:=Option.isSome_iff_exists.mp z2;obtain⟨a,o,fd,F⟩:=S.fn _ _ (tI hd);obtain⟨m1,m2⟩:=Ln (c:=k) z1;let' hr:=iD F.ref;rw[Hm (dD (XV.mp ER k (lw hk))) m1,m2] at hr;exact⟨a,o,F.ref,hr,F.Ą,F.get,F.cls,⟨fd,F.data⟩,m2▸F.enc,tH _⟩
 ·rw[Yg z] at hm;injection hm
theorem kG.clsAt{k:Nat}{C:Addr}{o:Obj}{cd:ClassData}(hk:gq k=true)(e:Mine.Internal.DD h k=some (C,o,cd))(c:Nk h (cW h) k C o cd):Iq (f9 w h) k C:=by
 have ns:pN h k=cd.ns:=by unfold pN vT;rw[show kX h.get? h.nsMap k=_ from e]
 obtain⟨_,g,d⟩:=fT e;obtain⟨c1,c2,c3,c4,c5,c6,c7,c8,c9,Ĩ,ħ,ŧ,Ŧ,ť⟩:=c;rw[<-ns] at c9 Ĩ ħ ŧ Ŧ ť;refine⟨?_,.of_isNs Ĩ,c8,c9,ħ,ŧ,Ŧ,fun a ha hm=>?_,fun m f hm=>S.meth hk hm⟩
 ·obtain⟨oc,od,dt,⟨sl⟩⟩:=o;obtain⟨cn,cb,cm,cns,cq,chd,csn,Φ,cab,Χ,cdel⟩:=cd;obtain⟨k0,k1,k2,k3,k5,e'⟩:=six_places c2 c3;dsimp only at c1 c4 c5 c6 c7 e' d ns;subst c1;subst c4;subst c5;subst c6;subst c7;subst d;subst ns;subst e';exact⟨cn,cq,cb,csn,Φ,Χ,od,k0,k1,k2,k3,k5,_,g,PySem.F.objNew⟩
 ·have:=XV.mp ť a ha;let' hm:sY k a=none:=hm;rw[hm,Option.isSome_none,Bool.or_false] at this;exact Yu.mp this
theorem kG.base:lO (f9 w h) where
 cls:=fun c C e=>by
  let' e:(if gq c=true then iZ (h.nsMap mainGlobals (dec c)) else none)=some C:=e;by_cases z:gq c=true
  ·rw[Yh z] at e;obtain⟨C',o,cd,e1,c'⟩:=S.ó z;obtain rfl:C'=C:=Xn ((fT e1).1.symm.trans e);exact S.clsAt z e1 c'
  ·rw[Yg z] at e;injection e
 atts:=yw
 attsN:=Nat.le_of_ble_eq_true Cr
 glob:=.of_isNs S.gl
 globP:=S.p1.symm
 built:=.of_isNs S.bi
 builtP:=S.p2.symm
 mods:=S.mods
 modsP:=S.p4.symm
theorem kG.ô:Lb ⟨f9 w h,ac 0,0,db⟩ where
 atts:=fun a e=>List.contains_iff_mem.mp e
 top:=fun k a e f=>by have:=XV.mp yH k (List.contains_iff_mem.mp e);let' f:jb h k=some a:=f;rw[fk this] at f;exact iD f
 off:=fun k e f=>by
  refine Heap.nsMap_none fun hk=>e ?_
  have:=S.keys _ hk;have g:oQ (dec k).cps.toList=k:=by
   delta enc at f;split at f
   ·exact Xn f
   ·injection f
  rwa [g] at this
 bi:=fun k v z e=>S.blt (k,v) e
theorem kG.Ψ(hs:∃a,jb h Í=some a∧jK (f9 w h) a):O3 (f9 w h) where
 base:=S.base
 room:=⟨.of_ok S.lim,S.p3.symm⟩
 cons:=fun x p e=>by obtain⟨v,a,b⟩:=S.con x p e;exact⟨v,a,ro (T:=f9 w h) b⟩
 meth:=fun c m=>rfl
 cls:=fun k e=>by obtain⟨D,o,cd,e1,c⟩:=S.ó e;let' A:=S.clsAt (w:=w) e e1 c;refine⟨D,(Yh e).trans (fT e1).1,(fk (XV.mp uH k (lw e))).trans (fT e1).1,A.ď,?_⟩;obtain⟨nm,q,bs,sn,sub,col,dd,k0,k1,k2,k3,k5,newId,ho,_⟩:=A.obj;exact⟨_,ho,.inr ⟨nm,q,D,_,bs,_,sn,sub,col,dd,k0,k1,k2,k3,k5,newId,rfl⟩⟩
 fn:=fun k f e=>by obtain⟨d,hd,hf⟩:=XC.mp e;obtain⟨a,o,fd,F⟩:=S.fn _ _ (tI hd);exact⟨a,o,fd,_,_,_,_,F.ref,F.at hf⟩
 sorted:=hs
 cx:=S.ô
end
def rP(P:Params)(ps:PS):Heap:=⟨⟨(List.range ps.size).map fun a=>(raw P ps a).getD default⟩,{}⟩
theorem xf{P:Params}:∀{s:Shared}{ps:PS},PR P s ps->s.heap=rP P ps
|⟨⟨⟨l⟩,life⟩,gs,d,k,os⟩,ps,R=>by
  let' hl:life={}:=R.life;let' hs:l.length=ps.size:=R.size;let' ho:∀a,l[a]?=raw P ps a:=(fun a=>(List.getElem?_toArray.symm).trans (R.obj a))
  unfold rP;rw[hl];refine YH (fun x=>Heap.mk (Array.mk x) {}) (List.ext_getElem? fun a=>?_);rw[List.getElem?_map];by_cases q:a<ps.size
  ·rw[List.getElem?_range q,ho];have:=ho a;rw[XK (hs▸q)] at this;rw[<-this];exact YH some ((YH (Option.getD · default) this).trans rfl:(some l[a]).getD default=_)
  ·rw[List.getElem?_eq_none (show l.length≤a from Xk (XY hs) (Yn.mp q)),List.getElem?_eq_none (show(List.range ps.size).length≤a by rw[List.length_range];exact Yn.mp q)];rfl
theorem wE:∀k a,Tr.find k .em a=none
|0,_=>rfl
|k+1,a=>by rw[Tr.Ñ];show(if _ then Tr.find k .em _ else Tr.find k .em _)=none;rw[wE,ite_self]
theorem x5(P:Params):(boot_heap P).objs.size=11:=rfl
theorem Gx(P:Params)(s:Shared)(h1:s.heap=boot_heap P)(h2:s.gens=#[])(h3:s.toks=181):PR P s ⟨.em,11,181⟩ where
 obj:=fun a=>by
  rw[h1];unfold raw;cases q:Nat.ble 4096 a with
  |true=>have:=Nat.le_of_ble_eq_true q;exact Array.getElem?_eq_none (by rw[x5];exact Xk (by decide) this)
  |false=>dsimp only;rw[wE]
 size:=by rw[h1];rfl
 toks:=h3
 gens:=h2
 life:=by rw[h1];rfl
def qv:Program:=PySem.W.view prog [158]
def loose:List Str:=prog.boundNames
def mods:List Str:=importedModules prog.main.body
abbrev Seen:=type_of%(openSeen qv loose mods (fun z=>true) true zb)
def tz(P:Params)(ps:PS)(a:Nat):Option Obj:=D8 (raw P ps a)
def Qo(P:Params)(ps:PS):=Sn (tz P ps) (QO (tz P ps)) (Qy (tz P ps)) (Gv (tz P ps)) (rP P ps)
theorem Lo{P:Params}{s:Shared}{ps:PS}(R:PR P s ps):Qo P ps=sm s.heap:=by
 let' e:tz P ps=s.heap.get?:=(funext fun a=>YH D8 (R.obj a).symm)
 rw[O7,<-e,xf R,Qo]
def wu(w:World)(d:Drawn)(k:Nat)(os:OsState)(ps:PS):Bool×Seen:=
 ((boot_heap w.params).isNs mainGlobals&&(staticsOk mods (boot_heap w.params) (rP w.params ps)&&namesBound prog (rP w.params ps)&&laidKept (boot_heap w.params) (rP w.params ps)),
  PySem.W.Fast.tw4187177175401517315 qv loose mods (fun z=>true) true ⟨rP w.params ps,#[],d,k,os⟩)
def nr(w:World):Option PS:=KL (PySem.W.Fast.tw11892475500146522536 PySem.W.Fast.tw14364793385576792824) prog w 20000 ⟨.em,11,181⟩ (topStub prog)
def Kn(w:World)(d:Drawn)(k:Nat)(os:OsState):=(nr w).map (wu w d k os)
def õ(w:World)(d:Drawn)(k:Nat)(os:OsState):Option (Bool×Seen):=some (true,openGood qv loose)
def Jp(w:World):=(nr w).map (Qo w.params)
def ö(w:World):=some jl
theorem sv:opening prog=plainProg prog.main.scope.names:=by rfl'
theorem zW:(fun s=>fenceModules? prog s)=fun s=>some s:=by rfl'
theorem ya(w:World):nr w=KL (denote treeTable) prog w 20000 ⟨.em,11,181⟩ (topStub prog):=by rw[PySem.W.Fast.te11892475500146522536,PySem.W.Fast.te14364793385576792824];rfl
theorem Fv(ra:Kn=õ)(rb:Jp=ö):LeftO prog qv loose (fun z=>true) (fun s=>sm s.heap) (fun z=>jl) 20000:=fun w=>by
 obtain⟨ps,q,e3⟩:=XN.mp (YI rb w:(nr w).map (Qo w.params)=some jl);have e:=fun d k os=>Xn ((YH (Option.map (wu w d k os)) q).symm.trans (YI (YI (YI (YI ra w) d) k) os:(nr w).map (wu w d k os)=some (true,openGood qv loose)))
 obtain⟨e0,e1⟩:=cp (YH Prod.fst (e {} 0 {}));rw[ya] at q;obtain⟨s₀,h0,b⟩:=XN.mp (boot_open sv (N:=20000) (by decide) (fun s=>YI zW s) w);have b1:s₀.heap=boot_heap w.params:=YH Prod.fst b;have b2:s₀.gens=#[]:=YH (fun x=>x.2.1) b;have b4:=YH (fun x=>x.2.2.2) b;obtain⟨s₁,hr,R⟩:=Hb (ann:=s₀.heap.nsMap mainGlobals "__annotations__") 20000 (Gx w.params s₀ b1 b2 b4) q;have hl:=xf R;have c1:(s₀.heap.isNs mainGlobals&&s₀.gens.size==0)=true:=by rw[b1,e0,b2];rfl
 have c2:(staticsOk (importedModules prog.main.body) s₀.heap s₁.heap&&namesBound prog s₁.heap&&gensDone s₁&&laidKept s₀.heap s₁.heap)=true:=by
  obtain⟨e1,ő⟩:=cp e1;obtain⟨e10,Œ⟩:=cp e1;have g:gensDone s₁=true:=by unfold gensDone;rw[R.gens];rfl
  rw[b1,hl,g];exact(Xp _ _).mpr ⟨(Xp _ _).mpr ⟨(Xp _ _).mpr ⟨e10,Œ⟩,rfl⟩,ő⟩
 have t:topFrom treeTable prog w 20000 s₀=some s₁:=by
  delta topFrom;have sz:s₀.heap.objs.size=11:=by rw[b1];rfl
  rw[c1];rw[sz,hr];dsimp only[Option.bind_some];rw[c2]
 have o:openEnds treeTable prog w 20000=some s₁:=by delta openEnds;exact(h0)▸t
 rw[o];have e2:openSeen qv loose mods (fun z=>true) true ⟨rP w.params ps,#[],s₁.drawn,s₁.toks,s₁.os⟩=openGood qv loose:=by exact(PySem.W.Fast.te4187177175401517315)▸YH Prod.snd (e s₁.drawn s₁.toks s₁.os)
 have hs:s₁=⟨rP w.params ps,#[],s₁.drawn,s₁.toks,s₁.os⟩:=by rw[<-hl,<-R.gens]
 refine YH some (Prod.ext ?_ ?_)
 ·exact(hs)▸e2
 ·refine(?_:sm s₁.heap=jl);exact(Lo R).symm.trans e3
def Ĉ:Nat:=7102839
noncomputable abbrev Zx:OpenRow:=PySem.Challenge.rw_pq1310_01.row
def o8:DefRec×List (Str×Expr):=match defOf qv (dec Ĉ) with
|some x=>x
|none=>(⟨⟨#[]⟩,⟨[],[],none,[],[],none,[]⟩,[],Uf,default⟩,[])
theorem Bq:Zx.name=dec Ĉ:=by rfl'
theorem w6:defOf qv Zx.name=some (o8.1,o8.2):=by rfl'
theorem GV:prog.theDef Zx.name=some (o8.1.params,o8.1.body,o8.1.scope):=by rfl'
theorem Lh:kwWritten? o8.1.params.kwonlyargs o8.1.params.kw_defaults=some o8.2:=by rfl'
theorem Et:(chainsOk qv&&opensWell prog&&(frees Zx.toRowW&&Zx.within.isEmpty))=true:=by rfl'
theorem Jf:(!Zx.writes||Zx.records.isEmpty)=true:=by rfl'
theorem C1:prog.bare:=⟨rfl,rfl,rfl,rfl,rfl,by rfl'⟩
theorem B8:Zx.toRowW.promised:=⟨[.list []],by rfl',by rfl'⟩
theorem EN(s:Shared):RecFacts Zx.records s.heap:=recFacts_nil rfl
theorem Fq{R:WRecords}{xs:List WData}:WShape.hasItems R xs .int=true->∃l:List Int,xs=l.map .int:=by
 induction xs with
|nil=>intro _;exact⟨[],rfl⟩
|cons x r ih=>intro e;obtain⟨e1,e2⟩:=cp (e:(WShape.has R x .int&&WShape.hasItems R r .int)=true);obtain⟨i,rfl⟩:=hasW_int e1;obtain⟨l,rfl⟩:=ih e2;exact⟨i::l,rfl⟩
theorem CF{args:List WData}(h:Zx.claim.pre args=true):∃l:List Int,args=[.list (l.map .int)]∧l.length≤63:=by
 obtain⟨h1,h2⟩:=pre_splitW (r:=Zx.toRowW) h;obtain⟨d,r,rfl,h3,h4⟩:=hasAllW_cons h1;obtain rfl:=hasAllW_nil h4;obtain⟨xs,rfl,h5⟩:=hasW_list h3;obtain⟨l,rfl⟩:=Fq h5;refine⟨l,rfl,?_⟩;by_cases q:l.length≤63
 ·exact q
 ·have lt:(63:Int)<((l.map WData.int).length:Int):=by rw[Xm];exact Yo.mpr (Nat.not_le.mp q)
  have e:WTm.value Zx.records (.and (.not (.lt (.lit (.int 63)) (.len (.arg 0)))) (.lit (.bool true))) {args:=[.list (l.map .int)]}=some (.bool false):=by let' k:less? (.int 63) (.int ((l.map WData.int).length:Int))=some true:=YH some (Yc lt);unfold WTm.value WTm.value WTm.value WTm.value WTm.value;rw[show([WData.list (l.map WData.int)][0]? :Option WData)=some (.list (l.map WData.int)) from rfl];dsimp only;rw[k];rfl
  have h2:(match WTm.value Zx.records (.and (.not (.lt (.lit (.int 63)) (.len (.arg 0)))) (.lit (.bool true))) {args:=[.list (l.map .int)]} with
   |some (.bool true)=>true
   |_=>false)=true:=h2
  rw[e] at h2;injection h2
theorem yV{T:Tp}{G:Gh}{h h':Heap}{P:Params}{l:List Int}:∀{vs:List Value},WellAll P h' vs (l.map .int)->Vs T G h (l.map .int) vs:=by
 induction l with
|nil=>intro _ r;cases r;rfl
|cons i l ih=>
  intro _ r;cases r with
  |cons r1 r2=>
   cases r1 with
   |int _ t=>exact⟨_,_,rfl,⟨t,rfl⟩,ih r2⟩
theorem uO:∀l:List Int,aj (l.map .int)=true:=by
 intro l;induction l with
|nil=>exact rfl
|cons _ r ih=>exact ih
abbrev YL(w:World)(h:Heap):Prop:=∃h0,sm h0=jl∧∀b o,h0.get? b=some o->h.get? b=some o
theorem Jn{h:Heap}(S:kG h):∃c,h.IsCode c (cW h) #[]∧h.TableAt c (cW h) #[]:=by
 obtain⟨a,o,fd,c,P,h1,h2,h3,h4,h5,h6⟩:=Heap.tab0Ok_spec S.tab;have:cW h=P:=by delta cW Heap.fnAt;rw[h1];dsimp only;rw[h2];dsimp only;rw[h3];dsimp only;rw[h4];dsimp only;rw[Heap.tab0At_complete h5 h6];rfl
 rw[this];exact⟨c,h5,h6⟩
theorem MY(ra:Kn=õ)(rb:Jp=ö)(sorted:∀w h,kG h->∃a,jb h Í=some a∧jK (f9 w h) a)
  (law:∀l:List Int,l.length≤63->∃n g,n≤140∧(ac n).F Ĉ [.lst (l.map .int)] []=some (.bool true,g)) (NI:PySem.Challenge.rw_pq1310_01.wellSaid=true):PySem.Challenge.rw_pq1310_01.Holds:=by
 refine holds_law NI fun k1=>?_
 refine holds_open (r:=Zx) (q:=qv) (loose:=loose) (Xt:=fun y=>true) (XP:=fun y y=>True) (Yf:=fun s=>sm s.heap) (Ya:=fun y=>jl) (YP:=YL) (d:=o8.1) (kwd:=o8.2) (N:=20000)
  (Fv ra rb) (fun w s e=>⟨s.heap,e,fun y y x=>x⟩) (fun w h h' Zg kk=>by obtain⟨h0,e,k⟩:=Zg;exact⟨h0,e,fun b o x=>kk b o (k b o x)⟩) (fun y y=>trivial) (fun y y y y y=>trivial) w6 GV Lh (fun s y=>EN s) Jf k1 Et C1 B8 ?_
 intro w s₀ s₁ mg mb G Y a o pm cd doc dV kV ho hdata ø hD hmg œ args vals as Ω hlay hrd hwl hlo;obtain⟨h0,e0,kp⟩:=Y;let' S:=N8 e0;obtain⟨l,rfl,hl⟩:=CF Ω;obtain⟨n,g,hn,hr⟩:=law l hl;obtain⟨a',e1,e2,e3,e5⟩:=(Pz (S.Ψ (sorted w h0 S)) n).O.F _ _ _ _ hr;have mge:mg=h0.nsMap mainGlobals:=by rw[(Heap.Ns.of_isNs S.gl).keeps kp |>.eq_nsMap];exact G.T.g.eq_nsMap
 let' e1:jb h0 Ĉ=some a':=e1;obtain rfl:a'=a:=by rw[fk (by rfl')] at e1;let' e6:=iD e1;rw[<-mge] at e6;rw[<-Bq] at e6;exact Value.ref.inj (Xn (e6.symm.trans (by exact(defOf_name w6)▸hmg:mg Zx.name=some (.ref a))))
 obtain⟨c,_,tb⟩:=Jn S;have hP:s₁.heap.get? (cW h0)=some {cls:=.none,data:=.fields #[]}:=kp _ _ tb.2;cases hwl with
|cons r1 r2=>
  cases r2;cases r1 with
  | @list b vs xs hb hv=>
   let T:=f9 w h0
   let' own:∀a,(G0 T).own a=if a=cW h0 then .ct else .fz:=(fun y=>rfl)
   have R:aG T (G0 T) s₁ ⟨[],[]⟩:={
    old:=fun b o n e=>⟨kp b o e,Yg n⟩
    ct:=⟨#[],hP,.inl rfl⟩
    ctP:=Yh rfl
    there:=fun a h=>by
     by_cases q:a=cW h0
     ·exact⟨_,q▸hP⟩
     ·exact absurd (Yg q) h
    lev:=fun a n k e=>by rw[own] at e;split at e<;>injection e
    nle:=Xx _
    glen:=rfl
    llen:=rfl
    g:=fun i e a h=>by injection h
    gk:=fun i e h=>by injection h
    l:=fun i e a h=>by injection h
    lkd:=fun a h=>h.elim
    gens:=œ}
   have V:Vs T (G0 T) s₁.heap [.lst (l.map .int)] [.ref b]:=by
    refine⟨_,_,rfl,⟨b,rfl,Yg (fun z=>by rw[z,hP] at hb;injection hb with hb;injection hb with hb;injection hb:b≠cW h0),vs.toArray,0,hb,?_,?_⟩,rfl⟩
    ·rw[Xm];exact Xk hl (by decide)
    ·exact yV hv
   let' nl:=(Bool.and_true _).trans (uO l);refine YE (e5 (G:=G0 T) (st:=⟨[],[]⟩) rfl R (⟨rfl,Xk (XA (Nat.mul_le_mul_left 4 hn) 301) (by decide),Xk (XA (Nat.mul_le_mul_left 40 hn) 4) (by decide)⟩:fF n callerA) nl V) (fun v s' z=>?_) fun e s' z=>?_
   ·obtain⟨G',R',X',hv⟩:=z;let' hv:=hv;subst hv;refine⟨.inl ⟨_,.bool true,[],rfl,fun y=>rfl,.bool true,(by rfl'),fun y=>⟨.nil,fun y h=>nomatch h⟩⟩,⟨fun b o e=>?_,fun b o e=>?_⟩,X'.os,.of_eq R'.gens⟩
    ·by_cases q:b=cW h0
     ·rw[q,hP] at e;injection e with e
      obtain⟨ps,e',_⟩:=R'.ct;refine .inr (.inl ⟨q▸(tb.keeps kp).isCodeTable,by rw[<-e],#[],ps,by rw[<-e],?_⟩);rw[<-e,q,Array.empty_append];exact e'
     ·exact .inl (X'.lat.fz b o (Yg q) e).1
    ·by_cases q:b=cW h0
     ·obtain⟨ps,e',_⟩:=R'.ct;exact(q)▸⟨_,e'⟩
     ·exact⟨o,(X'.lat.fz b o (Yg q) e).1⟩
   ·exact z.elim
theorem Bl:namesResolve prog=true:=by rw[PySem.W.Fast.te8377067652309620493];rfl'
theorem Gq:(namesMeet prog prog.main.body fun z n=>attrL n)=true:=by rw[PySem.W.Fast.te17119622794617984870];rfl'
theorem Eg:noRoadLSs {strict:= !(importedModules prog.main.body).all cThrough.contains,foot:=none,bare:=(["vars","dir","locals"]:List Str).filter (readsOut prog prog.main.body)} prog.main.body=true:=by rw[PySem.W.Fast.te8326940854005059898];rfl'
theorem AO:looksOpen prog=true:=by
 unfold looksOpen;rw[Bl,Gq,Eg,PySem.W.Fast.te11788848310118352699]
 rfl'
theorem Le:Zx.wellSaid=true:=by
 unfold OpenRow.wellSaid OpenRow.partSaid;rw[show looksOpen Zx.prog=true from AO]
 rfl'
theorem NI:PySem.Challenge.rw_pq1310_01.wellSaid=true:=by
 let' e:PySem.W.Fast.tw17960256430627541270 Zx=true:=(YI PySem.W.Fast.te17960256430627541270 Zx).symm.trans Le;rw[PySem.W.Fast.te9446332074065402090];unfold PySem.W.Fast.tw9446332074065402090;rw[show PySem.W.Fast.tw17960256430627541270 (PySem.W.Fast.tw2368527892694137696 PySem.Challenge.rw_pq1310_01)=true from e]
 rfl'
theorem QX:Kn=õ:=by rfl'
theorem QD:Jp=ö:=by rfl'
def mi(h:Heap)(L:Addr):Heap:={h with objs:=h.objs.extract 0 L}
theorem yp{h:Heap}{L:Addr}(hL:L<h.objs.size):(mi h L).objs.size=L:=by refine(?_:(h.objs.extract 0 L).size=L);rw[Array.size_extract,Nat.sub_zero];exact Nat.min_eq_left (XW hL)
theorem qD{h:Heap}{L b:Addr}{o:Obj}(e:(mi h L).get? b=some o):b<L∧h.get? b=some o:=by let' hb:b<(h.objs.extract 0 L).size:=Heap.lt_size e;rw[Array.size_extract,Nat.sub_zero] at hb;refine⟨(XI hb (Nat.min_le_left _ _):b<L),?_⟩;unfold Heap.get? mi at e;rw[Array.getElem?_extract,Nat.sub_zero,Yh hb,Xz] at e;exact e
theorem y6{h:Heap}{L b:Addr}(hb:L≤b):(mi h L).get? b=none:=by
 cases e:(mi h L).get? b with
|none=>rfl
|some o=>exact absurd (qD e).1 (Yn.mpr hb)
theorem tw{h:Heap}{L b:Addr}(hb:b<L):(mi h L).get? b=h.get? b:=by
 unfold Heap.get? mi;by_cases lt:b<min L h.objs.size
 ·rw[Array.getElem?_extract,Nat.sub_zero,Yh lt,Xz]
 ·rw[Array.getElem?_extract,Nat.sub_zero,Yg lt,Array.getElem?_eq_none (Nat.le_of_not_lt fun q=>lt (Nat.lt_min.mpr ⟨hb,q⟩):h.objs.size≤b)]
def QW(h:Heap)(L:Addr):List (Addr×Obj):=(List.range h.objs.size).filterMap fun b=>if L<b then(h.get? b).map (b,·) else none
theorem wB{h:Heap}{L b:Addr}{o:Obj}(hb:L<b)(e:h.get? b=some o):(b,o)∈QW h L:=List.mem_filterMap.mpr ⟨b,List.mem_range.mpr (Heap.lt_size e),by rw[Yh hb,e];rfl⟩
theorem qJ{h:Heap}{L:Addr}{p:Addr×Obj}(hp:p∈QW h L):L<p.1∧h.get? p.1=some p.2:=by
 obtain⟨b,_,e⟩:=List.mem_filterMap.mp hp;by_cases l:L<b
 ·rw[Yh l] at e;cases q:h.get? b with
  |none=>rw[q] at e;injection e
  |some o=>rw[q] at e;obtain rfl:=Xn e;exact⟨l,q⟩
 ·rw[Yg l] at e;injection e
def qi(L:Addr)(m:Str->Option Value)(h h':Heap):Prop:=(∀b o,b≠L->h.get? b=some o->h'.get? b=some o)∧h'.Ns L m
theorem Cu{α:Type}{l:List α}{i:Nat}{x:α}(h:l.length≤1)(e:l[i]?=some x):l=[x]:=by
 cases l with
|nil=>injection e
|cons a l=>
  cases l with
  |nil=>
   cases i with
   |zero=>exact YH (fun z=>[z]) (Xn e)
   |succ i=>injection e
  |cons b l=>exact absurd (Nat.le_of_succ_le_succ h) (Nat.not_succ_le_zero _)
theorem Ei{α:Type}{vs:List α}{kz:List Int}{ps:List (Int×α)}(hlen:vs.length=kz.length)(h1:vs.length≤1)(hp:ps.Perm (kz.zip vs)):ps.map (·.2)=vs:=by
 cases vs with
|nil=>rw[List.zip_nil_right] at hp;rw[List.Perm.eq_nil hp];rfl
|cons a r=>
  cases r with
  |nil=>
   cases kz with
   |nil=>exact Nat.noConfusion hlen
   |cons c z=>
    cases z with
    |nil=>rw[List.perm_singleton.mp hp];rfl
    |cons _ _=>exact Nat.noConfusion (Nat.succ.inj hlen)
  |cons b l=>exact absurd (Nat.le_of_succ_le_succ h1) (Nat.not_succ_le_zero _)
section
variable{prog:Program}{w:World}{A:Around}{s:Shared}{L l:Addr}{m:Str->Option Value}{vs:List Value}{kz:List Int}{f:Addr}{Q:Value->Shared->Prop}
theorem NQ{h':Heap}(hL:L<s.heap.objs.size)(k:qi L m s.heap h'):PyProof.Rows.Fr (mi s.heap L) L h' m:=⟨k.2,fun b o e=>k.1 b o (Nat.ne_of_lt (qD e).1) (qD e).2,XY (yp hL)⟩
theorem EG{h':Heap}(k:qi L m s.heap h'):News (mi s.heap L) L h' (QW s.heap L):=fun p hp=>⟨k.1 _ _ (Nat.ne_of_gt (qJ hp).1) (qJ hp).2,Nat.ne_of_gt (qJ hp).1,y6 (XW (qJ hp).1)⟩
theorem xR{h':Heap}(F:PyProof.Rows.Fr (mi s.heap L) L h' m)(N:News (mi s.heap L) L h' (QW s.heap L)):qi L m s.heap h':=⟨fun b o hb e=>by
 rcases Nat.lt_or_gt_of_ne hb with l|l
 ·exact F.keep b o ((tw l).trans e)
 ·exact(N _ (wB l e)).1,F.ns⟩
theorem BF(hm:s.heap.Ns L m)(hl:s.heap.IsList l vs.toArray)(hlen:kz.length=vs.length)(h1:vs.length≤1)
  (turn:∀(v:Value) (k:Int),vs=[v]->kz=[k]->∀(h:Heap) (tk:Nat),qi L m s.heap h->
   wpAny (model prog w) A.in1.in1 (call (.ref f) [v]) (fun v' s2=>∃h' ú t',s2={s with heap:=h',toks:=ú}∧v'=.int k t'∧∀b o,h.get? b=some o->h'.get? b=some o) (fun z z=>False) {s with heap:=h,toks:=tk})
  (hQ:∀D h' tk fi c,qi L m s.heap h'->s.heap.get? D=none->h'.get? D=some (seqObj "list" fi c)->fi.toList=vs->Q (.ref D) {s with heap:=h',toks:=tk}):
  wpAny (model prog w) A (call (.builtin "sorted") [.ref l] [(Str.ofString "key",.ref f)]) Q (fun z z=>False) s:=by
 let' k0:qi L m s.heap s.heap:=⟨fun z z z e=>e,hm⟩
 refine ksk_sorted (b:=false) (kz:=kz) (NQ hm.lt k0) (EG k0) hl hlen (XQ h1 (by decide)) (ksk_s1 _ _) (fun x=>ksk_l1 _ _) (fun x=>ksk_t1 _ _) ?_ ?_
 ·intro i v k hv hk h tk own F N;let' k1:=(xR F fun p hp=>N p (List.mem_append_left _ hp))
  obtain⟨rfl,rfl⟩:vs=[v]∧kz=[k]:=by exact⟨Cu h1 hv,Cu (hlen▸h1) hk⟩
  refine YE (turn v k rfl rfl h tk k1) (fun v' s2 q=>?_) fun z z x=>x
  obtain⟨h',ú,t',e1,e2,kp⟩:=q;exact⟨h',ú,t',e1,e2,⟨F.ns.keeps kp,fun b o e=>kp b o (F.keep b o e),F.above⟩,fun p hp=>⟨kp _ _ (N p hp).1,(N p hp).2⟩⟩
 ·intro D h' tk fi c F N ln ko;let' nD:=N (D,seqObj "list" fi c) (.head _);refine hQ D h' tk fi c (xR F fun p hp=>N p (.tail _ hp)) ?_ nD.1 ?_
  ·cases e:s.heap.get? D with
   |none=>rfl
   |some o=>
    rcases Nat.lt_or_gt_of_ne nD.2.1 with q|q
    ·rw[show(mi s.heap L).get? D=some o from(tw q).trans e] at nD;exact absurd nD.2.2 (by simp)
    ·exact absurd (ln _ (wB q e)) (YU _)
  ·obtain⟨ps,hp,ho,_⟩:=ko;exact ho.trans (Ei hlen.symm h1 hp)
end
def jZ(T:Tp)(L:Addr)(h h':Heap):Prop:=∀b o,b≠L->b≠T.P->h.get? b=some o->h'.get? b=some o
section
variable{T:Tp}{G:Gh}{s:Shared}{st:St}{L:Addr}{lev:Nat}{h':Heap}
theorem jZ.lat(R:aG T G s st)(hL:G.own L=.fr lev .L)(k:jZ T L s.heap h')(nl:Bool):Lt nl G s.heap G h':=
 ⟨fun a o e f=>⟨k a o (fun q=>by rw[q,hL] at e;injection e) (fun q=>by rw[q,R.ctP] at e;injection e) f,e⟩,fun z=>Xq _,Xq _⟩
theorem jZ.ent(R:aG T G s st)(hL:G.own L=.fr lev .L)(k:jZ T L s.heap h'){t:iW}{a:Addr}{e:Ent}(x:dp T G s.heap t a e)(h1:t≠.ct)(h2:t.d≠.ct)(h3:∀l,t≠.fr l .L)(h4:∀l,t.d≠.fr l .L):dp T G h' t a e:=
 have n:∀b u,G.own b=u->u≠.ct->(∀l,u≠.fr l .L)->b≠L∧b≠T.P:=fun b u e n1 n2=>⟨fun q=>n2 lev (by rw[<-e,q,hL]),fun q=>n1 (by rw[<-e,q,R.ctP])⟩
 ⟨x.own,x.obj.lt (nl:=false) (k.lat R hL false) (fun o=>k a o (n a t x.own h1 h3).1 (n a t x.own h1 h3).2) (fun dx o e f=>⟨k dx o (n dx _ e h2 h4).1 (n dx _ e h2 h4).2 f,e⟩) (fun h=>by injection h),x.mu,x.tm⟩
theorem aG.tab(R:aG T G s st)(hL:G.own L=.fr lev .L)(k:jZ T L s.heap h')(eL:∃o,h'.get? L=some o)(ct:iO T G h')(tk:Nat):aG T G {s with heap:=h',toks:=tk} st where
 old:=fun b o hb e=>by obtain⟨p,q⟩:=R.old b o hb e;exact((k.lat R hL false).1 b o q p)
 ct:=ct
 ctP:=R.ctP
 there:=fun a h=>by
  by_cases e:a=L
  ·exact e▸eL
  by_cases e2:a=T.P
  ·obtain⟨ps,q,_⟩:=ct;exact⟨_,e2▸q⟩
  obtain⟨o,q⟩:=R.there a h;exact⟨o,k a o e e2 q⟩
 lev:=R.lev
 nle:=R.nle
 glen:=R.glen
 llen:=R.llen
 g:=fun i e a h1 h2=>k.ent R hL (R.g i e a h1 h2) (fun h=>by injection h) (fun h=>by injection h) nofun nofun
 gk:=R.gk
 l:=fun i e a h1 h2=>by
  let' x:=R.l i e a h1 h2;let' d:∀q:Lk,dX G.n i q≠.ct∧(dX G.n i q).d≠.ct∧(∀l,dX G.n i q≠.fr l .L)∧∀l,(dX G.n i q).d≠.fr l .L:=(fun q=>by cases q<;>exact⟨(fun h=>by injection h),(fun h=>by injection h),nofun,nofun⟩)
  exact k.ent R hL x (d _).1 (d _).2 (d _).3 (d _).4
 lkd:=fun a h=>by obtain⟨⟨o,q⟩,t⟩:=R.lkd a h;exact⟨⟨o,k a o (fun e=>by rw[e,hL] at t;injection t) (fun e=>by rw[e,R.ctP] at t;injection t) q⟩,t⟩
 gens:=R.gens
theorem jZ.ext(R:aG T G s st)(hL:G.own L=.fr lev .L)(k:jZ T L s.heap h')(tk:Nat):cB (Xs G.n lev) G s G {s with heap:=h',toks:=tk}:=
 ⟨k.lat R hL false,fun a n sl e hx=>by
  obtain⟨o,q⟩:=R.there a (by rw[e];nofun);refine⟨?_,e⟩;rw[q];refine k a o (fun e2=>?_) (fun e2=>by rw[e2,R.ctP] at e;injection e) q;rw[e2,hL] at e;injection e with e1 e3
  exact hx (.inr ⟨e1.symm,.inl e3.symm⟩),fun a h=>by
  obtain⟨⟨o,q⟩,t⟩:=R.lkd a h;refine⟨?_,h⟩;rw[q];exact k a o (fun e=>by rw[e,hL] at t;injection t) (fun e=>by rw[e,R.ctP] at t;injection t) q,rfl,fun z=>rfl,rfl⟩
theorem oS.tab{env:Env}{vars:YA}(R:aG T G s st)(E:oS T G s.heap env lev vars)(k:jZ T env.locals s.heap h')(hn:∀m,s.heap.Ns env.locals m->h'.Ns env.locals m):oS T G h' env lev vars:=by
 obtain⟨m,n1,hL,hv⟩:=E.loc;have La:=k.lat R hL false;have kc:∀c v l n,s.heap.IsCell c v->G.own c=.fr l (.cell n)->h'.IsCell c v:=fun c v l n ic e=>by obtain⟨o,q,r⟩:=ic;exact⟨o,k c o (fun e2=>by rw[e2,hL] at e;cases e) (fun e2=>by rw[e2,R.ctP] at e;injection e) q,r⟩
 exact⟨E.kind,E.gl,E.bu,⟨m,hn m n1,hL,fun x p e1 e2=>by obtain⟨v,y1,y2⟩:=hv x p e1 e2;exact⟨v,y1,y2.lat La⟩⟩,fun x p e1 e2=>by
  obtain⟨c,v,e3,e4,e5⟩:=E.cell x p e1 e2;obtain⟨_,l,_,e6⟩:=E.cells _ _ e3;exact⟨c,v,e3,kc c _ l _ e4 e6,e5.lat La⟩,fun n c e=>by
  obtain⟨⟨v,e4⟩,l,hl,e6⟩:=E.cells n c e;exact⟨⟨v,kc c v l n e4 e6⟩,l,hl,e6⟩,E.free,E.nam⟩
end
structure tM(T:Tp)(c:Addr):Prop where
 ne:c≠T.P
 hd:CodeHd T.h0 c T.P
 bm:T.h0.BuiltinsAt T.mg T.P
section
variable{T:Tp}{G:Gh}{s:Shared}{st:St}{A:Around}{c:Addr}
theorem tM.code(C:tM T c)(R:aG T G s st):CodeHd s.heap c T.P:=by obtain⟨o,vs,file,tf,flags,tg,inF,text,tt,e,r⟩:=C.hd;exact⟨o,vs,file,tf,flags,tg,inF,text,tt,(R.old c o C.ne e).1,r⟩
theorem tM.built(C:tM T c)(R:aG T G s st):s.heap.BuiltinsAt T.mg T.P:=by obtain⟨bm,o,e1,e2,e3,e4,e5,r⟩:=C.bm;exact⟨bm,o,e1,e2,e3,e4,(R.old bm o e4 e5).1,r⟩
theorem KW(B:lO T)(C:tM T c)(R:aG T G s st){env:Env}(Ŝ:env.globals=mainGlobals)(ø:env.code=.ref c)(hq:env.qual++"<lambda>"=nQ){params:Arguments}{body:Expr}{scope:Scope}{pos:Pos}(hp1:pos.line=DH)(hp2:pos.col=CV)
  (hdef:PySem.defaultsOf params env=([],[])) (hcl:closureFor scope env=pure []) {Q:Value->Shared->Prop}
  (hQ:∀f c' pm ß h' tk,(∀b o,b≠T.P->s.heap.get? b=some o->h'.get? b=some o)->iO T G h'->h'.get? f=some (kla_obj "<lambda>" nQ params body scope [] pm c' ß)->h'.CodeRec (.ref c') nQ->Q (.ref f) {s with heap:=h',toks:=tk}):
  W T A (eval (.Lambda params body scope pos) env) Q s:=by
 refine kla_eval hdef ?_;rw[hq];let' hg:=R.ZB B.glob B.globP;obtain⟨ps,hP,hc⟩:=R.ct;rcases hc with rfl|⟨cd,rfl,Ŕ,hfz⟩
 ·refine kla_makeFunction (ps:=#[]) hcl Ŝ hg ø (C.code R) hP trivial rfl B.globP (C.built R) fun c' ß h' tk hx h1 h2 hr ht=>?_
  refine hQ h'.objs.size c' _ ß _ tk (fun b o n e=>Xv _ (hx b o n e)) ⟨_,Xv _ ht,.inr ⟨.ref c',?_,hr.push _,fun ca e=>?_⟩⟩ (XF _ rfl) (hr.push _)
  ·rw[hp1,hp2];rfl
  ·injection e with e
   exact R.fresh (Heap.get?_none_of_le (e▸h1))
 ·obtain⟨c',o,vs,t,rfl,z⟩:=id Ŕ;refine kla_makeFunctionHit (ps:=#[rawInt DH,rawInt CV,.ref c']) (cv:=.ref c') hcl Ŝ hg ø (C.code R) hP trivial ?_ (C.built R) fun ß h' tk k h1=>?_
  ·refine(?_:(if((DH:Int)==(pos.line:Int)&&(CV:Int)==(pos.col:Int))=true then some (Value.ref c') else _)=_);rw[hp1,hp2];rfl
  ·let' hr:=(Ŕ.keeps k).push {cls:=.type "function",data:=.func (kla_fn "<lambda>" nQ params body scope [] ((T.mg "__name__").getD .none) (.ref c') ß)};exact hQ h'.objs.size c' _ ß _ tk (fun b o n e=>Xv _ (k b o e)) ⟨_,Xv _ (k _ _ hP),.inr ⟨.ref c',rfl,hr,hfz⟩⟩ (XF _ rfl) hr
end
section
variable{prog:Program}{w:World}{A:Around}{s:Shared}{f c' b:Addr}{pm ß:Value}{params:Arguments}{scope:Scope}{x:Str}{px pc pk:Pos}{kk:Nat}{items:Array Value}{n:Nat}{k:Int}{t:Tok}
theorem zy(ŕ:A.depth<recursionLimit)(ho:s.heap.get? f=some (kla_obj "<lambda>" nQ params (.Subscript (.Name x px) (.Constant (.int 0) kk pc) pk) scope [] pm c' ß))(ø:s.heap.CodeRec (.ref c') nQ)(ε:s.heap.NoLimit)
  (hb:∀v,PySem.bindArgs (kla_fn "<lambda>" nQ params (.Subscript (.Name x px) (.Constant (.int 0) kk pc) pk) scope [] pm (.ref c') ß) ⟨[v],[]⟩=pure [(x,v)]) (hx:scope.names.lookup x=some .local) (hn:bj x=true)
  (hco:scope.isCoroutine=false) (hgen:scope.isGenerator=false) (hk:scope.kind=.function) (hcell:∀y∈scope.names,y.2≠.cell)
  (hv:s.heap.get? b=some (cT items n)) (h0:items[0]?=some (.int k t)):
  wpAny (model prog w) A (call (.ref f) [.ref b]) (fun v' s2=>∃h' ú t',s2={s with heap:=h',toks:=ú}∧v'=.int k t'∧∀b o,s.heap.get? b=some o->h'.get? b=some o) no s:=by
 refine wpAny_call (kla_callFunE ŕ ho rfl hco hgen rfl ø ?_);rw[hb];refine Yb (wpAny_newFunctionEnv hcell (fun y hy=>(XU.mp hy)▸(hx)) (fun h₁ û Ã=>⟨ε.fresh _ Ã,kla_codeExpr ?_⟩) hk);let' ζ:=(fun b o e=>Ã.extBut b o (Nat.ne_of_lt (Heap.lt_size e)) (Xv _ e))
 refine dA (wpAny_Subscript_Constant_late ?_);refine wpAny_Name ?_ (cj hn).1;refine wpAny_loadName_local hk hx û (show([(x,Value.ref b)].reverse.lookup x)=some (.ref b) by simp) ?_;refine wpAny_Constant_int ?_;obtain⟨id,hl⟩:=pR;refine⟨"tuple",id,hl,⟨_,ζ _ _ hv,rfl⟩,?_⟩;have z:0<items.size:=by
  rcases Nat.eq_zero_or_pos items.size with e|e
  ·rw[Array.getElem?_eq_none (XY e)] at h0;injection h0
  ·exact e
 exact P.getItem_tuple (items:=items) (ζ _ _ hv) (by decide) (by decide) (k:=0) (by unfold seqIndex?;simp;intro e;rw[e] at z;exact absurd z (by decide)) h0 ⟨_,_,_,rfl,rfl,ζ⟩
end
structure D1 where
 n:Str×Str×Str×Str×Str
 k:Nat×Nat×Nat×Nat×Nat
 p:Pos×Pos×Pos×Pos×Pos×Pos×Pos×Pos×Pos×Pos×Pos×Pos×Pos
 lp:Pos
 η:Arguments
 ĕ:Scope
 YT:Scope
noncomputable abbrev D1.sub(x:D1):Expr:=.Subscript (.Name x.n.2.2.1 x.p.2.2.2.2.2.2.2.2.2.2.1) (.Constant (.int 0) x.k.2.2.2.2 x.p.2.2.2.2.2.2.2.2.2.2.2.1) x.p.2.2.2.2.2.2.2.2.2.2.2.2
noncomputable abbrev D1.call(x:D1):Expr:=.Call (.Name x.n.1 x.p.2.2.2.2.1) [.Name x.n.2.1 x.p.2.2.2.2.2.1] [⟨Str.ofString "key",.Lambda x.η x.sub x.ĕ x.lp,x.p.2.2.2.2.2.2.1⟩] x.p.2.2.2.2.2.2.2.1
noncomputable abbrev D1.ret(x:D1):Stmt:=.Return (some (.ListComp (.Name x.n.2.2.2.2 x.p.1) [⟨.Tuple [.Name x.n.2.2.2.1 x.p.2.1,.Name x.n.2.2.2.2 x.p.2.2.1] x.k.2.2.2.1 x.p.2.2.2.1,x.call,[],0⟩] x.YT x.p.2.2.2.2.2.2.2.2.1)) x.p.2.2.2.2.2.2.2.2.2.1
structure LF(sc:Scope)(x:D1):Prop where
 hS:sc.names.lookup x.n.1=some .globalImplicit
 nSo:bj x.n.1=true
 hR:sc.names.lookup x.n.2.1=some .local
 eR:enc x.n.2.1=some x.k.1
 nRo:bj x.n.2.1=true
 hp1:x.lp.line=DH
 hp2:x.lp.col=CV
 hdef:∀env,PySem.defaultsOf x.η env=([],[])
 hcl:∀env,closureFor x.ĕ env=pure []
 hb:∀pm c' ß v,PySem.bindArgs (kla_fn "<lambda>" nQ x.η x.sub x.ĕ [] pm (.ref c') ß) ⟨[v],[]⟩=pure [(x.n.2.2.1,v)]
 hx:x.ĕ.names.lookup x.n.2.2.1=some .local
 hn:bj x.n.2.2.1=true
 hco:x.ĕ.isCoroutine=false
 hgen:x.ĕ.isGenerator=false
 hk:x.ĕ.kind=.function
 hcell:∀y∈x.ĕ.names,y.2≠.cell
 hok:Ja sc x.YT=true
 hW:x.YT.names.lookup x.n.2.2.2.1=some .local
 eW:enc x.n.2.2.2.1=some x.k.2.1
 hC:x.YT.names.lookup x.n.2.2.2.2=some .local
 eC:enc x.n.2.2.2.2=some x.k.2.2.1
 nCo:bj x.n.2.2.2.2=true
 oW:(aU x.YT).contains x.k.2.1=true
 oC:(aU x.YT).contains x.k.2.2.1=true
section
variable{X:Sx}{sc:Scope}{F:Fr}{G:Gh}{s:Shared}{st:St}{c:Addr}
theorem IP{h:Heap}{L f:Addr}{m:Str->Option Value}{o:Obj}(n:h.Ns L m)(e:h.get? f=some o)(hd:∀es ep,o.data≠.dict es ep):f≠L:=by
 rintro rfl;obtain⟨o',es,ep,e',d,_⟩:=n;rw[e'] at e;injection e with e
 exact hd es ep (e▸d)
theorem Je(O:Ok X)(Rm:nj X.T)(C:tM X.T c)(a:At X sc F G s st)(ø:F.env.code=.ref c)(hq:F.env.qual++"<lambda>"=nQ){x:D1}(K:LF sc x)(hg:X.T.mg x.n.1=none)(hm:X.T.mb x.n.1=some (.builtin "sorted"))
  {l:List PV}{kz:List Int} (hp:aQ F.vars x.k.1=some (.lst l)) (ho:l=[]∧kz=[]∨∃k e,l=[.tup [.int k,e]]∧kz=[k]) {Q:Value->Shared->Prop}
  (hQ:∀D s1,At X sc F G s1 st->cB (Xs G.n F.lev) G s G s1->V X.T G s1.heap (.lst l) (.ref D)->Q (.ref D) s1):
  wp X F (eval x.call F.env) Q s:=by
 obtain⟨m,û,hL,hv⟩:=a.E.loc;obtain⟨θ,-⟩:=bz K.eR;have ZW:=(b6 a.ZK (by rw[K.hR];nofun)).trans K.hR;rw[<-θ] at ZW;obtain⟨v,hmv,V0⟩:=hv x.k.1 _ hp ZW;obtain⟨la,rfl,ofz,items,n,ι,hlen,Ũ⟩:=V0;refine wpAny_Call_Name_kw (Calls.Name_function_global a.E.kind (er a.ZK K.hS) (jP O.B a hg hm ?_) (cj K.nSo).1);refine callWith_kw (id:="sorted") (Calls.spliced_cons (wpAny_Name (wpAny_loadName_local a.E.kind (by rw[<-θ];exact ZW) û (by exact(θ)▸hmv) (Calls.spliced_nil (kws_cons ?_))) (cj K.nRo).1));refine KW O.B C a.R a.E.gl ø hq K.hp1 K.hp2 (K.hdef _) (K.hcl _) fun f c' pm ß h1 tk k1 ct1 hf hcr=>kws_nil ?_
 refine(?_:wpAny (model X.T.prog X.T.w) F.A (call (.builtin "sorted") [.ref la] [(Str.ofString "key",.ref f)]) Q no {s with heap:=h1,toks:=tk});have nLP:F.env.locals≠X.T.P:=fun e=>by rw[e,a.R.ctP] at hL;injection hL
 have ĩ:∀b,G.own b=.fz->b≠F.env.locals∧b≠X.T.P:=fun b e=>⟨(fun q=>by rw[q,hL] at e;injection e),fun q=>by rw[q,a.R.ctP] at e;injection e⟩
 obtain⟨oL,es,ep,eL,dL,kL,fL⟩:=id û;have Ģ:h1.Ns F.env.locals m:=⟨oL,es,ep,k1 _ _ nLP eL,dL,kL,fL⟩
 have nf:=IP Ģ hf nofun;obtain⟨cc,oc,cvs,ctk,ec,hoc,hdc,hqc⟩:=id hcr;obtain rfl:=Value.ref.inj ec;have nc:c'≠F.env.locals:=IP Ģ hoc (fun es ep e=>by rw[hdc] at e;injection e);have lz:kz.length=items.toList.length:=by
  have e:=Ũ.length;rcases ho with⟨rfl,rfl⟩|⟨k,e',rfl,rfl⟩
  ·exact e.symm
  ·exact e.symm
 have l1:items.toList.length≤1:=by
  rw[<-lz];rcases ho with⟨_,rfl⟩|⟨k,e',_,rfl⟩
  ·exact Nat.zero_le _
  ·exact Xx _
 have ė:=k1 _ _ (ĩ la ofz).2 ι;refine BF (s:={s with heap:=h1,toks:=tk}) (vs:=items.toList) (kz:=kz) Ģ ⟨_,ė,rfl,_,rfl⟩ lz l1 (fun v k hvs hkz h ũ kp=>?_) fun D h2 ũ fi cc kp nD hD μ=>?_
 ·obtain⟨e',rfl⟩:∃e',l=[.tup [.int k,e']]:=by
   rcases ho with⟨_,e⟩|⟨k',e',e1,e2⟩
   ·rw[hkz] at e;injection e
   ·rw[hkz] at e2;injection e2 with e2;exact⟨e',e2▸e1⟩
  rw[hvs] at Ũ;obtain⟨v0,r0,e0,V1,_⟩:=Ũ;injection e0 with e0 _
  subst e0;obtain⟨b,rfl,bfz,it2,n2,hb2,_,v1,r1,e1,⟨t,rfl⟩,_⟩:=V1;have h0:it2[0]?=some (.int k t):=by rw[<-Yk,e1];rfl
  refine zy (s:={s with heap:=h,toks:=ũ}) (show F.A.depth<1000 by have:=a.rm.2;exact XQ (Xk (XH _ _) this) (by decide)) (kp.1 _ _ nf hf) ⟨c',oc,cvs,ctk,rfl,kp.1 _ _ nc hoc,hdc,hqc⟩ ?_ (K.hb _ _ _) K.hx K.hn K.hco K.hgen K.hk K.hcell (kp.1 _ _ (ĩ b bfz).1 (k1 _ _ (ĩ b bfz).2 hb2)) h0;exact Rm.lim.at fun o e=>kp.1 _ _ (ĩ _ (a.R.old _ _ Rm.ą e).2).1 (k1 _ _ (ĩ _ (a.R.old _ _ Rm.ą e).2).2 (a.R.old _ _ Rm.ą e).1)
 ·have kT:jZ X.T F.env.locals s.heap h2:=fun b o n1 n2 e=>kp.1 _ _ n1 (k1 _ _ n2 e)
  have ct2:=ct1.lat (fun b o e q=>⟨kp.1 _ _ (ĩ b e).1 q,e⟩) fun o q=>kp.1 _ _ nLP.symm q
  obtain⟨o2,_,_,eo2,_⟩:=id kp.2;have R2:=a.R.tab hL kT ⟨o2,eo2⟩ ct2 ũ;have E2:=a.E.tab a.R kT fun m' ě=>by
   have:m'=m:=funext fun x=>by
    obtain⟨oo,Į,ep',e1,e2,_,e3⟩:=ě;rw[eL] at e1;obtain rfl:=Xn e1;rw[dL] at e2;injection e2 with e2 _
    rw[<-e3,<-fL,e2]
   exact this▸kp.2
  have oD:=a.R.fresh (by
   cases q:s.heap.get? D with
   |none=>rfl
   |some o=>
    by_cases e:D=X.T.P
    ·obtain⟨ps,q2,_⟩:=ct1;rw[e] at nD;rw[show h1.get? X.T.P=none from nD] at q2;injection q2
    ·have z:=k1 D o e q;rw[show h1.get? D=none from nD] at z;injection z)
  exact hQ D _ ⟨R2,E2,a.rm,a.lv,a.ZK⟩ (kT.ext a.R hL ũ) ⟨D,rfl,oD,fi,cc,hD,hlen,by exact(μ)▸Ũ.lat (kT.lat a.R hL false)⟩
end
def Qq(l:List PV)(kz:List Int)(r:List PV):Prop:=l=[]∧kz=[]∧r=[]∨∃k e,l=[.tup [.int k,e]]∧kz=[k]∧r=[e]
theorem nu{own ns:List Nat}{vars:YA}(h:∀y∈ns,own.contains y=true):my ns (vars.filter fun x=>!own.contains x.1)=true:=XV.mpr fun y hy=>by
 cases e:aQ (vars.filter fun x=>!own.contains x.1) y with
|none=>rfl
|some q=>have:=(de (fun x=>!own.contains x) e).2;rw[h y hy] at this;injection this
theorem Ju{C:Zn}{own:List Nat}{vars:YA}{st:St}{kW kC:Nat}{l r:List PV}{kz:List Int}(hw:own.contains kW=true)(hc:own.contains kC=true)(o:Qq l kz r):
  iX .frozen own (y3 kC) [⟨pT [pV kW,pV kC],[kW,kC],iE (yD (.lst l)),[]⟩] C vars st=some (.lst r,st):=by
 have hf:my [kW,kC] (vars.filter fun x=>!own.contains x.1)=true:=nu fun y hy=>by
  rcases Xo.mp hy with rfl|hy
  ·exact hw
  ·exact(XU.mp hy)▸hc
 generalize hv:(vars.filter fun x=>!own.contains x.1)=v at hf;delta iX;rw[hv];unfold lM;rw[Yh hf];rcases o with⟨rfl,rfl,rfl⟩|⟨k,e,rfl,rfl,rfl⟩
 ·rfl
 ·refine(?_:((((rf (y3 kC) C (dK (dK v kW (.int k)) kC e) [] st).bind fun y=>ar _ [] y.1 y.2).bind _).bind _)=_);delta rf y3;rw[eu,Yh rfl];rfl
theorem u8(e:Expr)(sc:Scope)(env:Env)(pos:Pos)(nA first:Sem Value)(b:Bool)(u:Option (Value->Sem Unit)):comprehension e sc env pos nA b first u=first>>= fun x=>comprehension e sc env pos nA b (pure x) u:=by rfl
section
variable{X:Sx}{sc:Scope}{F:Fr}{G:Gh}{s:Shared}{st:St}{c:Addr}
theorem GB(O:Ok X)(Rm:nj X.T)(C:tM X.T c)(a:At X sc F G s st)(ø:F.env.code=.ref c)(hq:F.env.qual++"<lambda>"=nQ){x:D1}(K:LF sc x)(hg:X.T.mg x.n.1=none)(hm:X.T.mb x.n.1=some (.builtin "sorted"))
  {l r:List PV}{kz:List Int} (hp:aQ F.vars x.k.1=some (.lst l)) (ho:Qq l kz r) (nl:aj r=true) {Q:Flow->Shared->Prop}
  (H:fj X sc F (Xs G.n F.lev) G s Q (.ret (.lst r),F.vars,st)):
  wp X F (execs [x.ret] F.env) Q s:=by
 let' ho':l=[]∧kz=[]∨∃k e,l=[.tup [.int k,e]]∧kz=[k]:=(ho.imp (fun x=>⟨x.1,x.2⟩) fun⟨k,e,x1,x2,_⟩=>⟨k,e,x1,x2⟩)
 refine wpAny_execs_cons (PySem.wpAny_Return_some ?_);rw[arm_eval_ListComp];rw[u8];refine X9 (Je O Rm C a ø hq K hg hm hp ho' fun D s1 a1 x1 V1=>?_);let' a0:At X sc (F.w (F.vars.filter fun y=>!(aU x.YT).contains y.1)) G s1 st:=⟨a1.R,a1.E.weaken fun y q h=>(de (fun y=>!(aU x.YT).contains y) h).1,a1.rm,a1.lv,a1.ZK⟩
 refine BJ (d:=.frozen) (use:=none) (icl:=[]) (r:=[]) (iit:=iE (yD (.lst l))) (.tup (.name (.inl K.hW) K.eW (.name (.inl K.hC) K.eC .nil)) .nil) (fun H=>Yb (Hq (F:=F.w (F.vars.filter fun y=>!(aU x.YT).contains y.1)) (r:=(.lst l,st)) (.refl a0) V1 H)) (fun z z=>rfl) (DU K.hok) .nil .nil (Mh (.inl K.hC) K.eC K.nCo) a1 ?_;rw[show iX .frozen (aU x.YT) (y3 x.k.2.2.1) [⟨pT [pV x.k.2.1,pV x.k.2.2.1],[x.k.2.1,x.k.2.2.1]++[],iE (yD (.lst l)),[]⟩] X.C F.vars st=some (.lst r,st) from Ju K.oW K.oC ho];exact fun G2 v s2 N V2=>H _ _ _ ⟨N.a.R,x1.trans (N.x.mono fun z z h=>.inl h),V2,nl⟩
end
structure Rd(d:FD)(x:D1):Prop where
 b:d.b=[x.ret]
 K:LF d.sc x
 kR:x.k.1=7501166
 eS:enc x.n.1=some 126922498794852
 args:d.a.args.map (·.arg)=[7501166].map dec
 own:fO d.sc (dec 7501166)=true
 dfl:fy d.a.defaults=some []
theorem zv:∃d x,(fh prog.main.body)[25]?.map (·.2)=some d∧Rd d x:=by exact⟨_,⟨⟨_,_,_,_,_⟩,⟨7501166,131277443786868,1668244581,_,_⟩,⟨_,_,_,_,_,_,_,_,_,_,_,_,_⟩,_,_,_,_⟩,rfl,{b:=rfl,kR:=rfl,eS:=by rfl',args:=by rfl',own:=by rfl',dfl:=by rfl',K:={hdef:=fun z=>rfl,hcl:=fun z=>rfl,hb:=fun z z z z=>rfl,hcell:=by decide,hS:=by rfl',nSo:=by rfl',hR:=by rfl',eR:=by rfl',nRo:=by rfl',hp1:=by rfl',hp2:=by rfl',hx:=by rfl',hn:=by rfl',hco:=by rfl',hgen:=by rfl',hk:=by rfl',hok:=by rfl',hW:=by rfl',eW:=by rfl',hC:=by rfl',eC:=by rfl',nCo:=by rfl',oW:=by rfl',oC:=by rfl'}}⟩
theorem GH:(fh prog.main.body)[25]?.map (·.1)=some Í:=by rfl'
theorem Dn{l r:List PV}(h:U0 l=some r):∃kz,Qq l kz r:=by
 cases l with
|nil=>exact⟨[],.inl ⟨rfl,rfl,(Xn h).symm⟩⟩
|cons x l=>obtain⟨z,h2,h⟩:=XC.mp (h:(nE (x::l)).bind _=some r);obtain⟨y,h3,h⟩:=XC.mp h;obtain⟨i,h4,h⟩:=XC.mp h;exact⟨[i],.inr ⟨i,y.2,by rw[qf h2,qp h3,uh h4],rfl,(Xn h).symm⟩⟩
theorem sI{p:PV}{r:List PV}(h:P9 p=some r):∃l kz,p=.lst l∧Qq l kz r:=by obtain⟨l,h1,h2⟩:=XC.mp h;obtain⟨kz,h3⟩:=Dn h2;exact⟨l,kz,AN h1,h3⟩
def Wq:DS:=fun z vs st=>(aQ vs 7501166).bind fun p=>(P9 p).bind fun r=>if aj r=true then some (.ret (.lst r),vs,st) else none
def JC:Fn:=⟨[7501166],[],Wq⟩
section
variable{w:World}{h:Heap}
theorem Ke(S:kG h):∃a o fd c,h.nsMap mainGlobals (dec Í)=some (.ref a)∧h.get? a=some o∧o.data=.func fd∧fd.code=.ref c∧h.IsCode c (cW h) #[]∧h.TableAt c (cW h) #[]∧fd.qualname=Str.ofString "form_sorted":=by
 obtain⟨a,o,fd,c,P,h1,h2,h3,h4,h5,h6⟩:=Heap.tab0Ok_spec S.tab;have:cW h=P:=by unfold cW Heap.fnAt;rw[h1];dsimp only;rw[h2];dsimp only;rw[h3];dsimp only;rw[h4];dsimp only;rw[Heap.tab0At_complete h5 h6];rfl
 let' q:=S.qn;unfold Lw Heap.fnAt at q;rw[h1] at q;dsimp only at q;rw[h2] at q;dsimp only at q;rw[h3] at q;dsimp only at q;rw[this];exact⟨a,o,fd,c,h1,h2,h3,h4,h5,h6,Ye q⟩
theorem Nu(S:kG h):h.BuiltinsAt (h.nsMap mainGlobals) (cW h):=by
 let' q:=S.bm;unfold MI Cn at q;cases e:iZ (h.nsMap mainGlobals "__builtins__") with
|none=>rw[e] at q;cases q
|some bm=>
  rw[e] at q;obtain⟨q,q4⟩:=cp q;obtain⟨q,q3⟩:=cp q;obtain⟨q1,q2⟩:=cp q;cases eo:h.get? bm with
  |none=>rw[eo] at q4;cases q4
  |some o=>rw[eo] at q4;cases Obj.plainModule_of_ok q4;exact⟨bm,_,iD e,dD q1,dD q2,dD q3,eo,rfl,rfl,rfl⟩
theorem Ū(S:kG h)(n:Nat):Ok ⟨f9 w h,ac 0,n,db⟩:=⟨S.base,⟨fun x p e=>by obtain⟨v,a,b⟩:=S.con x p e;exact⟨v,a,ro (T:=f9 w h) b⟩,fun c m=>rfl,fun f l g r h=>nomatch h⟩,⟨S.ô.atts,S.ô.top,S.ô.off,S.ô.bi⟩⟩
theorem Em{l:List PV}{g:List Ent}{r:PV×List Ent}(e:QS l g=some r)(hn:aj l=true):pJ (ac 0) JC l g=some r:=by
 obtain⟨q,e1,e2⟩:=XC.mp e;cases l with
|nil=>injection e1
|cons p l=>cases l with
  |cons _ _=>injection e1
  |nil=>
   have nq:aj q=true:=by
    obtain⟨l,kz,rfl,h⟩:=sI e1;rcases h with⟨_,_,rfl⟩|⟨k,c,rfl,_,rfl⟩
    ·rfl
    ·rw[show aj [.lst [.tup [.int k,c]]]=(aw c&&true&&true&&true) by rfl',Bool.and_true,Bool.and_true] at hn;exact(show aj [c]=(aw c&&true) by rfl').trans hn
   let' e1:P9 p=some q:=e1;show((P9 p).bind fun r=>if aj r=true then some (Fl.ret (.lst r),[(7501166,p)],(⟨[],g⟩:St)) else none).bind _=_;rw[e1];show((if aj q=true then some (Fl.ret (.lst q),[(7501166,p)],(⟨[],g⟩:St)) else none):Option R3).bind _=_;rw[Yh nq];show(if di g g=true then some (PV.lst q,g) else none)=_;rw[ak,Yh rfl];exact e2
theorem LN(S:kG h):∃a,jb h Í=some a∧jK (f9 w h) a:=by
 obtain⟨d,x,hd,K⟩:=zv;have mem:(Í,d)∈fh prog.main.body:=by
  let' n:=GH;cases e:(fh prog.main.body)[25]? with
  |none=>rw[e] at n;cases n
  |some y=>
   rw[e] at n hd;injection n with n;injection hd with hd
   obtain⟨y1,y2⟩:=y;let' n:y1=Í:=n;let' hd:y2=d:=hd;subst n;subst hd;exact List.mem_of_getElem? e
 obtain⟨a,o,fd,Fo⟩:=S.fn Í d mem;obtain⟨a',o',ū,c,h1,h2,h3,h4,h5,h6,h7⟩:=Ke S;let' ra:=Fo.ref;rw[fk (by rfl')] at ra;let' e6:=iD ra;rw[h1] at e6;injection e6 with e6;injection e6 with e6
 subst e6;let' e7:=Fo.get;rw[h2] at e7;injection e7 with e7;subst e7
 let' e8:=Fo.data;rw[h3] at e8;injection e8 with e8;subst e8
 have C:tM (f9 w h) c:=⟨by obtain⟨_,_,_,_,_,_,_,_,_,_,_,_,_,_,_,_,_,_,_,_,ne⟩:=h5;exact ne,.of h5 h6,Nu S⟩
 let' Rm:nj (f9 w h):=⟨.of_ok S.lim,S.p3.symm⟩
 have hc:QE (f9 w h) db JC d.a.args d.b d.sc ū.code (ū.qualname++".<locals>."):=⟨K.args,fun k hk=>by rw[XU.mp hk];rfl',by decide,fun k hk=>by rw[XU.mp hk];exact K.own,fun X O hx hT F G s st Q ø hq a z H=>by
  obtain⟨T',C',n',cx'⟩:=X;dsimp only at hT hx;subst hT;subst hx;obtain⟨p,hp,H⟩:=(ab H).get;obtain⟨r,hr,H2⟩:=(ab H).get;obtain⟨nl,H2⟩:=aF H2;obtain⟨l,kz,rfl,ho⟩:=sI hr;rw[K.b];let' top:¬db.top.contains 126922498794852=true:=(by decide)
  exact GB O Rm C a (ø.trans h4) (by rw[hq,h7];rfl) K.K (mT O K.eS top) (tj O K.eS top (by decide)) (K.kR▸hp) ho nl H2⟩
 exact⟨a',Fo.ref,Fo.Ą,⟨o',h2,.inl ⟨ū,h3⟩⟩,fun{n l g r G s st A vs} e eg R rm hn hv=>by subst eg;exact(B6 (X:=⟨f9 w h,ac 0,n,db⟩) (Ū S n) Rm rfl (Fo.at0 hc K.dfl:uN (f9 w h) db a' JC o' ū d.b d.a.args d.a.kw_defaults d.a.defaults) (Em e hn) R rm hn hv).mono fun z z y=>y.pe⟩
end
end
noncomputable def NV:Stmt->List Stmt
|.If _ b o _=>b++o
|.For _ _ b _ _=>b
|.While _ b _ _=>b
|z=>[]
noncomputable def yk:List Stmt->List Nat->Option Stmt
|_,[]=>none
|l,i::p=>(l[i]?).bind fun s=>match p with
  |[]=>some s
  |z=>yk (NV s) p
def oF(k:Nat):Option FD:=match(fh prog.main.body)[k]? with
|some x=>some x.2
|none=>none
def ai(k:Nat)(p:List Nat)(C:Zn)(x:PV)(vs:YA)(s:St):Option R3:=match oF k with
|none=>none
|some d=>match yk d.b p with
  |some (.For t _ b _ _)=>(match LR d.sc t with
   |some y=>match oX db d.sc b with
    |some b=>(y.1.1 x vs).bind fun vs=>b.t C vs s
    |none=>none
   |none=>none)
  |z=>none
noncomputable def SM:Expr->List Expr
|.Call f as _ _=>f::as
|.Tuple es _ _=>es
|.Attribute b _ _=>[b]
|.BinOp l _ r _=>[l,r]
|.IfExp t a b _=>[t,a,b]
|.Compare l _ rs _=>l::rs
|.UnaryOp _ e _=>[e]
|z=>[]
noncomputable def Df:Expr->List Nat->Option Expr
|e,[]=>some e
|e,i::q=>match(SM e)[i]? with
  |some e=>Df e q
  |none=>none
noncomputable def I1:Stmt->Option Expr
|.Assign _ e _=>some e
|.AugAssign _ _ e _=>some e
|.Return e _=>e
|.Expr e _=>some e
|.If t _ _ _=>some t
|z=>none
def Ce(sc:Scope)(e:Expr)(C:Zn)(vs:YA)(y:PV)(acc:List PV)(s:St):Option (List PV×St):=match e with
|.ListComp e gens YT _=>(match(cG db gens sc YT).down.2 with
  |some x=>(match(cA db e YT).v with
   |some d=>(x.1.1.p y vs).bind fun vs=>(rx x.1.1.ifs C vs s).bind fun b=>if b.1 then lM (iS d.m) x.1.2.2 C vs acc b.2 else some (acc,b.2)
   |none=>none)
  |none=>none)
|z=>none
def aH(k:Nat)(p q:List Nat)(C:Zn)(vs:YA)(y:PV)(acc:List PV)(s:St):Option (List PV×St):=match oF k with
|none=>none
|some d=>match yk d.b p with
  |none=>none
  |some st=>match I1 st with
   |none=>none
   |some e=>match Df e q with
    |none=>none
    |some e=>Ce d.sc e C vs y acc s
def aI(k:Nat)(p:List Nat)(C:Zn)(vs:YA)(s:St):Option (Bool×St):=match oF k with
|none=>none
|some d=>match yk d.b p with
  |some (.While t _ _ _)=>(match(cA db t d.sc).t with
   |some t=>iS t.m C vs s
   |none=>none)
  |z=>none
def aD(k:Nat)(p:List Nat)(C:Zn)(vs:YA)(s:St):Option R3:=match oF k with
|none=>none
|some d=>match yk d.b p with
  |some (.While _ b _ _)=>(match oX db d.sc b with
   |some b=>b.t C vs s
   |none=>none)
  |z=>none
noncomputable def HN(b:List Stmt):List Nat->List Stmt
|[]=>[]
|i::p=>match p with
  |[]=>b.drop (i+1)
  |z=>match b[i]? with
   |some s=>HN (NV s) p
   |none=>[]
def oG(k:Nat)(p:List Nat)(C:Zn)(z:R3):Option R3:=match z.1 with
|.next=>(match oF k with
  |none=>none
  |some d=>match oX db d.sc (HN d.b p) with
   |some b=>fZ b.m _ C z.2.1 z.2.2 some
   |none=>none)
|y=>some z
noncomputable def S(x:String):PV:=.str ⟨(x.toList.map Char.toNat).toArray⟩
def dk(m t:Int):List (PV×PV):=[(S "cells",.glob 0),(S "mixed",.int m),(S "turn",.int t)]
def gD(c:List Int)(m t:Int):List Ent:=[⟨.lst (c.map .int),.mut⟩,⟨.dct (dk m t),.mut⟩]
def mW:Nat:=1760250341482834261089
noncomputable def D0:PV:=.inst 1147237473 [(7234300945208472691,(.dct [((.str ⟨[103,99].toArray⟩),(.str ⟨[67,110].toArray⟩)),((.str ⟨[99,99,99].toArray⟩),(.int (0))),((.str ⟨[98,99].toArray⟩),(.str ⟨[76].toArray⟩)),((.str ⟨[108,98].toArray⟩),(.str ⟨[88,88].toArray⟩)),((.str ⟨[101,97].toArray⟩),(.str ⟨[78].toArray⟩)),((.str ⟨[115,99].toArray⟩),(.str ⟨[90,122,122,122].toArray⟩)),((.str ⟨[106,116].toArray⟩),(.str ⟨[85].toArray⟩)),((.str ⟨[105,110,99,98].toArray⟩),(.str ⟨[78,111,110,101].toArray⟩)),((.str ⟨[103,99,98].toArray⟩),(.str ⟨[79,116,104,101,114].toArray⟩)),((.str ⟨[119,98].toArray⟩),(.str ⟨[79,116,104,101,114].toArray⟩)),((.str ⟨[115,98].toArray⟩),(.str ⟨[79,116,104,101,114].toArray⟩)),((.str ⟨[101,120].toArray⟩),(.bool false)),((.str ⟨[115,100].toArray⟩),(.bool false)),((.str ⟨[99,97,115,101,100].toArray⟩),(.bool false)),((.str ⟨[99,105].toArray⟩),(.bool false)),((.str ⟨[101,112].toArray⟩),(.bool false)),((.str ⟨[100,105].toArray⟩),(.bool false)),((.str ⟨[105,100,115].toArray⟩),(.bool false)),((.str ⟨[105,100,99].toArray⟩),(.bool false)),((.str ⟨[120,105,100,115].toArray⟩),(.bool false)),((.str ⟨[120,105,100,99].toArray⟩),(.bool false)),((.str ⟨[112,97,116,95,115,121,110].toArray⟩),(.bool false)),((.str ⟨[112,97,116,95,119,115].toArray⟩),(.bool false)),((.str ⟨[105,100,115,116].toArray⟩),(.bool false)),((.str ⟨[100,109].toArray⟩),(.none)),((.str ⟨[117,99].toArray⟩),(.none)),((.str ⟨[108,99].toArray⟩),(.none)),((.str ⟨[116,99].toArray⟩),(.none)),((.str ⟨[99,102].toArray⟩),(.none)),((.str ⟨[98,109].toArray⟩),(.none)),((.str ⟨[98,112,98].toArray⟩),(.none)),((.str ⟨[115,99,120].toArray⟩),(.none)),((.str ⟨[110,116].toArray⟩),(.none)),((.str ⟨[110,118].toArray⟩),(.none)),((.str ⟨[110,97,109,101].toArray⟩),(.none)),((.str ⟨[99,111,110,102].toArray⟩),(.none)),((.str ⟨[110,102,107,99,95,99,102].toArray⟩),(.none)),((.str ⟨[115,117,99].toArray⟩),(.tup [])),((.str ⟨[115,108,99].toArray⟩),(.tup [])),((.str ⟨[115,116,99].toArray⟩),(.tup [])),((.str ⟨[97,108,105,97,115].toArray⟩),(.tup [])),((.str ⟨[105,100,110,97].toArray⟩),(.tup [(.str ⟨[100,105,115,97,108,108,111,119,101,100].toArray⟩),(.tup [])]))])),(1835102323,(.dct [((.str ⟨[99,99,99].toArray⟩),(.inst 5936147174211281264 [(28258988067220596,(.int (0))),(126943688291443,(.lst [(.int (0)),(.int (768)),(.int (769))])),(130160803538291,(.lst [(.int (0)),(.int (230)),(.int (0))]))]))])),(531016004935481008153971,(.dct [])),(512970876019,(.dct []))]
def JS{α:Type}(c:List Int)(x:Option α):Option α:=if(bF 2 (.lst (c.map .int))&&true)&&true then x else none
theorem u0:∀c:List Int,bF 2 (.lst (c.map .int))=true:=by
 intro c;induction c with
|nil=>exact rfl
|cons _ r ih=>exact ih
theorem nM{α:Type}(c:List Int)(x:Option α):JS c x=x:=by unfold JS;rw[u0];rfl
def F4(n:Nat)(c:List Int)(m t:Int):Option (PV×List Ent):=af (n+9) mW [] (gD c m t)
def BZ(n:Nat)(c:List Int)(m t:Int):Option (PV×List Ent):=JS c (some (D0,gD c m t))
noncomputable def sg:List Int:=[97,98,99,65,119,120,121,122,45,95,768,173]
noncomputable def bC(c:Int):Int:=if c=768 then 230 else 0
def J3:Nat:=fI 1147237473 6776180
def Kr(n:Nat)(c:List Int)(m t:Int):List (Option (PV×List Ent)):=sg.map fun x=>af (n+6) J3 [D0,S "ccc",.int x] (gD c m t)
def Gr(n:Nat)(c:List Int)(m t:Int):List (Option (PV×List Ent)):=sg.map fun x=>some (.int (bC x),gD c m t)
theorem AF{α:Type}{f g:Int->α}:∀{l:List Int},l.map f=l.map g->∀x∈l,f x=g x
|y::r,h,x,hx=>by
  injection h with h1 h2
  rcases Xo.mp hx with rfl|hx
  ·exact h1
  ·exact AF h2 x hx
theorem KN(n:Nat)(c m t){x:Int}(h:x∈sg):af (n+6) J3 [D0,S "ccc",.int x] (gD c m t)=some (.int (bC x),gD c m t):=AF (l:=sg) (YI (YI (YI (YI ‹Kr=Gr› n) c) m) t) x h
abbrev Dk:=List Int×Int×Int
def g1(d:Dk):List Ent:=gD d.1 d.2.1 d.2.2
def s0(d:Dk):St:=⟨[],g1 d⟩
def s1(R:List PV)(d:Dk):St:=⟨[⟨.lst R,.mut⟩],g1 d⟩
theorem e9(n k:Nat)(as:List PV)(g:List Ent):af (n+1) k as g=Ag (ac n) k as g:=GG _ _ _ _
theorem Ir{α:Type}{f g:Int->α}(h:sg.map f=sg.map g){x:Int}(hx:x∈sg):f x=g x:=AF h x hx
section
variable{α β:Type}
theorem aB{x:Option α}{v:α}{f:α->Option β}(h:x=some v):x.bind f=f v:=h▸rfl
theorem gM{c:Bool}{x y:α}(h:c=true):(if c=true then x else y)=x:=Yh h
theorem Wr{c:Bool}{x y:α}(h:c=false):(if c=true then x else y)=y:=Yg (by rw[h];decide)
theorem dT{p:Prop}{_:Decidable p}{x y:α}(h:p):(if decide p=true then x else y)=x:=Yh (Yc h)
theorem M2{p:Prop}{_:Decidable p}{x y:α}(h:¬p):(if decide p=true then x else y)=y:=Yg fun e=>h (Ye e)
variable{f:PV->YA->St->Option R3}{t:YA->St->Option (Bool×St)}{b:YA->St->Option R3}{V V' W:YA}{s s':St}
theorem be{x:PV}{r:List PV}(h:f x V s=some (.next,W,s'))(e:aA V W=V'):au f (x::r) V s=au f r V' s':=by subst e;refine(?_:(f x V s).bind _=_);rw[h];rfl
theorem tU{x:PV}{r:List PV}(h:f x V s=some (.cont,W,s'))(e:aA V W=V'):au f (x::r) V s=au f r V' s':=by subst e;refine(?_:(f x V s).bind _=_);rw[h];rfl
theorem mF{x v:PV}{r:List PV}(h:f x V s=some (.ret v,W,s')):au f (x::r) V s=some (.ret v,V,s'):=by refine(?_:(f x V s).bind _=_);rw[h];rfl
theorem cQ{n:Nat}(h:t V s=some (false,s)):aT t b (n+1) V s=some (.next,V,s):=by refine(?_:(t V s).bind _=_);rw[h];rfl
theorem gy{n:Nat}(h:t V s=some (true,s))(hb:b V s=some (.next,W,s'))(e:aA V W=V'):aT t b (n+1) V s=aT t b n V' s':=by subst e;refine(?_:(t V s).bind _=_);rw[h];refine(?_:(b V s).bind _=_);rw[hb];rfl
theorem Bi{n:Nat}(h:t V s=some (true,s))(hb:b V s=some (.brk,W,s'))(e:aA V W=V'):aT t b (n+1) V s=some (.next,V',s'):=by subst e;refine(?_:(t V s).bind _=_);rw[h];refine(?_:(b V s).bind _=_);rw[hb];rfl
end
theorem bV{α β:Type}{f:PV->YA->St->Option R3}{g:α->PV}{V:β->YA}{S:β->St}{step:β->α->β}(I:β->List α->Prop)
  (h:∀b x r,I b (x::r)->I (step b x) r∧∃w,f (g x) (V b) (S b)=some (.next,w,S (step b x))∧aA (V b) w=V (step b x)):
  ∀(l:List α) (b:β),I b l->au f (l.map g) (V b) (S b)=some (.next,V (l.foldl step b),S (l.foldl step b))
|[],_,_=>rfl
|x::r,b,i=>by obtain⟨i',w,e,q⟩:=h b x r i;exact(be e q).trans (bV I h r _ i')
theorem g7{α:Type}{f:PV->List PV->St->Option (List PV×St)}{g o:α->PV}{s:St}{l:List α}:∀{acc:List PV},acc.length+l.length≤1000->(∀x∈l,∀acc,f (g x) acc s=if aq (acc++[o x]) then some (acc++[o x],s) else none)->ar f (l.map g) acc s=some (acc++l.map o,s):=by
 induction l with
|nil=>intro acc _ _;rw[List.map_nil,List.map_nil,Xu];rfl
|cons x r ih=>
  intro acc hz h;let' e:(acc++[o x]).length=acc.length+1:=Xl;have z:(acc++[o x]).length+r.length≤1000:=by rw[e,XD];exact hz
  refine(?_:(f (g x) acc s).bind _=_);rw[h x (.head _) acc,Yh (show aq (acc++[o x])=true from Yc (Xk (Xk (XH _ _) z) (by decide)))];refine(ih z fun y hy=>h y (.tail _ hy)).trans ?_;rw[Xr];rfl
theorem hJ{α:Type}{f:PV->List PV->St->Option (List PV×St)}{g o:α->PV}{p:α->Bool}{s:St}{l:List α}:∀{acc:List PV},acc.length+l.length≤1000->(∀x∈l,∀acc,f (g x) acc s=if p x=true then(if aq (acc++[o x]) then some (acc++[o x],s) else none) else some (acc,s))->ar f (l.map g) acc s=some (acc++(l.filter p).map o,s):=by
 induction l with
|nil=>intro acc _ _;rw[List.map_nil,List.filter_nil,List.map_nil,Xu];rfl
|cons x r ih=>
  intro acc hz h;let' e:(acc++[o x]).length=acc.length+1:=Xl;have z:(acc++[o x]).length+r.length≤1000:=by rw[e,XD];exact hz
  refine(?_:(f (g x) acc s).bind _=_);rw[h x (.head _) acc];cases q:p x with
  |false=>rw[List.filter_cons_of_neg (by rw[q];decide)];exact ih (Xk (XA (Nat.le_succ _) _) hz) fun y hy=>h y (.tail _ hy)
  |true=>rw[List.filter_cons_of_pos q,Yh rfl,Yh (show aq (acc++[o x])=true from Yc (Xk (Xk (XH _ _) z) (by decide)))];refine(ih z fun y hy=>h y (.tail _ hy)).trans ?_;rw[Xr];rfl
theorem dz{α:Type}(l:List α)(i:Nat):cC l (i:Int)=l[i]? :=Yh (Zd i)
theorem bS{α β:Type}{f:α->β}{L p r:List α}{x:α}(e:L=p++x::r):cC (L.map f) (p.length:Int)=some (f x):=by rw[dz,e,XE,List.getElem?_append_right (by rw[Xm];exact Xx _),Xm,Nat.sub_self];rfl
theorem iu{α β:Type}{f:α->β}{L p r:List α}{x:α}(e:L=p++x::r):((p.length:Nat):Int)<((L.map f).length:Nat):=by rw[e,Xm,Xl];exact Yo.mpr (Yi (XT _))
theorem gT{α β:Type}{f:α->β}{L p:List α}(e:L=p):¬((p.length:Nat):Int)<((L.map f).length:Nat):=by rw[e,Xm];exact Int.lt_irrefl _
theorem bE{α:Type}{L p r:List α}{x:α}(e:L=p++x::r):L=(p++[x])++r:=by rw[e,Xr];rfl
theorem yv{α:Type}{l:List α}{x:α}(h:l.length<1000):aq (l++[x])=true:=Yc (by rw[Xl];exact Xk h (by decide))
theorem RN{α:Type}{l r:List α}(h:l.length+r.length≤1000):aq (l++r)=true:=Yc (by rw[Xl];exact Xk h (by decide))
theorem bl{α:Type}{f:α->PV}(h:∀x,aw (f x)=true):∀l:List α,aj (l.map f)=true:=by
 intro l;induction l with
|nil=>exact rfl
|cons x r ih=>exact(Xp _ _).mpr ⟨h x,ih⟩
noncomputable def HT:Stmt->Bool->List Stmt
|.If _ a b _,x=>if x then a else b
|.For _ _ b _ _,_=>b
|.While _ b _ _,_=>b
|.Try b _ _ _ _,_=>b
|z,y=>[]
noncomputable def Dp:List Stmt->List (Nat×Bool)->List Stmt
|b,[]=>b
|b,y::q=>match b[y.1]? with
  |some st=>Dp (HT st y.2) q
  |none=>[]
def LT(sc:Scope)(b:List Stmt):DS:=match oX db sc b with
|some b=>b.t
|none=>Ĭ
def Qs(sc:Scope)(st:Stmt):DS:=match cS db sc st with
|some c=>iS c.m
|none=>Ĭ
def dN(k:Nat)(q:List (Nat×Bool))(i:Nat):Scope×List Stmt:=match oF k with
|some d=>(d.sc,(Dp d.b q).drop i)
|none=>(default,[])
def run(k:Nat)(q:List (Nat×Bool))(i:Nat):DS:=LT (dN k q i).1 (dN k q i).2
def ah(k:Nat)(q:List (Nat×Bool))(i:Nat):DS:=match(dN k q i).2 with
|st::_=>Qs (dN k q i).1 st
|[]=>Ĭ
def KH(sc:Scope)(u:Expr):DT:=match(cA db u sc).t with
|some t=>iS t.m
|none=>fun z z z=>none
def T0:Stmt->Scope->DT
|.If t _ _ _,sc=>KH sc t
|y,x=>fun z z z=>none
def bn(k:Nat)(q:List (Nat×Bool))(i:Nat):DT:=match(dN k q i).2 with
|st::_=>T0 st (dN k q i).1
|[]=>fun z z z=>none
def aN(k:Nat)(q:List (Nat×Bool))(i:Nat):Bool:=match(dN k q i).2 with
|st::r=>(oX db (dN k q i).1 (st::r)).isSome
|[]=>false
noncomputable def MG:Stmt->Bool
|.If _ _ _ _=>true
|z=>false
def kK(k:Nat)(q:List (Nat×Bool))(i:Nat):Bool:=match(dN k q i).2 with
|st::_=>MG st&&(cS db (dN k q i).1 st).isSome
|[]=>false
theorem Jo(sc:Scope)(u:Expr)(a b:List Stmt)(r:Pos):cS db sc (.If u a b r)=(cA db u sc).t.bind fun t=>(oX db sc a).bind fun b'=>(oX db sc b).bind fun o=>some (⟨R8 t.d (m8 b'.d) (m8 o.d),Dv t.m (fZ b'.m) (fZ o.m),fun X O e=>Bj (t.se X O e) (b'.se X O e) (o.se X O e),xY t.nt (fC b'.nt) (fC o.nt)⟩:Ux db sc (.If u a b r)):=rfl
theorem I8(sc:Scope)(m:Stmt)(r:List Stmt):oX db sc (m::r)=(cS db sc m).bind fun d=>(oX db sc r).bind fun ds=>some ⟨d.d::ds.d,d.m::ds.m,fun X O e=>si (d.se X O e) (ds.se X O e),.cons d.nt ds.nt⟩:=rfl
theorem Ff(i:Nat)(x:Bool)(q:List (Nat×Bool)):∀(b:List Stmt),Dp b (q++[(i,x)])=match(Dp b q)[i]? with|some st=>HT st x|none=>[]:=by
 induction q with
|nil=>intro b;show(match b[i]? with|some st=>Dp (HT st x) []|none=>[])=(match b[i]? with|some st=>HT st x|none=>[]);cases b[i]? <;>rfl
|cons y q ih=>
  intro b;refine(?_:(match b[y.1]? with|some st=>Dp (HT st y.2) (q++[(i,x)])|none=>[])=(match(match b[y.1]? with|some st=>Dp (HT st y.2) q|none=>([]:List Stmt))[i]? with|some st=>HT st x|none=>[]));cases b[y.1]? with
  |none=>rfl
  |some st=>exact ih _
theorem FU:∀{st:Stmt},MG st=true->∃u a b p,st=.If u a b p:=fun{st} h=>by
 cases st with
|If u a b p=>exact⟨u,a,b,p,rfl⟩
|_=>injection h
section
variable{k i:Nat}{q:List (Nat×Bool)}{C:Zn}{vs ZL:YA}{s s':St}{x:Bool}
theorem PM{sc:Scope}{u:Expr}{a b:List Stmt}{p:Pos}(ok:(cS db sc (.If u a b p)).isSome=true)(h:KH sc u C vs s=some (x,s')):Qs sc (.If u a b p) C vs s=LT sc (if x then a else b) C vs s':=by
 delta KH at h;delta Qs LT;rw[Jo] at ok ⊢;cases e1:(cA db u sc).t with
|none=>rw[e1] at ok;injection ok
|some t'=>
  rw[e1] at h ok;cases e2:oX db sc a with
  |none=>rw[e2] at ok;injection ok
  |some a'=>
   rw[e2] at ok;cases e3:oX db sc b with
   |none=>rw[e3] at ok;injection ok
   |some b'=>
    refine((t'.nt.Zy _ C vs s fun x=>if x.1 then fZ a'.m _ C vs x.2 some else fZ b'.m _ C vs x.2 some).trans (YH (Option.bind · _) h)).trans ?_;cases x with
    |true=>rw[Yh rfl,e2];rfl
    |false=>rw[Yg (by decide),e3];rfl
theorem bg(ok:kK k q i=true)(h:bn k q i C vs s=some (x,s')):ah k q i C vs s=run k (q++[(i,x)]) 0 C vs s':=by
 have e:(dN k (q++[(i,x)]) 0).1=(dN k q i).1∧∀st r,(dN k q i).2=st::r->(dN k (q++[(i,x)]) 0).2=HT st x:=by
  delta dN;cases oF k with
  |none=>exact⟨rfl,fun st r h=>nomatch h⟩
  |some d=>refine⟨rfl,fun st r h=>?_⟩;let' h:(Dp d.b q).drop i=st::r:=h;refine(?_:Dp d.b (q++[(i,x)])=_);rw[Ff,<-List.head?_drop,h];rfl
 delta kK at ok;delta bn at h;delta ah run;rw[e.1];cases w:(dN k q i).2 with
|nil=>rw[w] at ok;injection ok
|cons st r=>rw[e.2 st r w];rw[w] at ok h;let' Ū:=ok;obtain⟨u,a,b,p,rfl⟩:=FU ((Xp _ _).mp Ū).1;exact PM (p:=p) ((Xp _ _).mp Ū).2 h
theorem nT(ok:aN k q i=true):run k q i C vs s=(ah k q i C vs s).bind fun y=>match y.1 with|.next=>run k q (i+1) C y.2.1 y.2.2|_=>some y:=by
 have e:(dN k q (i+1)).1=(dN k q i).1∧∀st r,(dN k q i).2=st::r->(dN k q (i+1)).2=r:=by
  delta dN;cases oF k with
  |none=>exact⟨rfl,fun st r h=>nomatch h⟩
  |some d=>refine⟨rfl,fun st r h=>?_⟩;let' h:(Dp d.b q).drop i=st::r:=h;refine(?_:(Dp d.b q).drop (i+1)=_);rw[<-List.drop_drop,h];rfl
 delta aN at ok;delta ah run;rw[e.1];cases w:(dN k q i).2 with
|nil=>rw[w] at ok;injection ok
|cons st r=>
  rw[e.2 st r w];rw[w] at ok;dsimp only at ok ⊢;delta LT Qs;rw[I8] at ok ⊢;cases e1:cS db (dN k q i).1 st with
  |none=>rw[e1] at ok;injection ok
  |some d=>
   rw[e1] at ok;cases e2:oX db (dN k q i).1 r with
   |none=>rw[e2] at ok;injection ok
   |some ds=>refine(d.nt.Zy _ C vs s _).trans (YH _ (funext fun y=>?_));obtain⟨f,w,s1⟩:=y;cases f<;>rfl
theorem aa(ok:aN k q i=true)(h:ah k q i C vs s=some (.next,ZL,s')):run k q i C vs s=run k q (i+1) C ZL s':=(nT ok).trans (YH (Option.bind · _) h)
theorem dG{v:PV}(ok:aN k q i=true)(h:ah k q i C vs s=some (.ret v,ZL,s')):run k q i C vs s=some (.ret v,ZL,s'):=(nT ok).trans (YH (Option.bind · _) h)
theorem qU(ok:aN k q i=true)(h:ah k q i C vs s=some (.brk,ZL,s')):run k q i C vs s=some (.brk,ZL,s'):=(nT ok).trans (YH (Option.bind · _) h)
theorem bk{vs2:YA}{s2:St}(ok:aN k q i=true)(oi:kK k q i=true)(h:bn k q i C vs s=some (x,s'))(h2:run k (q++[(i,x)]) 0 C vs s'=some (.next,vs2,s2)):run k q i C vs s=run k q (i+1) C vs2 s2:=aa ok ((bg oi h).trans h2)
end
theorem p9{α:Type}{β:Type 1}{x:Option α}{f:α->Option β}{b:β}(h:x.bind f=some b):∃a,x=some a∧f a=some b:=by cases x with|none=>injection h|some a=>exact⟨a,rfl,h⟩
theorem yK{α β:Type 1}{x:Option α}{f:α->Option β}{b:β}(h:x.bind f=some b):∃a,x=some a∧f a=some b:=by cases x with|none=>injection h|some a=>exact⟨a,rfl,h⟩
noncomputable def tZ(k:Nat):Nat->List (Nat×FD)->Bool
|0,_=>true
|i+1,l=>match l with
  |[]=>true
  |x::r=>!Nat.beq x.1 k&&tZ k i r
theorem G9(i:Nat){k:Nat}{d:FD}:∀{l:List (Nat×FD)},l[i]?=some (k,d)->tZ k i l=true->qB l k=some d:=by
 induction i with
|zero=>
  intro l h _;cases l with
  |nil=>injection h
  |cons x r=>obtain rfl:=Xn h;exact Yh rfl
|succ i ih=>
  intro l h e;cases l with
  |nil=>injection h
  |cons x r=>obtain⟨e1,e2⟩:=(Xp _ _).mp (e:(!Nat.beq x.1 k&&tZ k i r)=true);exact(Yg (fun q=>by rw[q,Nat.beq_refl] at e1;injection e1:x.1≠k)).trans (ih h e2)
def AQ(i k:Nat):Bool:= !Nat.beq k Í&& !gq k&&(match(fh prog.main.body)[i]? with
|some x=>Nat.beq x.1 k&&tZ k i (fh prog.main.body)&&(nV db x.2.a x.2.b x.2.sc).isSome
|none=>false)
def i5(i k:Nat):Bool:=AQ i k&& !d8.contains k
def bf(i:Nat)(args:List PV):Option YA:=match oF i with
|some d=>(match nV db d.a d.b d.sc with
  |some f=>eA f.ps args f.ds
  |none=>none)
|none=>none
theorem xU{n i k:Nat}{args:List PV}{g:List Ent}{vs ZL:YA}{s':St}{y:Fl}{v:PV}(ok:AQ i k=true)(hb:bf i args=some vs)(h:run i [] 0 (ac n) vs ⟨[],g⟩=some (y,ZL,s'))(hv:mU y=some v)(hg:di g s'.g=true):af (n+1) k args g=if d8.contains k then eU g (some (v,s'.g)) else some (v,s'.g):=by
 rw[e9];delta Ag;obtain⟨ok,o4⟩:=(Xp _ _).mp ok;obtain⟨o1,o2⟩:=(Xp _ _).mp ok;rw[Yg fun e=>by rw[e] at o1;exact absurd o1 (by decide),Yg fun e=>by rw[e] at o2;exact absurd o2 (by decide)];delta bf at hb;delta run dN at h;delta oF at hb h;delta OY;cases e:(fh prog.main.body)[i]? with
|none=>rw[e] at o4;injection o4
|some x=>
  rw[e] at o4 hb h;obtain⟨o4,o6⟩:=(Xp _ _).mp (o4:(Nat.beq x.1 k&&tZ k i (fh prog.main.body)&&(nV db x.2.a x.2.b x.2.sc).isSome)=true);obtain⟨o4,o5⟩:=(Xp _ _).mp o4;obtain⟨x1,d⟩:=x;obtain rfl:x1=k:=Nat.eq_of_beq_eq_true o4;rw[G9 i e o5];refine(?_:(nV db d.a d.b d.sc).bind _=_);let' hb:(match nV db d.a d.b d.sc with|some f=>eA f.ps args f.ds|none=>none)=some vs:=hb;let' h:LT d.sc d.b (ac n) vs ⟨[],g⟩=some (y,ZL,s'):=h;delta LT at h;cases e1:nV db d.a d.b d.sc with
  |none=>rw[e1] at o6;injection o6
  |some f=>
   rw[e1] at hb;obtain⟨ps,_,e1⟩:=p9 e1;obtain⟨ds,_,e1⟩:=p9 e1;obtain⟨b,e2,e1⟩:=yK e1;rw[e2] at h;cases e3:(decide ps.Nodup&&d.a.args.all fun x=>fO d.sc x.arg) with
   |false=>rw[e3] at e1;injection e1
   |true=>
    rw[e3] at e1;obtain rfl:=Xn e1;have e:wk (ac n) ⟨ps,ds,fZ b.m,(fC b.nt).Zy⟩ args g=some (v,s'.g):=by delta wk;rw[show eA ps args ds=some vs from hb];refine((fC b.nt).Zy _ (ac n) vs ⟨[],g⟩ _).trans ?_;rw[show iS (fZ b.m) (ac n) vs ⟨[],g⟩=_ from h];refine(?_:(if di g s'.g=true then(mU y).bind fun v=>some (v,s'.g) else none)=_);rw[Yh hg,hv];rfl
    refine(?_:(if d8.contains x1=true then eU g (wk (ac n) ⟨ps,ds,fZ b.m,(fC b.nt).Zy⟩ args g) else wk (ac n) ⟨ps,ds,fZ b.m,(fC b.nt).Zy⟩ args g)=_);rw[e]
theorem ao{n i k:Nat}{args:List PV}{g:List Ent}{vs ZL:YA}{s':St}{y:Fl}{v:PV}(ok:i5 i k=true)(hb:bf i args=some vs)(h:run i [] 0 (ac n) vs ⟨[],g⟩=some (y,ZL,s'))(hv:mU y=some v)(hg:di g s'.g=true):af (n+1) k args g=some (v,s'.g):=by obtain⟨ok,o3⟩:=(Xp _ _).mp ok;exact(xU ok hb h hv hg).trans (Yg fun e=>by rw[e] at o3;exact absurd o3 (by decide))
theorem qZ{n i k:Nat}{args:List PV}{g:List Ent}{vs ZL:YA}{s':St}{y:Fl}{v:PV}(ok:(AQ i k&&d8.contains k)=true)(hb:bf i args=some vs)(h:run i [] 0 (ac n) vs ⟨[],g⟩=some (y,ZL,s'))(hv:mU y=some v)(hg:di g s'.g=true):af (n+1) k args g=eU g (some (v,s'.g)):=
 (xU ((Xp _ _).mp ok).1 hb h hv hg).trans (Yh ((Xp _ _).mp ok).2)
abbrev Pl:=Int×Nat
noncomputable def en:List Int->Nat->List Pl
|[],_=>[]
|x::r,i=>(x,i)::en r (i+1)
noncomputable def e2(y:Pl):PV:=.tup [.int y.1,.int y.2]
def ν(y:Pl):PV:=.tup [.int y.2,.int y.1]
def e3(y:Pl):PV:=.tup [.int y.1,.int y.2,.int (bC y.1)]
theorem ym(l:List Int):∀(i:Nat),fN i (l.map .int)=(en l i).map ν:=by
 induction l with
|nil=>intro _;exact rfl
|cons x r ih=>intro i;exact YH (_:: ·) (ih (i+1))
theorem bX(l:List Int):∀(i:Nat),(en l i).length=l.length:=by
 induction l with
|nil=>intro _;exact rfl
|cons _ r ih=>intro i;exact YH (·+1) (ih (i+1))
theorem rD{P:Int->Prop}:∀(l:List Int) (i:Nat),(∀x∈l,P x)->∀y∈en l i,P y.1
|x::r,i,h,y,hy=>(Xo.mp hy).elim (fun e=>e▸h x (.head _)) fun k=>rD r (i+1) (fun x hx=>h x (.tail _ hx)) y k
theorem Ci{α:Type}(l:List α):∀(a:List α),l.foldl (fun b x=>b++[x]) a=a++l:=by
 induction l with
|nil=>intro a;exact(Xu a).symm
|cons x r ih=>intro a;exact(ih (a++[x])).trans (Xr ..)
theorem b9{o:Option (List PV×St)}{l:List PV}{s:St}{u:Option PV}(h:o=some (l,s)):((o.bind fun y=>some (y.1,aO y.2 u)).bind fun y=>some (PV.lst y.1,y.2))=some (PV.lst l,aO s u):=by rw[h];rfl
def Sd:Nat:=516297326642207931693198849135043940
def ml:Nat:=98
def wP(T:List PV):YA:=[(1952807028,.lst T),(1684108385,D0),(1919907699,.loc 0)]
def C3(T:List PV)(i:Nat)(x:Int):YA:=wP T++[(482854658917,.int i),(1668244581,.int x)]
def uT(T:List PV)(i:Nat)(x r:Int)(a:Nat):YA:=C3 T i x++[(1885434484,.int x),(1918987883,.int r),(24948,.int a)]
section
variable(n:Nat)(T R:List PV)(i a:Nat)(x r:Int)(d:Dk)
theorem RF:ah ml [] 0 (ac n) [(1952807028,.lst T),(1684108385,D0)] (s0 d)=some (.next,wP T,s1 [] d):=by rfl'
end
theorem FQ(x:Int):bC x≤230:=by unfold bC;split<;>decide
theorem r8(y:Int):bC y=0∨bC y=230:=by unfold bC;split;exact .inr rfl;exact .inl rfl
section
variable{n:Nat}{T:List PV}{d:Dk}
theorem Ez(D:List Pl)(i:Nat)(x:Int):aI ml [1,0,2] (ac n) (uT T i x (bC x) (D.map e3).length) (s1 (D.map e3) d)=some (false,s1 (D.map e3) d):=by
 refine‹aI ml [1,0,2] (ac n) (uT T i x (bC x) (D.map e3).length) (s1 (D.map e3) d)=if decide ((bC x)>0)=true then(if decide (((D.map e3).length:Int)>0)=true then(cC (D.map e3) ((D.map e3).length-1:Int)).bind fun y=>(item (s1 (D.map e3) d) y (.int 2)).bind fun y=>(aM (s1 (D.map e3) d) .Gt y (.int (bC x))).bind fun y=>if y=true then some (true,s1 (D.map e3) d) else some (false,s1 (D.map e3) d) else some (false,s1 (D.map e3) d)) else some (false,s1 (D.map e3) d)›.trans ?_;rcases r8 x with e|e
 ·rw[e];rfl
 ·refine(dT (by rw[e];decide)).trans ?_;rcases List.eq_nil_or_concat D with rfl|⟨q,z,rfl⟩
  ·rfl
  ·have e1:cC ((q++[z]).map e3) ((((q++[z]).map e3).length:Int)-1)=some (e3 z):=by
    have k:((((q++[z]).map e3).length:Nat):Int)-1=(q.length:Nat):=by rw[Xm,Xl];exact Int.add_sub_cancel (q.length:Int) 1
    exact(k)▸bS rfl
   rw[List.concat_eq_append,e1];split
   ·refine(?_:(if decide (bC z.1>bC x)=true then _ else _)=_);exact M2 ((e)▸(YC.mpr (FQ z.1)))
   ·rfl
theorem E9(D:List Pl)(y:Pl)(hy:y.1∈sg)(hz:D.length<1000):∃w,ai ml [1] (ac (n+12)) (ν y) (wP T) (s1 (D.map e3) d)=some (.next,w,s1 ((D++[y]).map e3) d)∧aA (wP T) w=wP T:=by
 have e5:oG ml [1,0,2] (ac (n+12)) (.next,uT T y.2 y.1 (bC y.1) (D.map e3).length,s1 (D.map e3) d)=some (.next,uT T y.2 y.1 (bC y.1) (D.map e3).length,s1 ((D++[y]).map e3) d):=by
  refine‹oG ml [1,0,2] (ac (n+12)) (.next,uT T y.2 y.1 (bC y.1) (D.map e3).length,s1 (D.map e3) d)=(if(decide (0≤((D.map e3).length:Int)∧((D.map e3).length:Int)≤(D.map e3).length)&&aq (PV.tup [.int y.1,.int y.2,.int (bC y.1)]::(D.map e3))&&true)=true then some (PV.none,s1 (List.take (D.map e3).length (D.map e3)++PV.tup [.int y.1,.int y.2,.int (bC y.1)]::List.drop (D.map e3).length (D.map e3)) d) else none).bind fun y9=>some (Fl.next,uT T y.2 y.1 (bC y.1) (D.map e3).length,y9.2)›.trans ?_;rw[List.take_length,List.drop_length,Yc ⟨Zd _,Int.le_refl _⟩,show aq (PV.tup [.int y.1,.int y.2,.int (bC y.1)]::D.map e3)=true from Yc (by rw[XG,Xm];exact Xk hz (by decide)),XE]
  rfl
 exact⟨C3 T y.2 y.1,(Ir ‹(sg.map fun x=>ai ml [1] (ac (n+12)) (.tup [.int y.2,.int x]) (wP T) (s1 (D.map _) d))=sg.map fun x=>(au (ai ml [1,0] (ac (n+12))) [.int x] (C3 T y.2 x) (s1 (D.map _) d)).bind (oG ml [1,0] (ac (n+12)))› hy).trans ((aB (be (V':=C3 T y.2 y.1) ((Ir ‹(sg.map fun x=>ai ml [1,0] (ac (n+12)) (.int x) (C3 T y.2 x) (s1 (D.map e3) d))=sg.map fun x=>(aT (aI ml [1,0,2] (ac (n+12))) (aD ml [1,0,2] (ac (n+12))) aS (uT T y.2 x (bC x) (D.map e3).length) (s1 (D.map e3) d)).bind (oG ml [1,0,2] (ac (n+12)))› hy).trans ((aB (cQ (n:=99999) (Ez D y.2 y.1))).trans e5)) rfl)).trans ‹oG ml [1,0] (ac _) (.next,_,_)=some (.next,_,_)›),rfl⟩
theorem j7{s:St}{l:List PV}(h:aj l=true):fi s (.lst l)=some (.lst l,s):=Yh h
theorem NY{l:List Int}(hl:∀x∈l,x∈sg)(hz:l.length≤1000):af (n+13) Sd [.lst (l.map .int),D0] (g1 d)=some (.lst ((en l 0).map e2),g1 d):=by
 have f:=bV (f:=ai ml [1] (ac (n+12))) (g:=ν) (V:=fun _:List Pl=>wP (l.map .int)) (S:=fun b=>s1 (b.map e3) d) (step:=fun b x=>b++[x]) (fun b r=>b.length+r.length≤1000∧∀y∈r,y.1∈sg)
  (fun b x r h=>⟨⟨by rw[Xl,XS,XZ [x].length];exact h.1,fun y hy=>h.2 y (.tail _ hy)⟩,E9 b x (h.2 x (.head _)) (XI (Yi (XT _)) h.1)⟩)
  (en l 0) [] ⟨by rw[bX];exact Xk (XY (Xz _)) hz,rD l 0 hl⟩
 rw[Ci] at f;let' h1:=‹ah ml [] 1 (ac (n+12)) (wP (l.map .int)) (s1 [] d)=(au (ai ml [1] (ac (n+12))) (fN 0 (l.map .int)) (wP (l.map .int)) (s1 [] d)).bind fun z=>some (z.1,z.2.1,aO z.2.2 none)›.trans (aB (by rw[ym];exact f));let' h2:=‹run ml [] 2 (ac (n+12)) (wP (l.map .int)) (s1 ((en l 0).map e3) d)=(((ar (aH ml [2] [] (ac (n+12)) (wP (l.map .int))) ((en l 0).map e3) [] ⟨[⟨.lst ((en l 0).map e3),.Zw⟩],g1 d⟩).bind fun y=>some (y.1,aO y.2 (some (.loc 0)))).bind fun y=>some (PV.lst y.1,y.2)).bind fun y=>(fi y.2 y.1).bind fun y=>some (.ret y.1,wP (l.map .int),y.2)›.trans ((aB (b9 (g7 (f:=aH ml [2] [] (ac (n+12)) (wP (l.map .int))) (g:=e3) (o:=e2) (s:=⟨[⟨.lst ((en l 0).map e3),.Zw⟩],g1 d⟩) (l:=en l 0) (acc:=[]) (by rw[bX];exact Xk (XY (Xz _)) hz) fun y w acc=>‹aH ml [2] [] (ac (n+12)) (wP (l.map .int)) (e3 y) acc _=if aq (acc++[e2 y])=true then some (acc++[e2 y],_) else none›))).trans (aB (j7 (bl (fun w=>rfl) (en l 0)))))
 exact ao ‹i5 ml Sd=true› ‹bf ml [.lst _,D0]=some [(1952807028,.lst _),(1684108385,D0)]› ((aa ‹aN ml [] 0=true› (RF ..)).trans ((aa ‹aN ml [] 1=true› h1).trans h2)) rfl (ak _)
end
def LO:Nat:=1834256574690036905573
def Bv:Nat:=97
def DY(G:List PV)(a:Nat):YA:=[(1735356005,.lst G),(24948,.int a),(1836020596,.int 1),(439956631140,.loc 0)]
theorem Mp(n:Nat){G:List PV}{a:Nat}(d:Dk)(h:cC G a=some (.bool false))(hl:(a:Int)<G.length):af (n+1) LO [.lst G,.int a,.int 1] (g1 d)=some (.lst [.int a],g1 d):=by
 exact ao ‹i5 Bv LO=true› ‹bf Bv [.lst G,.int a,.int 1]=some [(1735356005,.lst G),(24948,.int a),(1836020596,.int 1)]› ((aa ‹aN Bv [] 0=true› ‹ah Bv [] 0 (ac n) [(1735356005,.lst G),(24948,.int a),(1836020596,.int 1)] (s0 d)=some (.next,DY G a,s1 [] d)›).trans ((aa ‹aN Bv [] 1=true› (‹ah Bv [] 1 (ac n) (DY G a) (s1 [] d)=(aT (aI Bv [1] (ac n)) (aD Bv [1] (ac n)) aS (DY G a) (s1 [] d)).bind some›.trans (aB ((gy (n:=99999) (V':=DY G (a+1)) (‹_=(if decide ((a:Int)<G.length)=true then some (true,s1 [] d) else some (false,s1 [] d))›.trans (dT hl)) (‹aD Bv [1] (ac n) (DY G a) (s1 [] d)=(cC G a).bind fun y=>(cX y).bind fun b=>if(!b)=true then some (.next,DY G (a+1),s1 [.int a] d) else some (.next,DY G (a+1),s1 [] d)›.trans (aB h)) rfl).trans (cQ (n:=99998) (‹aI Bv [1] (ac n) (DY G (a+1)) (s1 [.int a] d)=(if decide (((a+1):Int)<G.length)=true then some (false,s1 [.int a] d) else some (false,s1 [.int a] d))›.trans (ite_self _))))))).trans ‹run Bv [] 2 (ac n) (DY G (a+1)) (s1 [.int a] d)=some (.ret (.lst [.int a]),DY G (a+1),⟨[⟨.lst [.int a],.ZG⟩],g1 d⟩)›)) rfl (ak _)
noncomputable def UU(o:Option (PV×St)):Option (PV×St):=(((o.bind fun y=>some ([y.1],y.2)).bind fun y=>some (y.1,y.2)).bind fun y=>some (y.1,y.2)).bind fun y=>some (PV.lst y.1,y.2)
def Ro(o:Option PV)(s:St):Option (PV×St):=UU (o.bind fun y=>some (y,s))
noncomputable def TV(t l:List (PV×PV))(f bs:PV):PV:=.inst 5002484806629356659 [(499850046565,.dct t),(30521817456538484,.dct l),(28817527407604339,f),(422541747571,bs)]
def TD:Nat:=(fI 5002484806629356659 563906907648456651860851)
def iP:Nat:=94
section
variable(n:Nat)(t l:List (PV×PV))(f bs:PV)(cs G:List PV)(a b:Nat)(x st:Int)(d:Dk)
def vM:YA:=[(1936026726,TV t l f bs),(427070612851,.lst cs),(123610792682867,.lst [.int a]),(1735356005,.lst G),(1684108385,D0)]
def vW:YA:=vM t l f bs cs G a++[(7038329,.tup [.int x]),(24948,.int b),(495873784179,.int st)]
def vR(r:PV):YA:=vW t l f bs cs G a b x st++[(1918987883,r)]
theorem VI:ah iP [] 0 (ac n) (vM t l f bs cs G a) (s0 d)=(Ro (cC cs a) (s0 d)).bind fun y=>((cN y.2 y.1).bind fun l=>some (PV.tup l,y.2)).bind fun y=>some (.next,vM t l f bs cs G a++[(7038329,y.1)],y.2):=by rfl'
theorem W0:ah iP [] 1 (ac n) (vM t l f bs cs G a++[(7038329,.tup [.int x])]) (s0 d)=some (.next,vW t l f bs cs G a (a+1) x 0,s0 d):=by rfl'
theorem Xi:ah iP [] 2 (ac n) (vW t l f bs cs G a b x st) (s0 d)=(aT (aI iP [2] (ac n)) (aD iP [2] (ac n)) aS (vW t l f bs cs G a b x st) (s0 d)).bind some:=by rfl'
theorem Vv:run iP [] 3 (ac n) (vW t l f bs cs G a b x st) (s0 d)=some (.ret (.tup [.int x]),vW t l f bs cs G a b x st,s0 d):=by rfl'
theorem Uw:aI iP [2] (ac n) (vW t l f bs cs G a b x st) (s0 d)=some (decide ((b:Int)<cs.length),s0 d):=by rfl'
theorem Wc:ah iP [(2,true)] 1 (ac n) (vR t l f bs cs G a b x st (.int 230)) (s0 d)=some (.next,vR t l f bs cs G a b x st (.int 230),s0 d):=by rfl'
theorem RZ:bn iP [(2,true)] 2 (ac n) (vR t l f bs cs G a b x 0 (.int 230)) (s0 d)=(cC G b).bind fun u=>(cX u).bind fun c=>if(!c)=true then some (true,s0 d) else some (false,s0 d):=by rfl'
theorem SD:run iP [(2,true)] 2 (ac n) (vR t l f bs cs G a b x 230 (.int 230)) (s0 d)=(cC G b).bind fun u=>(cX u).bind fun c=>if(!c)=true then some (.next,vR t l f bs cs G a (b+1) x 230 (.int 230),s0 d) else some (.next,vR t l f bs cs G a (b+1) x 230 (.int 230),s0 d):=by rfl'
theorem Ta:bn iP [(2,true),(2,true)] 0 (ac n) (vR t l f bs cs G a b x 0 (.int 230)) (s0 d)=(cC cs b).bind fun y=>(if cY (.tup [.int x,y])=true then(aC t (.tup [.int x,y])).bind fun r=>some r.isSome else none).bind fun c=>some (c,s0 d):=by rfl'
theorem Tv:run iP [(2,true),(2,true),(0,false)] 0 (ac n) (vR t l f bs cs G a b x 0 (.int 230)) (s0 d)=some (.next,vR t l f bs cs G a b x 230 (.int 230),s0 d):=by rfl'
theorem Sy:run iP [(2,true)] 3 (ac n) (vR t l f bs cs G a b x st (.int 230)) (s0 d)=some (.next,vR t l f bs cs G a (b+1) x st (.int 230),s0 d):=by rfl'
theorem SN:run iP [(2,true),(2,true)] 1 (ac n) (vR t l f bs cs G a b x st (.int 230)) (s0 d)=some (.next,vR t l f bs cs G a b x st (.int 230),s0 d):=by rfl'
variable{n t l f bs cs G a b x st d}
theorem Bm{y:Int}(hy:y∈sg)(hc:cC cs b=some (.int y)):ah iP [(2,true)] 0 (ac (n+6)) (vW t l f bs cs G a b x st) (s0 d)=some (.next,vR t l f bs cs G a b x st (.int (bC y)),s0 d):=
 ‹ah iP [(2,true)] 0 (ac (n+6)) (vW t l f bs cs G a b x st) (s0 d)=(cC cs b).bind fun y=>(jJ (s0 d) [D0,S "ccc",y]).bind fun o=>(af (n+6) J3 o.1 o.2.g).bind fun r=>some (.next,vR t l f bs cs G a b x st r.1,{o.2 with g:=r.2})›.trans ((aB hc).trans ((aB (v:=([D0,S "ccc",.int y],s0 d)) rfl).trans (aB (KN n d.1 d.2.1 d.2.2 hy))))
theorem Rg:aN iP [(2,true)] 2=true:=by rfl'
theorem SF:kK iP [(2,true)] 2=true:=by rfl'
theorem SL:aN iP [(2,true),(2,true)] 0=true:=by rfl'
theorem Sw:kK iP [(2,true),(2,true)] 0=true:=by rfl'
theorem EH{y:Int}(hy:y∈sg)(hc:cC cs b=some (.int y))(hG:cC G b=some (.bool false))(ht:∀x y:Int,aC t (.tup [.int x,.int y])=some none)(hs:st=0∨st=230):
  aD iP [2] (ac (n+6)) (vW t l f bs cs G a b x st) (s0 d)=some (.brk,vR t l f bs cs G a b x st (.int 0),s0 d)∨aD iP [2] (ac (n+6)) (vW t l f bs cs G a b x st) (s0 d)=some (.next,vR t l f bs cs G a (b+1) x 230 (.int 230),s0 d):=by
 rw[‹aD iP [2]=run iP [(2,true)] 0›,aa ‹aN iP [(2,true)] 0=true› (Bm hy hc)];rcases r8 y with e|e
 ·rw[e];exact .inl ‹run iP [(2,true)] 1 (ac _) (vR _ _ _ _ _ _ _ _ _ _ (.int 0)) (s0 _)=some (.brk,vR _ _ _ _ _ _ _ _ _ _ (.int 0),s0 _)›
 ·rw[e,aa ‹aN iP [(2,true)] 1=true› (Wc ..)];refine .inr ?_;rcases hs with rfl|rfl
  ·exact(bk Rg SF ((RZ ..).trans (aB hG)) ((bk SL Sw ((Ta ..).trans (aB hc |>.trans (aB (aB (ht x y))))) (Tv ..)).trans (SN ..))).trans (Sy ..)
  ·exact(SD ..).trans (aB hG)
theorem EB(L:List Int)(hs:∀y∈L,y∈sg)(e:cs=L.map .int)(hG:∀i,i<L.length->cC G (i:Nat)=some (.bool false))(ht:∀x y:Int,aC t (.tup [.int x,.int y])=some none)(r:List Int):∀(p:List Int) (st:Int) (k:Nat),L=p++r->r.length<k->(st=0∨st=230)->
  ∃b st',aT (aI iP [2] (ac (n+6))) (aD iP [2] (ac (n+6))) k (vW t l f bs cs G a p.length x st) (s0 d)=some (.next,vW t l f bs cs G a b x st',s0 d):=by
 induction r with
|nil=>intro p st k h Ò _;obtain⟨k,rfl⟩:=dS Ò;exact⟨_,_,cQ ((Uw ..).trans (by rw[e,Yd (gT (h.trans (Xu p)))]))⟩
|cons y r ih=>
  intro p st k h hk Ā;obtain⟨k,rfl⟩:=dS hk;have t1:=(Uw (n+6) t l f bs cs G a p.length x st d).trans (by rw[e,Yc (iu h)]);rcases EH (hs y (h▸YF _ (.head _))) (e▸bS h) (hG p.length (by rw[h,Xl];exact Yi (XT _))) ht Ā with q|q
  ·exact⟨_,_,Bi t1 q rfl⟩
  ·obtain⟨b',st',u⟩:=ih (p++[y]) 230 k (bE h) (Yv hk) (.inr rfl);rw[Xl] at u;exact⟨b',st',(gy (V':=vW t l f bs cs G a (p.length+1) x 230) t1 q rfl).trans u⟩
theorem Q8:aN iP [] 1=true:=by rfl'
theorem TY:aN iP [] 2=true:=by rfl'
theorem Mx{L p r:List Int}(hL:L=p++x::r)(hz:L.length≤1000)(hs:∀y∈L,y∈sg)(hG:∀i,i<L.length->cC G (i:Nat)=some (.bool false))(ht:∀x y:Int,aC t (.tup [.int x,.int y])=some none):
  af (n+7) TD [TV t l f bs,.lst (L.map .int),.lst [.int p.length],.lst G,D0] (g1 d)=some (.tup [.int x],g1 d):=by
 obtain⟨b,st,u⟩:=EB (l:=l) (f:=f) (bs:=bs) (a:=p.length) (x:=x) (d:=d) L hs rfl hG ht r (p++[x]) 0 aS (bE hL) (XQ (Xk (by rw[hL,Xl];exact Xk (Nat.le_succ _) (YK _ _)) hz) (by decide)) (.inl rfl);rw[Xl] at u;refine ao ‹i5 iP TD=true› ‹bf iP [TV _ _ _ _,.lst _,.lst [.int _],.lst _,D0]=some (vM _ _ _ _ _ _ _)› ((aa ‹aN iP [] 0=true› ((VI ..).trans (aB (v:=(PV.lst [.int x],s0 d)) (by rw[bS hL];rfl)))).trans ((aa Q8 (W0 ..)).trans ((aa TY ((Xi ..).trans (aB u))).trans (Vv ..)))) rfl (ak _)
end
abbrev El:=Nat×Nat×Nat×Bool
noncomputable def eE(x:El):PV:=.tup [.int x.1,.int x.2.1,.int x.2.2.1,.bool x.2.2.2]
def lE(l:List El):PV:=.lst (l.map eE)
theorem oY(l:List El):aj (l.map eE)=true:=bl (fun z=>rfl) l
theorem fK(l:List Int):aj (l.map .int)=true:=bl (fun z=>rfl) l
def ag{β:Type}(n k:Nat)(A:List PV)(s:St)(K:PV×St->Option β):Option β:=(jJ s A).bind fun o=>(af n k o.1 o.2.g).bind fun r=>K (r.1,{o.2 with g:=r.2})
theorem ad{β:Type}{n k:Nat}{A A':List PV}{s s':St}{K:PV×St->Option β}{v:PV}{g:List Ent}(h:jJ s A=some (A',s'))(hr:af n k A' s'.g=some (v,g)):ag n k A s K=K (v,⟨s'.l,g⟩):=by delta ag;rw[h];refine(?_:(af n k A' s'.g).bind _=_);rw[hr];rfl
theorem pO{s s1 s2:St}{v v':PV}{r r':List PV}(h:fi s v=some (v',s1))(h2:jJ s1 r=some (r',s2)):jJ s (v::r)=some (v'::r',s2):=by unfold jJ;rw[h];show(jJ s1 r).bind _=_;rw[h2];rfl
noncomputable def qX(a b c:Nat):PV:=.inst 4859221735182005093 [(439855772532,.int a),(1818325876,.int b),(1650553701,.int c),(122537185339758,.none)]
def BS:PV:=.lst [qX 0 1114111 64448,qX 19968 40959 64320,qX 64014 64015 64320,qX 64017 64017 64320,qX 64019 64020 64320,qX 64031 64031 64320,qX 64033 64033 64320,qX 64035 64036 64320,qX 64039 64041 64320,qX 13312 19903 64384,qX 131072 173791 64384,qX 173824 177977 64384,qX 177984 178205 64384,qX 178208 183969 64384,qX 183984 191456 64384,qX 191472 192093 64384,qX 196608 201546 64384,qX 201552 205743 64384]
noncomputable def fV(f:Nat×Nat×Nat):PV:=.tup [.int f.1,.int f.2.1,.int f.2.2]
noncomputable def OO(f:Nat×Nat×Nat)(r:Nat):List El:=[(64448*f.1,32*f.2.1,2*f.2.2,false),(r*f.1,0*f.2.1,0*f.2.2,false)]
def Ks:Nat:=(fI 5002484806629356659 127454022853389443368185702)
def Pm:List Nat:=[119,120,121,122]
def kM:Nat:=(fI 5002484806629356659 469786452840)
def iM:Nat:=93
def O5:Nat:=1243960764253838009192
noncomputable def Fx(e:PV)(a:Nat):PV:=.inst 1243960764253838009192 [(7308327815843050611,e),(123610792682867,.lst [.int a]),(122520239960676,.int ((a+1:Nat)))]
section
variable(n:Nat)(t l:List (PV×PV))(f bs:PV)(cs G:List PV)(a b:Nat)(x st:Int)(d:Dk)
def vK:YA:=[(1936026726,TV t l f bs),(427070612851,.lst cs),(24948,.int a),(1735356005,.lst G),(1684108385,D0)]
def mB(z:Int):YA:=vK t l f bs cs G a++[(1818850917,.lst [.int a]),(1936292453,.int z)]
theorem NN:ah iM [] 2 (ac n) (mB t l f bs cs G a 1) (s0 d)=(aT (aI iM [2] (ac n)) (aD iM [2] (ac n)) aS (mB t l f bs cs G a 1) (s0 d)).bind some:=by rfl'
theorem U9:aI iM [2] (ac n) (mB t l f bs cs G a 1) (s0 d)=(Ro (cC cs a) (s0 d)).bind fun y=>((cN y.2 y.1).bind fun l=>some (PV.tup l,y.2)).bind fun y=>((if cY y.1=true then(aC t y.1).bind fun r=>some r.isSome else none).bind fun c=>some (!c)).bind fun c=>if c=true then some (true,y.2) else some (false,y.2):=by rfl'
theorem Wl:run iM [] 3 (ac n) (mB t l f bs cs G a 0) (s0 d)=(cC cs a).bind fun y=>ag n Ks [TV t l f bs,y] (s0 d) fun r=>ag n O5 [r.1,.lst [.int a],.int ((a+1:Nat))] r.2 fun r=>(fi r.2 r.1).bind fun y=>some (.ret y.1,mB t l f bs cs G a 0,y.2):=by rfl'
theorem VH:ah iM [] 4 (ac n) (mB t l f bs cs G a 1) (s0 d)=some (.next,mB t l f bs cs G a 1++[(123610792682867,.lst [.int a])],s0 d):=by rfl'
theorem Vo:ah iM [] 5 (ac n) (mB t l f bs cs G a 1++[(123610792682867,.lst [.int a])]) (s0 d)=ag n TD [TV t l f bs,.lst cs,.lst [.int a],.lst G,D0] (s0 d) fun r=>some (.next,mB t l f bs cs G a 1++[(123610792682867,.lst [.int a]),(7038329,r.1)],r.2):=by rfl'
theorem Tj:run iM [] 6 (ac n) (mB t l f bs cs G a 1++[(123610792682867,.lst [.int a]),(7038329,.tup [.int x])]) (s0 d)=((aC t (.tup [.int x])).bind fun r=>r).bind fun y=>ag n O5 [y,.lst [.int a],.int ((a+1:Nat))] (s0 d) fun r=>(fi r.2 r.1).bind fun y=>some (.ret y.1,mB t l f bs cs G a 1++[(123610792682867,.lst [.int a]),(7038329,.tup [.int x])],y.2):=by rfl'
end
structure bU(t l:List (PV×PV))(f:Nat×Nat×Nat)(el:Int->List El):Prop where
 lg:∀x∈sg,aC l (.int x)=some none∨aC l (.int x)=some (some (.int 1))
 one:∀x∈sg,aC t (.tup [.int x])=some (some (lE (el x)))∨(aC t (.tup [.int x])=some none∧∃r∈Pm,x=(r:Nat)∧el x=OO f (r+32768))
 two:∀x y:Int,aC t (.tup [.int x,.int y])=some none
 len:∀x∈sg,(el x).length≤2
def bw(t l:List (PV×PV))(f:Nat×Nat×Nat):PV:=TV t l (fV f) BS
theorem bx{α β:Type}{f g:α->β}:∀{l:List α},l.map f=l.map g->∀x∈l,f x=g x
|y::r,h,x,hx=>by
  injection h with h1 h2
  rcases Xo.mp hx with rfl|hx
  ·exact h1
  ·exact bx h2 x hx
theorem Kg(n:Nat)(t l:List (PV×PV))(f:Nat×Nat×Nat)(d:Dk){x:Nat}(h:x∈Pm):af (n+6) Ks [bw t l f,.int x] (g1 d)=some (lE (OO f (x+32768)),g1 d):=bx ‹(Pm.map fun x=>af (n+6) Ks [TV t l (fV f) BS,.int (x:Nat)] (g1 d))=Pm.map fun x=>some (lE (OO f (x+32768)),g1 d)› x h
theorem Oo(n:Nat)(E:List El)(a b:Nat)(d:Dk):af (n+1) O5 [lE E,.lst [.int a],.int b] (g1 d)=some (.inst 1243960764253838009192 [(7308327815843050611,lE E),(123610792682867,.lst [.int a]),(122520239960676,.int b)],g1 d):=
 (e9 ..).trans (‹Ag (ac n) O5 [.lst _,.lst [.int a],.int b] (g1 d)=if(aj _&&true)=true then some (.inst 1243960764253838009192 [(7308327815843050611,.lst _),(123610792682867,.lst [.int a]),(122520239960676,.int b)],g1 d) else none›.trans (gM ((Xp _ _).mpr ⟨oY E,rfl⟩)))
theorem dP{s:St}{v:PV}(h:aw v=true):fi s v=some (v,s):=by cases v<;>first|rfl|exact Yh h|cases h
theorem ae{s:St}{v:List PV}:aj v=true->jJ s v=some (v,s):=by
 induction v with
|nil=>intro _;exact rfl
|cons _ _ ih=>intro h;exact pO (dP ((Xp _ _).mp h).1) (ih ((Xp _ _).mp h).2)
theorem am:aj []=true:=by rfl'
theorem bq(i:Int):aw (.int i)=true:=by rfl'
theorem cK:aw D0=true:=by rfl'
theorem Bg(i:Int):aw (.lst [.int i])=true:=by rfl'
theorem dC{l:List PV}(h:aj l=true):aw (.lst l)=true:=h
theorem N6{t:List (PV×PV)}{k:PV}{r:Option PV}(hk:cY k=true)(e:aC t k=some r):(if cY k=true then(aC t k).bind fun r=>some r.isSome else none)=some r.isSome:=by rw[Yh hk,e];rfl
theorem KQ{t:List (PV×PV)}{s:St}{k d:PV}{r:Option PV}(hk:cY k=true)(e:aC t k=some r):i0 t s k d=some (r.getD d,s):=by unfold i0;rw[Yh hk,e];rfl
theorem M6:aN iM [] 2=true:=by rfl'
section
variable{n:Nat}{t l:List (PV×PV)}{f:Nat×Nat×Nat}{el:Int->List El}{G:List PV}{x:Int}{d:Dk}{L p r:List Int}
theorem Ra{t l:List (PV×PV)}{f:Nat×Nat×Nat}:aw (bw t l f)=(cJ t&&(cJ l&&true)):=by rfl'
structure bR(t l:List (PV×PV)):Prop where
 t:cJ t=true
 l:cJ l=true
theorem bR.nl(h:bR t l):aw (bw t l f)=true:=by rw[Ra,h.t,h.l];rfl
theorem aJ{v:PV}{r:List PV}(h:aw v=true)(h2:aj r=true):aj (v::r)=true:=(Xp _ _).mpr ⟨h,h2⟩
end
section
variable{n:Nat}{t l:List (PV×PV)}{f:Nat×Nat×Nat}{el:Int->List El}{G:List PV}{x:Int}{d:Dk}{L p r:List Int}
theorem PI(E:List El)(a:Nat):aw (Fx (lE E) a)=true:=(show aw (Fx (lE E) a)=(aj (E.map eE)&&true) by rfl').trans ((Xp _ _).mpr ⟨oY E,rfl⟩)
theorem JA(n:Nat)(E:List El)(a:Nat)(d:Dk)(V:YA):ag (n+1) O5 [lE E,.lst [.int a],.int ((a+1:Nat))] (s0 d) (fun r=>(fi r.2 r.1).bind fun y=>some (Fl.ret y.1,V,y.2))=some (Fl.ret (Fx (lE E) a),V,s0 d):=by let' h3:=ad (K:=fun r=>(fi r.2 r.1).bind fun y=>some (Fl.ret y.1,V,y.2)) (ae (s:=s0 d) (aJ (dC (oY E)) (aJ (Bg a) (aJ (bq ((a+1:Nat))) am)))) (Oo n E a (a+1) d);exact h3.trans (aB (f:=fun(y:PV×St)=>some (Fl.ret y.1,V,y.2)) (dP (s:=⟨(s0 d).l,g1 d⟩) (PI E a)))
theorem Pn(T:bU t l f el)(N:bR t l)(hL:L=p++x::r)(hz:L.length≤1000)(hs:∀y∈L,y∈sg)(hl:G.length=L.length)(hn:aj G=true)(hG:∀i,i<L.length->cC G (i:Nat)=some (.bool false)):
  af (n+8) kM [bw t l f,.lst (L.map .int),.int p.length,.lst G,D0] (g1 d)=some (Fx (lE (el x)) p.length,g1 d):=by
 let' hx:x∈sg:=hs x (hL▸YF _ (.head _));have lt:p.length<L.length:=by rw[hL,Xl];exact Yi (XT _)
 let' ix:=bS (f:=PV.int) hL;have gd:(i0 l (s0 d) (.int x) (.int 0)).bind (fun y=>((aZ y.1).bind fun i=>some (PV.int (max 1 i),y.2)).bind fun z=>ag (n+7) LO [.lst G,.int p.length,z.1] z.2 fun r=>some (Fl.next,vK t l (fV f) BS (L.map .int) G p.length++[(1818850917,r.1)],r.2))=ag (n+7) LO [.lst G,.int p.length,.int 1] (s0 d) fun r=>some (Fl.next,vK t l (fV f) BS (L.map .int) G p.length++[(1818850917,r.1)],r.2):=by
  rcases T.lg x hx with e|e
  ·rw[KQ rfl e];rfl
  ·rw[KQ rfl e];rfl
 have e1:run iM [] 0 (ac (n+7)) (vK t l (fV f) BS (L.map .int) G p.length) (s0 d)=run iM [] 2 (ac (n+7)) (mB t l (fV f) BS (L.map .int) G p.length 1) (s0 d):=
  (aa ‹aN iM [] 0=true› (‹ah iM [] 0 (ac _) (vK _ _ _ _ _ _ _) (s0 _)=(cC _ _).bind fun y=>(i0 _ (s0 _) y (.int 0)).bind fun y=>((aZ y.1).bind fun i=>some (PV.int (max 1 i),y.2)).bind fun z=>ag _ LO [.lst _,.int _,z.1] z.2 fun r=>some (.next,vK _ _ _ _ _ _ _++[(1818850917,r.1)],r.2)›.trans ((aB ix).trans (gd.trans (ad (ae (aJ (dC hn) (aJ (bq _) (aJ (bq _) am)))) (Mp (n+6) d (hG _ lt) (by rw[hl];exact Yo.mpr lt)):ag (n+7) LO [.lst G,.int p.length,.int 1] (s0 d) (fun r=>some (Fl.next,vK t l (fV f) BS (L.map .int) G p.length++[(1818850917,r.1)],r.2))=some (Fl.next,vK t l (fV f) BS (L.map .int) G p.length++[(1818850917,.lst [.int p.length])],s0 d)))))).trans (aa ‹aN iM [] 1=true› ‹ah iM [] 1 (ac _) (vK _ _ _ _ _ _ _++[(1818850917,.lst [.int _])]) (s0 _)=some (.next,mB _ _ _ _ _ _ _ 1,s0 _)›)
 have c1:Ro (cC (L.map .int) p.length) (s0 d)=some (.lst [.int x],s0 d):=by rw[ix];rfl
 let' fin:∀{vs:YA},run iM [] 2 (ac (n+7)) (mB t l (fV f) BS (L.map .int) G p.length 1) (s0 d)=some (.ret (Fx (lE (el x)) p.length),vs,s0 d)->af (n+8) kM [bw t l f,.lst (L.map .int),.int p.length,.lst G,D0] (g1 d)=some (Fx (lE (el x)) p.length,g1 d):=(fun h=>ao ‹i5 iM kM=true› ‹bf iM [bw _ _ _,.lst _,.int _,.lst _,D0]=some (vK _ _ (fV _) BS _ _ _)› (e1.trans h) rfl (ak _))
 let' cm:=JA (n+6) (el x) p.length d;rcases T.one x hx with e|⟨e,w,hw,e2,ew⟩
 ·let' t1:aI iM [2] (ac (n+7)) (mB t l (fV f) BS (L.map .int) G p.length 1) (s0 d)=some (false,s0 d):=(U9 ..).trans ((aB c1).trans ((aB (v:=(PV.tup [.int x],s0 d)) rfl).trans (aB (v:=false) (aB (N6 rfl e)))));exact fin ((aa M6 ((NN ..).trans (aB (cQ (n:=99999) t1)))).trans ((aa ‹aN iM [] 3=true› ‹ah iM [] 3 (ac _) (mB _ _ _ _ _ _ _ 1) (s0 _)=some (.next,mB _ _ _ _ _ _ _ 1,s0 _)›).trans ((aa ‹aN iM [] 4=true› (VH ..)).trans ((aa ‹aN iM [] 5=true› ((Vo ..).trans (ad (ae (aJ N.nl (aJ (dC (fK L)) (aJ (Bg _) (aJ (dC hn) (aJ cK am)))))) (Mx hL hz hs hG T.two)):ah iM [] 5 (ac (n+7)) (mB t l (fV f) BS (L.map .int) G p.length 1++[(123610792682867,.lst [.int p.length])]) (s0 d)=some (.next,mB t l (fV f) BS (L.map .int) G p.length 1++[(123610792682867,.lst [.int p.length]),(7038329,.tup [.int x])],s0 d))).trans ((Tj ..).trans ((aB (v:=lE (el x)) (aB (f:=fun r=>r) e)).trans (cm _)))))))
 ·exact fin ((aa M6 ((NN ..).trans (aB ((gy (n:=99999) (V':=mB t l (fV f) BS (L.map .int) G p.length 0) ((U9 ..).trans ((aB c1).trans ((aB (v:=(PV.tup [.int x],s0 d)) rfl).trans (aB (v:=true) (aB (N6 rfl e))))):aI iM [2] (ac (n+7)) (mB t l (fV f) BS (L.map .int) G p.length 1) (s0 d)=some (true,s0 d)) ‹aD iM [2] (ac _) (mB _ _ _ _ _ _ _ 1) (s0 _)=some (.next,mB _ _ _ _ _ _ _ 0,s0 _)› rfl).trans (cQ (n:=99998) ‹aI iM [2] (ac _) (mB _ _ _ _ _ _ _ 0) (s0 _)=some (false,s0 _)›))))).trans ((Wl ..).trans ((aB ix).trans ((ad (ae (aJ N.nl (aJ (bq _) am))) (by rw[e2];exact Kg (n+1) t l f d hw)).trans (by rw[<-ew];exact cm _)))))
end
def QP:Nat:=(fI 5002484806629356659 30521770112214372)
def kQ:Nat:=95
section
variable(n:Nat)(t l:List (PV×PV))(f:Nat×Nat×Nat)(tx R cs G F:List PV)(a:Nat)(d:Dk)(E:List El)
def Qw:YA:=[(1936026726,bw t l f),(1952807028,.lst tx),(1684108385,D0)]
def Ps:YA:=Qw t l f tx++[(1919907699,.lst R)]
def u9:YA:=Ps t l f tx R++[(427070612851,.lst cs),(1735356005,.lst G),(439956631140,.loc 0),(24948,.int a)]
def SY:YA:=u9 t l f tx R cs G a++[(499850634606,Fx (lE E) a)]
theorem WY:ah kQ [] 1 (ac n) (Ps t l f tx R) (s0 d)=(((ar (aH kQ [1] [0] (ac n) (Ps t l f tx R)) R [] (s0 d)).bind fun y=>some (y.1,aO y.2 none)).bind fun y=>some (PV.lst y.1,y.2)).bind fun y=>((if decide (0≤(R.length:Int)∧((R.length:Int)≤10000∧[PV.bool false].length≤1))=true then some (iv [PV.bool false] R.length) else none).bind fun l=>some (PV.lst l,y.2)).bind fun z=>some (.next,Ps t l f tx R++[(427070612851,y.1),(1735356005,z.1),(439956631140,.loc z.2.l.length),(24948,.int 0)],⟨z.2.l++[⟨.lst [],.mut⟩],z.2.g⟩):=by rfl'
theorem UL:aI kQ [2] (ac n) (u9 t l f tx R cs G a) (s1 F d)=some (decide ((a:Int)<cs.length),s1 F d):=by rfl'
end
def eG(el:Int->List El)(y:Pl):PV:=.tup [lE (el y.1),.int y.2,.int ((y.2+1:Nat))]
theorem OL(el:Int->List El)(y:Pl):aw (eG el y)=true:=(show aw (eG el y)=(aj ((el y.1).map eE)&&true) by rfl').trans ((Xp _ _).mpr ⟨oY _,rfl⟩)
theorem hZ(x:Int)(r:List Int)(p:List Int):∀(i:Nat),en (p++x::r) i=en p i++(x,i+p.length)::en r (i+p.length+1):=by
 induction p with
|nil=>intro i;exact rfl
|cons y p ih=>intro i;refine(?_:(y,i)::en (p++x::r) (i+1)=_);rw[ih (i+1),XG,XS i 1,XZ 1];rfl
theorem Jh(l:List Int):∀(i:Nat),(en l i).map (fun y=>PV.int y.1)=l.map .int:=by
 induction l with
|nil=>intro _;exact rfl
|cons x r ih=>intro i;exact YH (_:: ·) (ih (i+1))
theorem yI{α β:Type}(x:β):∀l:List α,iv [x] l.length=l.map fun z=>x:=by
 intro l;induction l with
|nil=>exact rfl
|cons _ r ih=>exact YH (x:: ·) (ih)
section
variable{n:Nat}{t l:List (PV×PV)}{f:Nat×Nat×Nat}{el:Int->List El}{d:Dk}{L:List Int}
def bB(L:List Int):List PV:=L.map fun z=>.bool false
theorem qe:∀(L:List Int) (i:Nat),i<L.length->cC (bB L) (i:Nat)=some (.bool false):=fun L i h=>by unfold bB;rw[dz,List.getElem?_map,XK h];rfl
theorem Fk(T:bU t l f el)(N:bR t l)(hz:L.length≤1000)(hs:∀y∈L,y∈sg){p r:List Int}{x:Int}(hL:L=p++x::r)(F:List PV)(hF:F.length<1000):
  aD kQ [2] (ac (n+8)) (u9 t l f (L.map .int) ((en L 0).map e2) (L.map .int) (bB L) p.length) (s1 F d)=some (.next,u9 t l f (L.map .int) ((en L 0).map e2) (L.map .int) (bB L) (p.length+1)++[(499850634606,Fx (lE (el x)) p.length),(31369519446978163,.lst [.int p.length])],s1 (F++[eG el (x,p.length)]) d):=by
 have ir:cC ((en L 0).map e2) (p.length:Nat)=some (e2 (x,p.length)):=by rw[(by rw[hL,hZ,Xz]:(en L 0).map e2=(en p 0++(x,p.length)::en r (p.length+1)).map e2)];exact(YH (fun k:Nat=>cC _ (k:Int)) (bX p 0).symm).trans (bS rfl)
 have lt:p.length<L.length:=by rw[hL,Xl];exact Yi (XT _)
 let' nf:aj (bB L)=true:=bl (fun z=>rfl) L;let' h8:=‹ah kQ [(2,true),(0,false)] 1 (ac (n+8)) (SY t l f (L.map .int) ((en L 0).map e2) (L.map .int) (bB L) p.length (el x)) (s1 F d)=(UU ((cC ((en L 0).map e2) p.length).bind fun y=>(item (s1 F d) y (.int 1)).bind fun y=>some (y,s1 F d))).bind fun y=>some (.next,SY t l f (L.map .int) ((en L 0).map e2) (L.map .int) (bB L) p.length (el x)++[(31369519446978163,y.1)],y.2)›.trans (aB (v:=(PV.lst [.int p.length],s1 F d)) (by rw[ir];rfl));let' h9:=‹run kQ [(2,true),(0,false)] 2 (ac (n+8)) (SY t l f (L.map .int) ((en L 0).map e2) (L.map .int) (bB L) p.length (el x)++[(31369519446978163,.lst [.int p.length])]) (s1 F d)=(if(aq (F++[PV.tup [lE (el x),.int p.length,.int ((p.length+1:Nat))]])&&true)=true then some (PV.none,s1 (F++[PV.tup [lE (el x),.int p.length,.int ((p.length+1:Nat))]]) d) else none).bind fun y=>some (.next,u9 t l f (L.map .int) ((en L 0).map e2) (L.map .int) (bB L) (p.length+1)++[(499850634606,Fx (lE (el x)) p.length),(31369519446978163,.lst [.int p.length])],y.2)›.trans (aB (gM (by rw[yv hF];rfl)))
 rw[‹aD kQ [2]=run kQ [(2,true)] 0›];exact(bk ‹aN kQ [(2,true)] 0=true› ‹kK kQ [(2,true)] 0=true› (‹bn kQ [(2,true)] 0 (ac (n+8)) (u9 t l f (L.map .int) ((en L 0).map e2) (L.map .int) (bB L) p.length) (s1 F d)=(cC (bB L) p.length).bind fun y=>(cX y).bind fun b=>some (b,s1 F d)›.trans (aB (qe L _ lt))) ((aa ‹aN kQ [(2,true),(0,false)] 0=true› (‹ah kQ [(2,true),(0,false)] 0 (ac (n+8)) (u9 t l f (L.map .int) ((en L 0).map e2) (L.map .int) (bB L) p.length) (s1 F d)=ag (n+8) kM [bw t l f,.lst (L.map .int),.int p.length,.lst (bB L),D0] (s1 F d) fun r=>some (.next,u9 t l f (L.map .int) ((en L 0).map e2) (L.map .int) (bB L) p.length++[(499850634606,r.1)],r.2)›.trans (ad (ae (aJ N.nl (aJ (dC (fK L)) (aJ (bq _) (aJ (dC nf) (aJ cK am)))))) (Pn T N hL hz hs (by rw[bB,Xm]) nf (qe L))))).trans ((aa ‹aN kQ [(2,true),(0,false)] 1=true› h8).trans h9))).trans (YI (YI (YI ‹run kQ [(2,true)] 1=fun C vs s=>some (.next,vs,s)› _) _) _)
theorem FC(T:bU t l f el)(N:bR t l)(hz:L.length≤1000)(hs:∀y∈L,y∈sg)(r:List Int):∀(p:List Int) (k:Nat),L=p++r->r.length<k->
  aT (aI kQ [2] (ac (n+8))) (aD kQ [2] (ac (n+8))) k (u9 t l f (L.map .int) ((en L 0).map e2) (L.map .int) (bB L) p.length) (s1 ((en p 0).map (eG el)) d)=some (.next,u9 t l f (L.map .int) ((en L 0).map e2) (L.map .int) (bB L) L.length,s1 ((en L 0).map (eG el)) d):=by
 induction r with
|nil=>intro p k h Ò;obtain⟨k,rfl⟩:=dS Ò;let' e:L=p:=h.trans (Xu p);refine(cQ ((UL ..).trans (by rw[Yd (gT e)]))).trans ?_;rw[<-e]
|cons x r ih=>intro p k h hk;obtain⟨k,rfl⟩:=dS hk;refine(gy (V':=u9 t l f (L.map .int) ((en L 0).map e2) (L.map .int) (bB L) (p.length+1)) ((UL ..).trans (by rw[Yc (iu h)])) (Fk T N hz hs h _ (by rw[Xm,bX];exact(XI (by rw[h,Xl];exact Yi (XT _)) hz:p.length<1000))) rfl).trans ?_;let' u:=ih (p++[x]) k (bE h) (Yv hk);rw[Xl,hZ,XE,Xz] at u;exact u
theorem Iv(T:bU t l f el)(N:bR t l)(hz:L.length≤1000)(hs:∀y∈L,y∈sg):af (n+14) QP [bw t l f,.lst (L.map .int),D0] (g1 d)=some (.lst ((en L 0).map (eG el)),g1 d):=by
 have zl:0+(en L 0).length≤1000:=by rw[bX,Xz];exact hz
 have tm:iv [PV.bool false] ((en L 0).map e2).length=bB L:=by rw[Xm,bX];exact yI _ L
 let' h2:=(WY (n+13) t l f (L.map .int) ((en L 0).map e2) d).trans ((aB (b9 (g7 (f:=aH kQ [1] [0] (ac (n+13)) (Ps t l f (L.map .int) ((en L 0).map e2))) (g:=e2) (o:=fun y=>.int y.1) (s:=s0 d) (l:=en L 0) (acc:=[]) zl fun y z acc=>(by rfl')))).trans (aB (aB (gM (Yc ⟨Zd _,Yp.mpr (by rw[Xm,bX];exact Xk hz (by decide)),by decide⟩)))));rw[tm,(Jh L 0:([]:List PV)++(en L 0).map (fun y=>PV.int y.1)=L.map .int)] at h2;let' h4:=‹run kQ [] 3 (ac (n+13)) (u9 t l f (L.map .int) ((en L 0).map e2) (L.map .int) (bB L) L.length) (s1 ((en L 0).map (eG el)) d)=(if aj ((en L 0).map (eG el))=true then some (PV.lst ((en L 0).map (eG el)),⟨[⟨.lst ((en L 0).map (eG el)),.ZG⟩],g1 d⟩) else none).bind fun y=>some (.ret y.1,u9 t l f (L.map .int) ((en L 0).map e2) (L.map .int) (bB L) L.length,y.2)›.trans (aB (gM (bl (fun y=>OL el y) _)))
 exact ao ‹i5 kQ QP=true› ‹bf kQ [bw _ _ _,.lst _,D0]=some (Qw _ _ _ _)› ((aa ‹aN kQ [] 0=true› (‹ah kQ [] 0 (ac (n+13)) (Qw t l f (L.map .int)) (s0 d)=ag (n+13) Sd [.lst (L.map .int),D0] (s0 d) fun r=>some (.next,Qw t l f (L.map .int)++[(1919907699,r.1)],r.2)›.trans (ad (ae (aJ (dC (fK L)) (aJ cK am))) (NY (n:=n) hs hz)))).trans ((aa ‹aN kQ [] 1=true› h2).trans ((aa ‹aN kQ [] 2=true› (‹ah kQ [] 2 (ac (n+13)) (u9 t l f (L.map .int) ((en L 0).map e2) (L.map .int) (bB L) (0:Nat)) (s1 [] d)=(aT (aI kQ [2] (ac (n+13))) (aD kQ [2] (ac (n+13))) aS (u9 t l f (L.map .int) ((en L 0).map e2) (L.map .int) (bB L) (0:Nat)) (s1 [] d)).bind some›.trans (aB (FC (n:=n+5) T N hz hs L [] aS rfl (XQ hz (by decide)))))).trans h4))) rfl (ak _)
end
def KF(F:List PV)(x:PV)(d:Dk)(K:PV×St->Option R3):Option R3:=(if(aq (F++[x])&&true)=true then some (PV.none,s1 (F++[x]) d) else none).bind K
theorem lN{F:List PV}{x:PV}{d:Dk}{K:PV×St->Option R3}(h:F.length<1000):KF F x d K=K (.none,s1 (F++[x]) d):=aB (gM (by rw[yv h];rfl))
def SB(F R:List PV)(d:Dk)(K:PV×St->Option R3):Option R3:=(if(aq (F++R)&&true)=true then some (PV.none,s1 (F++R) d) else none).bind K
theorem BC{F R:List PV}{d:Dk}{K:PV×St->Option R3}(h:F.length+R.length≤1000):SB F R d K=K (.none,s1 (F++R) d):=aB (gM (by rw[RN h];rfl))
def t9(F:List PV)(V:YA)(d:Dk):Option R3:=(if aj F=true then some (PV.lst F,(⟨[⟨.lst F,.ZG⟩],g1 d⟩:St)) else none).bind fun y=>some (.ret y.1,V,y.2)
theorem f6{F:List PV}{V:YA}{d:Dk}(h:aj F=true):t9 F V d=some (.ret (.lst F),V,⟨[⟨.lst F,.ZG⟩],g1 d⟩):=aB (gM h)
def JU(n k:Nat)(A:List PV)(s:St)(V:YA)(f:PV->YA->St->Option R3):Option R3:=ag n k A s fun r=>(iB r.2 r.1).bind fun l=>(au f l V (aK r.2 r.1).1).bind fun z=>some (z.1,z.2.1,aO z.2.2 (aK r.2 r.1).2)
theorem xy{n k:Nat}{A:List PV}{V W:YA}{f:PV->YA->St->Option R3}{l:List PV}{y:Fl}{s s':St}{g:List Ent}(h:aj A=true)(hr:af n k A s.g=some (.lst l,g))(hf:au f l V ⟨s.l,g⟩=some (y,W,s')):JU n k A s V f=some (y,W,s'):=
 (ad (ae h) hr).trans (aB hf)
def gC(l:List PV)(V:YA)(s:St)(f:PV->YA->St->Option R3):Option R3:=(au f l V s).bind fun z=>some (z.1,z.2.1,aO z.2.2 none)
theorem bJ{V W:YA}{f:PV->YA->St->Option R3}{l:List PV}{y:Fl}{s s':St}(hf:au f l V s=some (y,W,s')):gC l V s f=some (y,W,s'):=aB hf
def Pj:Nat:=(fI 5002484806629356659 122613394365207082205933414)
def KU:Nat:=96
section
variable(n:Nat)(t l:List (PV×PV))(f:Nat×Nat×Nat)(tx F:List PV)(a b:Nat)(d:Dk)(E:List El)
def vO:YA:=[(1936026726,bw t l f),(1952807028,.lst tx),(1684108385,D0)]
def EV:YA:=vO t l f tx++[(439956631140,.loc 0)]
theorem VP:ah KU [] 0 (ac n) (vO t l f tx) (s0 d)=some (.next,EV t l f tx,s1 [] d):=by rfl'
theorem VN:ai KU [1] (ac n) (.tup [lE E,.int a,.int b]) (EV t l f tx) (s1 F d)=SB F (E.map eE) d fun y=>some (.next,EV t l f tx++[(7308327815843050611,lE E),(422608074094,.int a),(435643770212,.int b)],y.2):=by rfl'
theorem Vn:run KU [] 2 (ac n) (EV t l f tx) (s1 F d)=t9 F (EV t l f tx) d:=by rfl'
end
section
variable{n:Nat}{t l:List (PV×PV)}{f:Nat×Nat×Nat}{el:Int->List El}{d:Dk}{L:List Int}
theorem wS(el:Int->List El)(L:List Int):∀(i:Nat) (b:List El),(en L i).foldl (fun b y=>b++el y.1) b=b++L.flatMap el:=by
 induction L with
|nil=>intro _ b;exact(Xu b).symm
|cons x r ih=>intro i b;exact(ih (i+1) (b++el x)).trans (by rw[List.flatMap_cons,Xr])
theorem Dr(T:bU t l f el)(N:bR t l)(hz:L.length≤100)(hs:∀y∈L,y∈sg):af (n+15) Pj [bw t l f,.lst (L.map .int),D0] (g1 d)=some (lE (L.flatMap el),g1 d):=by
 have fo:=bV (f:=ai KU [1] (ac (n+14))) (g:=eG el) (V:=fun _:List El=>EV t l f (L.map .int)) (S:=fun b=>s1 (b.map eE) d) (step:=fun b y=>b++el y.1) (fun b r=>b.length+2*r.length≤1000∧∀y∈r,y.1∈sg)
  (fun b x r h=>by
   let' h1:=h.1;rw[XG,Nat.mul_add] at h1;let' h3:b.length+(el x.1).length+2*r.length≤1000:=Xk (by rw[XS,XZ (el x.1).length];exact XA (XA (T.len _ (h.2 x (.head _)):(el x.1).length≤2) _) _) h1;refine⟨⟨by rw[Xl];exact h3,fun y hy=>h.2 y (.tail _ hy)⟩,EV t l f (L.map .int)++[(7308327815843050611,lE (el x.1)),(422608074094,.int x.2),(435643770212,.int ((x.2+1:Nat)))],(VN (n+14) t l f (L.map .int) (b.map eE) x.2 (x.2+1) d (el x.1)).trans ((BC (by rw[Xm,Xm];exact Xk (XH _ _) h3)).trans ?_),rfl⟩
   rw[XE])
  (en L 0) [] ⟨by rw[bX];exact Xk (XY (Xz _)) (Xk (Nat.mul_le_mul_left 2 hz) (by decide)),rD L 0 hs⟩
 rw[wS] at fo;exact ao (by rfl') (by rfl') ((aa (by rfl') (VP ..)).trans ((aa ‹aN KU [] 1=true› (‹ah KU [] 1 (ac (n+14)) (EV t l f (L.map .int)) (s1 [] d)=JU (n+14) QP [bw t l f,.lst (L.map .int),D0] (s1 [] d) (EV t l f (L.map .int)) (ai KU [1] (ac (n+14)))›.trans (xy (aJ N.nl (aJ (dC (fK L)) (aJ cK am))) (Iv (n:=n) (d:=d) T N (Xk hz (by decide)) hs) fo))).trans ((Vn ..).trans (f6 (oY _))))) rfl (ak _)
end
abbrev Wt:=Nat×Nat×Nat×Nat
noncomputable def eW(x:Wt):PV:=.tup [.int x.1,.int x.2.1,.int x.2.2.1,.int x.2.2.2]
def lW(l:List Wt):PV:=.lst (l.map eW)
theorem ni(l:List Wt):aj (l.map eW)=true:=bl (fun z=>rfl) l
noncomputable def us(top:Nat):Bool->El->Bool×Wt
|_,(p+1,s,t,v)=>if v then(v,(0,0,0,p+1)) else(v,(p+1,s,t,top))
|b,(0,s,t,_)=>match b,s,t with
  |true,_,_=>(b,(0,0,0,0))
  |false,0,0=>(b,(0,0,0,0))
  |false,s,t=>(b,(0,s,t,top))
def T9:Nat:=516297326656720132542828739049055588
def zj:Nat:=37
section
variable(n:Nat)(E F:List PV)(a p s t:Nat)(b v:Bool)(d:Dk)
noncomputable def vS:YA:=[(7308327815843050611,.lst E),(7630704,.int a),(439956631140,.loc 0),(1945221599364335103588,.bool b)]
def UC(x:El):YA:=vS E a b++[(439855772532,.int x.1),(126879297138276,.int x.2.1),(499967947364,.int x.2.2.1),(127482044175978041098529893,.bool x.2.2.2)]
theorem WF:ah zj [] 0 (ac n) [(7308327815843050611,.lst E),(7630704,.int a)] (s0 d)=some (.next,vS E a false,s1 [] d):=by rfl'
theorem Wb:ah zj [] 1 (ac n) (vS E a false) (s1 [] d)=gC E (vS E a false) (s1 [] d) (ai zj [1] (ac n)):=by rfl'
theorem VG:run zj [] 2 (ac n) (vS E a b) (s1 F d)=t9 F (vS E a b) d:=by rfl'
def Ka(b':Bool)(x:El)(w:Wt):Option R3:=KF F (eW w) d fun y=>some (.next,UC E a b' x,y.2)
theorem WD:ai zj [1] (ac n) (eE (p+1,s,t,true)) (vS E a b) (s1 F d)=Ka E F a d true (p+1,s,t,true) (0,0,0,p+1):=by rfl'
theorem Vp:ai zj [1] (ac n) (eE (p+1,s,t,false)) (vS E a b) (s1 F d)=Ka E F a d false (p+1,s,t,false) (p+1,s,t,a):=by rfl'
theorem Wz:ai zj [1] (ac n) (eE (0,s,t,v)) (vS E a true) (s1 F d)=Ka E F a d true (0,s,t,v) (0,0,0,0):=by rfl'
theorem WB:ai zj [1] (ac n) (eE (0,0,0,v)) (vS E a false) (s1 F d)=Ka E F a d false (0,0,0,v) (0,0,0,0):=by rfl'
theorem Wi:ai zj [1] (ac n) (eE (0,s+1,t,v)) (vS E a false) (s1 F d)=Ka E F a d false (0,s+1,t,v) (0,s+1,t,a):=by rfl'
theorem Wo:ai zj [1] (ac n) (eE (0,0,t+1,v)) (vS E a false) (s1 F d)=Ka E F a d false (0,0,t+1,v) (0,0,t+1,a):=by rfl'
theorem F0:∀x:El,ai zj [1] (ac n) (eE x) (vS E a b) (s1 F d)=Ka E F a d (us a b x).1 x (us a b x).2
|(p+1,s,t,true)=>WD ..
|(p+1,s,t,false)=>Vp ..
|(0,s,t,v)=>match b,s,t with
  |true,_,_=>Wz ..
  |false,0,0=>WB ..
  |false,s+1,t=>Wi ..
  |false,0,t+1=>Wo ..
end
noncomputable def jg(top:Nat):Bool->List El->List Wt
|_,[]=>[]
|b,x::r=>(us top b x).2::jg top (us top b x).1 r
noncomputable def l6(top:Nat):Bool->List El->Bool
|b,[]=>b
|b,x::r=>l6 top (us top b x).1 r
theorem Gn(top:Nat)(E:List El):∀(b:Bool) (acc:List Wt),E.foldl (fun y x=>((us top y.1 x).1,y.2++[(us top y.1 x).2])) (b,acc)=(l6 top b E,acc++jg top b E):=by
 induction E with
|nil=>intro b acc;exact YH (b,·) (Xu acc).symm
|cons x r ih=>intro b acc;exact(ih _ _).trans (YH (_,·) (Xr ..))
theorem Nf(n top:Nat){E:List El}(hz:E.length≤1000)(d:Dk):af (n+1) T9 [lE E,.int top] (g1 d)=some (lW (jg top false E),g1 d):=by
 have fo:=bV (f:=ai zj [1] (ac n)) (g:=eE) (V:=fun b:Bool×List Wt=>vS (E.map eE) top b.1) (S:=fun b=>s1 (b.2.map eW) d) (step:=fun y x=>((us top y.1 x).1,y.2++[(us top y.1 x).2])) (fun b r=>b.2.length+r.length≤1000)
  (fun b x r h=>by refine⟨by rw[Xl,XS,XZ [_].length];exact h,UC (E.map eE) top (us top b.1 x).1 x,(F0 n (E.map eE) (b.2.map eW) top b.1 d x).trans ((lN (by rw[Xm];exact(XI (Yi (XT _)) h:b.2.length<1000))).trans ?_),rfl⟩;rw[XE];rfl)
  E (false,[]) (Xk (XY (Xz _)) hz)
 rw[Gn] at fo;exact ao (by rfl') (by rfl') ((aa (by rfl') (WF ..)).trans ((aa (by rfl') ((Wb ..).trans (bJ fo))).trans ((VG ..).trans (f6 (ni _))))) rfl (ak _)
def Ea:Nat:=8603398556016207204
def Vz:Nat:=38
def hS:PV:=S "shifted"
theorem xn:aw hS=true:=by rfl'
section
variable(n:Nat)(F:List PV)(a:Nat)(d:Dk)
def UK:YA:=[(7308327815843050611,.lst F),(6844279,hS),(126926792778084,.int a)]
end
theorem AR(n a:Nat){E:List El}(hz:E.length≤1000)(d:Dk):af (n+2) Ea [lE E,hS,.int a] (g1 d)=some (lW (jg (65535*a) false E),g1 d):=by exact ao (by rfl') (by rfl') ((‹run Vz [] 0 (ac (n+1)) (UK (E.map eE) a) (s0 d)=ag (n+1) T9 [.lst (E.map eE),.int ((65535*a:Nat))] (s0 d) fun r=>(fi r.2 r.1).bind fun y=>some (.ret y.1,UK (E.map eE) a++[(7630704,.int ((65535*a:Nat)))],y.2)›.trans (ad (ae (aJ (dC (oY E)) (aJ (bq _) am))) (Nf n (65535*a) hz d))).trans (aB (j7 (ni _)))) rfl (ak _)
noncomputable def pj:Nat->Wt->Nat
|0,w=>w.1
|1,w=>w.2.1
|2,w=>w.2.2.1
|_,w=>w.2.2.2
def pz(k:Nat)(w:Wt):Bool:= !(((pj k w:Nat):Int)==0)
def fJ(ws:List Wt)(k:Nat):List Nat:=(ws.filter (pz k)).map (pj k)
def Nr(ws:List Wt):List (List Nat):=[0,1,2,3].map (fJ ws)
noncomputable def eI(x:Nat):PV:=.int (x:Nat)
def eN(l:List Nat):PV:=.lst (l.map eI)
def bK(l:List (List Nat)):PV:=.lst (l.map eN)
theorem q8(l:List Nat):aw (eN l)=true:=bl (fun z=>rfl) l
theorem gt(l:List (List Nat)):aw (bK l)=true:=bl q8 l
def Ld:Nat:=9142614481120384853751269518451
def GU:Nat:=55
def Nw{α:Type}(c:Bool)(s:St)(A B:St->Option α):Option α:=(if c=true then some (true,s) else some (false,s)).bind fun b=>if b.1=true then A b.2 else B b.2
theorem uA{α:Type}(c:Bool)(s:St)(A B:St->Option α):Nw c s A B=if c=true then A s else B s:=by cases c<;>rfl
section
variable(n:Nat)(F G:List PV)(k:Nat)(w:Wt)(d:Dk)
noncomputable def Jt:YA:=[(33607025609438323,.lst F),(8319400191629685864,.int 4),(119183033855091,.loc 0)]
def Cl:YA:=Jt F++[(121450625394034,.int k)]
theorem WG:ah GU [] 0 (ac n) [(33607025609438323,.lst F),(8319400191629685864,.int 4)] (s0 d)=some (.next,Jt F,s1 [] d):=by rfl'
theorem VB:ah GU [] 1 (ac n) (Jt F) (s1 [] d)=gC ([0,1,2,3].map eI) (Jt F) (s1 [] d) (ai GU [1] (ac n)):=by rfl'
theorem VX(acc:List PV)(s:St):([0,1,2,3].map fun k=>aH GU [1,0] [1] (ac n) (Cl F k) (eW w) acc s)=[0,1,2,3].map fun k=>Nw (pz k w) s (fun s=>if aq (acc++[eI (pj k w)])=true then some (acc++[eI (pj k w)],s) else none) fun s=>some (acc,s):=by rfl'
theorem VD:run GU [] 2 (ac n) (Jt F) (s1 G d)=t9 G (Jt F) d:=by rfl'
theorem W8(x:PV):Zm (s1 G d) (.loc 0) [x]=if(aq (G++[x])&&true)=true then some (PV.none,s1 (G++[x]) d) else none:=by rfl'
end
theorem Dg(n:Nat){ws:List Wt}(hz:ws.length≤1000)(d:Dk):af (n+1) Ld [lW ws,.int 4] (g1 d)=some (bK (Nr ws),g1 d):=by
 have fo:=bV (f:=ai GU [1] (ac n)) (g:=eI) (V:=fun _:List (List Nat)=>Jt (ws.map eW)) (S:=fun b=>s1 (b.map eN) d) (step:=fun b k=>b++[fJ ws k]) (fun b r=>b.length+r.length≤1000∧∀k∈r,k∈[0,1,2,3])
  (fun b k r h=>by
   let' c:=(hJ (f:=aH GU [1,0] [1] (ac n) (Cl (ws.map eW) k)) (g:=eW) (o:=fun w=>eI (pj k w)) (p:=pz k) (s:=s1 (b.map eN) d) (l:=ws) (acc:=[]) (Xk (XY (Xz _)) hz) fun w x acc=>(bx (VX n (ws.map eW) w acc _) k (h.2 k (.head _))).trans (uA ..))
   let' e:([]:List PV)++(ws.filter (pz k)).map (fun w=>eI (pj k w))=(fJ ws k).map eI:=(YW (f:=pj k) (g:=eI) (l:=ws.filter (pz k))).symm;rw[e] at c;refine⟨⟨by rw[Xl,XS,XZ [_].length];exact h.1,fun y hy=>h.2 y (.tail _ hy)⟩,Cl (ws.map eW) k,‹_=(((ar (aH GU [1,0] [1] (ac n) (Cl (ws.map eW) k)) (ws.map eW) [] (s1 (b.map eN) d)).bind fun y=>some (y.1,aO y.2 none)).bind fun y=>some (PV.lst y.1,y.2)).bind fun y=>(Zm y.2 (.loc 0) [y.1]).bind fun z=>some (.next,Cl (ws.map eW) k,z.2)›.trans ((aB (b9 c)).trans ((aB ((W8 (b.map eN) d _).trans (gM (by rw[yv (by rw[Xm];exact(XI (Yi (XT _)) h.1:b.length<1000))];rfl)))).trans ?_)),rfl⟩
   rw[XE];rfl)
  [0,1,2,3] [] ⟨(show 0+4≤1000 by decide),fun k h=>h⟩
 exact ao (by rfl') (by rfl') ((aa (by rfl') (WG ..)).trans ((aa ‹aN GU [] 1=true› ((VB ..).trans (bJ fo))).trans ((VD ..).trans (f6 (bl q8 _))))) rfl (ak _)
def Qm:Nat:=9142614481120384865828584318308
def VA:Nat:=58
section
variable(n:Nat)(t l:List (PV×PV))(f:Nat×Nat×Nat)(tx:List PV)(d:Dk)
def Oa:YA:=[(31632350188499566,.lst tx),(499850046565,bw t l f),(1684108385,D0),(8319400191629685864,.int 4),(6844279,hS)]
end
theorem z6{el:Int->List El}{L:List Int}:(∀y∈L,(el y).length≤2)->(L.flatMap el).length≤2*L.length:=by
 induction L with
|nil=>intro _;exact Xx _
|cons x r ih=>intro h;rw[List.flatMap_cons,Xl,XG,Nat.mul_add,XZ];exact XR (ih fun y hy=>h y (.tail _ hy)) (h x (.head _))
theorem fu(top:Nat)(E:List El):∀(b:Bool),(jg top b E).length=E.length:=by
 induction E with
|nil=>intro _;exact rfl
|cons _ r ih=>intro _;exact YH (·+1) (ih _)
section
variable{n:Nat}{t l:List (PV×PV)}{f:Nat×Nat×Nat}{el:Int->List El}{d:Dk}{L:List Int}
theorem mN(T:bU t l f el)(hz:L.length≤100)(hs:∀y∈L,y∈sg):(L.flatMap el).length≤1000:=Xk (z6 fun y hy=>T.len y (hs y hy)) (Xk (Nat.mul_le_mul_left 2 hz) (by decide))
def hB(f:Nat×Nat×Nat)(el:Int->List El)(L:List Int):List Wt:=jg (65535*f.1) false (L.flatMap el)
theorem Hx(T:bU t l f el)(N:bR t l)(hz:L.length≤100)(hs:∀y∈L,y∈sg):af (n+16) Qm [.lst (L.map .int),bw t l f,D0,.int 4,hS] (g1 d)=some (bK (Nr (hB f el L)),g1 d):=by
 let' z:=mN T hz hs;let' h2:=ad (n:=n+15) (k:=Ea) (s:=s0 d) (K:=fun r=>ag (n+15) Ld [r.1,.int 4] r.2 fun r=>(fi r.2 r.1).bind fun y=>some (Fl.ret y.1,Oa t l f (L.map .int),y.2)) (ae (aJ (dC (oY _)) (aJ xn (aJ (bq _) am)))) (AR (n+13) f.1 z d);let' h3:=ad (n:=n+15) (k:=Ld) (s:=s0 d) (K:=fun r=>(fi r.2 r.1).bind fun y=>some (Fl.ret y.1,Oa t l f (L.map .int),y.2)) (ae (aJ (dC (ni _)) (aJ (bq _) am))) (Dg (n+14) (ws:=hB f el L) (by rw[hB,fu];exact z) d);exact ao (by rfl') (by rfl') (‹run VA [] 0 (ac (n+15)) (Oa t l f (L.map .int)) (s0 d)=ag (n+15) Pj [bw t l f,.lst (L.map .int),D0] (s0 d) fun r=>ag (n+15) Ea [r.1,hS,.int f.1] r.2 fun r=>ag (n+15) Ld [r.1,.int 4] r.2 fun r=>(fi r.2 r.1).bind fun y=>some (.ret y.1,Oa t l f (L.map .int),y.2)›.trans ((ad (n:=n+15) (k:=Pj) (s:=s0 d) (K:=fun r=>ag (n+15) Ea [r.1,hS,.int f.1] r.2 fun r=>ag (n+15) Ld [r.1,.int 4] r.2 fun r=>(fi r.2 r.1).bind fun y=>some (Fl.ret y.1,Oa t l f (L.map .int),y.2)) (ae (aJ N.nl (aJ (dC (fK L)) (aJ cK am)))) (Dr (n:=n) (d:=d) T N hz hs)).trans (h2.trans (h3.trans (aB (dP (gt _))))))) rfl (ak _)
end
def s2(A:Ent)(R:List PV)(d:Dk):St:=⟨[A,⟨.lst R,.mut⟩],g1 d⟩
def PW(A:Ent)(F:List PV)(x:PV)(d:Dk)(K:PV×St->Option R3):Option R3:=(if(aq (F++[x])&&true)=true then some (PV.none,s2 A (F++[x]) d) else none).bind K
theorem Er{A:Ent}{F:List PV}{x:PV}{d:Dk}{K:PV×St->Option R3}(h:F.length<1000):PW A F x d K=K (.none,s2 A (F++[x]) d):=aB (gM (by rw[yv h];rfl))
def C5(A:Ent)(F:List PV)(V:YA)(d:Dk):Option R3:=(if aj F=true then some (PV.lst F,(⟨[A,⟨.lst F,.ZG⟩],g1 d⟩:St)) else none).bind fun y=>some (.ret y.1,V,y.2)
theorem tB{A:Ent}{F:List PV}{V:YA}{d:Dk}(h:aj F=true):C5 A F V d=some (.ret (.lst F),V,⟨[A,⟨.lst F,.ZG⟩],g1 d⟩):=aB (gM h)
def oP:Option Nat->PV
|none=>.none
|some x=>.int x
def TB:Nat:=139505225847173841002263667
def qR:Nat:=56
def eQ(el:Int->List El)(y:Pl):PV:=.tup [.int y.2,eG el y]
noncomputable def eP(y:Pl):PV:=.int y.2
section
variable(n:Nat)(G F R:List PV)(el:Int->List El)(b c:Nat)(y:Pl)(A:Ent)(d:Dk)
def vC(bh:PV):YA:=[(113741193900147,.lst G),(465557353332,.loc 0),(108187682958948,bh)]
noncomputable def Qz(bh:PV):YA:=[(113741193900147,.lst G),(465557353332,.lst F),(108187682958948,bh)]
def D4(b:Int)(bh:PV):YA:=Qz G F bh++[(1668641907,.loc 1),(32199616299033956,.int b)]
def wC:YA:=[(7308327815843050611,lE (el y.1)),(439855772532,.int y.2),(6647396,.int ((y.2+1:Nat)))]
theorem V5:ah qR [] 0 (ac n) [(113741193900147,.lst G)] (s0 d)=some (.next,vC G .none,s1 [] d):=by rfl'
theorem VK:ah qR [] 1 (ac n) (vC G .none) (s1 [] d)=gC G.reverse (vC G .none) (s1 [] d) (ai qR [1] (ac n)):=by rfl'
theorem WA(bh:PV):ah qR [] 2 (ac n) (vC G bh) (s1 F d)=some (.next,Qz G F.reverse bh,s1 F d):=by rfl'
theorem Ww(bh:PV):ai qR [4] (ac n) (eQ el y) (D4 G R b bh) (s2 A F d)=(cC R y.2).bind fun z=>(qI (fun a b=>decide (a≤b)) (.int b) z).bind fun q=>if q=true then PW A F (eP y) d fun z=>some (.next,D4 G R (max (b:Int) ((y.2+1:Nat))) bh++[(121450625394034,.int y.2)]++wC el y,z.2) else some (.next,D4 G R (max (b:Int) ((y.2+1:Nat))) bh++[(121450625394034,.int y.2)]++wC el y,s2 A F d):=by rfl'
theorem Vw(bh:PV):run qR [] 5 (ac n) (D4 G R b bh) (s2 A F d)=C5 A F (D4 G R b bh) d:=by rfl'
end
theorem AM(el:Int->List El)(l:List Int):∀(i:Nat),fN i ((en l i).map (eG el))=(en l i).map (eQ el):=by
 induction l with
|nil=>intro _;exact rfl
|cons _ r ih=>intro i;exact YH (_:: ·) (ih (i+1))
theorem HS:∀(l:List Int) (i:Nat),∀y∈en l i,i≤y.2
|x::r,i,y,h=>(Xo.mp h).elim (fun e=>XY (YH Prod.snd e).symm) fun k=>Xk (Nat.le_succ i) (HS r (i+1) y k)
theorem KO(l:List Int):∀(i:Nat),(en l i).Pairwise fun a b=>a.2≤b.2:=by
 induction l with
|nil=>intro _;exact .nil
|cons x r ih=>intro i;exact .cons (fun y h=>Xk (Nat.le_succ i) (HS r (i+1) y h)) (ih (i+1))
theorem sf(l:List Pl):∀(o:Option Nat) (b:List PV),∃o',l.foldl (fun(b:Option Nat×List PV) y=>(some y.2,b.2++[eP y])) (o,b)=(o',b++l.map eP):=by
 induction l with
|nil=>intro o b;exact⟨o,YH (o,·) (Xu b).symm⟩
|cons x r ih=>intro o b;exact(ih (some x.2) (b++[eP x])).imp fun z h=>h.trans (by rw[Xr];rfl)
theorem yU(l:List Pl):∀(o:Nat) (b:List PV),∃o',l.foldl (fun(b:Nat×List PV) y=>(y.2+1,b.2++[eP y])) (o,b)=(o',b++l.map eP):=by
 induction l with
|nil=>intro o b;exact⟨o,YH (o,·) (Xu b).symm⟩
|cons x r ih=>intro o b;exact(ih (x.2+1) (b++[eP x])).imp fun z h=>h.trans (by rw[Xr];rfl)
theorem gV{α:Type}{b:List α}{x:α}{m k:Nat}(h:b.length+(m+1)≤k):(b++[x]).length+m≤k:=by rw[Xl,XS,XZ [x].length];exact h
theorem fv{b m k:Nat}(h:b+(m+1)≤k):b<k:=XI (Yi (XT _)) h
theorem N5(n:Nat)(el:Int->List El){L:List Int}(hz:L.length≤1000)(d:Dk):af (n+1) TB [.lst ((en L 0).map (eG el))] (g1 d)=some (.lst ((en L 0).map eP),g1 d):=by
 have zl:0+(en L 0).length≤1000:=by rw[bX,Xz];exact hz
 have f1:=bV (f:=ai qR [1] (ac n)) (g:=eG el) (V:=fun b:Option Nat×List PV=>vC ((en L 0).map (eG el)) (oP b.1)) (S:=fun b=>s1 b.2 d) (step:=fun b y=>(some y.2,b.2++[eP y])) (fun b r=>b.2.length+r.length≤1000∧r.Pairwise (fun a b=>b.2≤a.2)∧∀x,b.1=some x->∀y∈r,y.2≤x)
  (fun b y r h=>by
   obtain⟨h1,h2,h3⟩:=h;cases h2 with
   |cons h4 h5=>
    refine⟨⟨gV h1,h5,fun x e z hz=>by injection e with e;exact e▸h4 z hz⟩,vC ((en L 0).map (eG el)) (eP y)++wC el y,?_,rfl⟩;obtain⟨o,B⟩:=b;cases o with
    |none=>exact‹_=KF B (eP y) d fun z=>some (.next,vC ((en L 0).map (eG el)) (eP y)++wC el y,z.2)›.trans (lN (fv h1))
    |some x=>let' e:=Int.min_eq_right (Yp.mpr (h3 x rfl y (.head _)));refine‹_=KF B (.int (min (x:Int) y.2)) d fun z=>some (.next,vC ((en L 0).map (eG el)) (.int (min (x:Int) y.2))++wC el y,z.2)›.trans ?_;rw[e];exact lN (fv h1))
  (en L 0).reverse (none,[]) ⟨by rw[YO];exact zl,List.pairwise_reverse.mpr (KO L 0),fun x e=>nomatch e⟩
 obtain⟨o,e1⟩:=sf (en L 0).reverse none [];rw[e1] at f1;have f2:=bV (f:=ai qR [4] (ac n)) (g:=eQ el) (V:=fun b:Nat×List PV=>D4 ((en L 0).map (eG el)) ((en L 0).map eP) b.1 (oP o)) (S:=fun b=>s2 ⟨.lst ([]++(en L 0).reverse.map eP),.mut⟩ b.2 d) (step:=fun b y=>(y.2+1,b.2++[eP y])) (fun b r=>b.2.length+r.length≤1000∧∃p l,L=p++l∧b.1=p.length∧r=en l b.1)
  (fun b y r h=>by
   obtain⟨h1,p,l,e1,e2,e3⟩:=h;cases l with
   |nil=>injection e3
   |cons x l=>
    injection e3 with e3 e4
    subst e3;refine⟨⟨gV h1,p++[x],l,bE e1,by rw[Xl,e2];rfl,e4⟩,D4 ((en L 0).map (eG el)) ((en L 0).map eP) ((b.1+1:Nat)) (oP o)++[(121450625394034,.int b.1)]++wC el (x,b.1),?_,rfl⟩;have ir:cC ((en L 0).map eP) (b.1:Nat)=some (.int b.1):=by rw[e1,hZ,Xz,e2];exact(YH (fun k:Nat=>cC _ (k:Int)) (bX p 0).symm).trans ((bS rfl).trans rfl)
    let' mx:max (b.1:Int) ((b.1+1:Nat))=((b.1+1:Nat)):=Int.max_eq_right (Yp.mpr (Nat.le_succ _));refine(Ww n ((en L 0).map (eG el)) b.2 ((en L 0).map eP) el b.1 (x,b.1) _ d (oP o)).trans ((aB ir).trans ((aB (v:=true) (YH some (Yc (Int.le_refl _)))).trans ((gM rfl).trans ?_)));rw[mx];exact Er (fv h1))
  (en L 0) (0,[]) ⟨zl,[],L,rfl,rfl,rfl⟩
 obtain⟨o2,e2⟩:=yU (en L 0) 0 [];rw[e2] at f2;let' h7:=‹ah qR [] 4 (ac n) (D4 ((en L 0).map (eG el)) ((en L 0).map eP) 0 (oP o)) (s2 ⟨.lst ([]++(en L 0).reverse.map eP),.mut⟩ [] d)=gC (fN 0 ((en L 0).map (eG el))) (D4 ((en L 0).map (eG el)) ((en L 0).map eP) 0 (oP o)) (s2 ⟨.lst ([]++(en L 0).reverse.map eP),.mut⟩ [] d) (ai qR [4] (ac n))›.trans (bJ (by rw[AM];exact f2));exact ao ‹i5 qR TB=true› ‹bf qR [.lst _]=some [(113741193900147,.lst _)]› ((aa ‹aN qR [] 0=true› (V5 ..)).trans ((aa ‹aN qR [] 1=true› ((VK ..).trans (bJ (by exact(List.map_reverse)▸f1)))).trans ((aa ‹aN qR [] 2=true› ((WA ..).trans (by rw[List.nil_append,List.map_reverse,List.reverse_reverse]):ah qR [] 2 (ac n) (vC ((en L 0).map (eG el)) (oP o)) (s1 ([]++(en L 0).reverse.map eP) d)=some (.next,Qz ((en L 0).map (eG el)) ((en L 0).map eP) (oP o),s1 ([]++(en L 0).reverse.map eP) d))).trans ((aa ‹aN qR [] 3=true› ‹ah qR [] 3 (ac _) (Qz _ _ _) (s1 _ _)=some (.next,D4 _ _ 0 _,s2 ⟨.lst _,.mut⟩ [] _)›).trans ((aa ‹aN qR [] 4=true› h7).trans ((Vw ..).trans (tB (bl (fun w=>rfl) _)))))))) rfl (ak _)
abbrev Q4:=List Nat×List Nat×List Nat×List Nat
noncomputable def bp(q:Q4):List (List Nat):=[q.1,q.2.1,q.2.2.1,q.2.2.2]
def iG(ws:List Wt):Q4:=(fJ ws 0,fJ ws 1,fJ ws 2,fJ ws 3)
abbrev Pc:=Nat×Q4
def eS(x:Pc):PV:=.inst 100819599619505643086766949 [(439855772532,.int x.1),(108187682958948,.int ((x.1+1:Nat))),(119183033855091,bK (bp x.2))]
def lS(l:List Pc):PV:=.lst (l.map eS)
theorem tX(x:Pc):aw (eS x)=true:=(show aw (eS x)=(aw (bK (bp x.2))&&true) by rfl').trans ((Xp _ _).mpr ⟨gt _,rfl⟩)
def UB:Nat:=100819599619505643086766949
theorem Ou(n a:Nat)(l:Q4)(d:Dk):af (n+1) UB [.int a,.int ((a+1:Nat)),bK (bp l)] (g1 d)=some (eS (a,l),g1 d):=
 (e9 ..).trans (‹_=if(aj ((bp l).map eN)&&true)=true then some (.inst 100819599619505643086766949 [(439855772532,.int a),(108187682958948,.int (a+1)),(119183033855091,.lst ((bp l).map eN))],g1 d) else none›.trans (gM ((Xp _ _).mpr ⟨bl q8 (bp l),rfl⟩)))
def Q3:Nat:=9142614481120384858166210553203
def jE:Nat:=57
section
variable(n:Nat)(t l:List (PV×PV))(f:Nat×Nat×Nat)(tx F G W C:List PV)(a k:Nat)(el:Int->List El)(y:Pl)(e:Ent)(d:Dk)
def vP:YA:=[(1952807028,.lst tx),(499850046565,bw t l f),(1684108385,D0),(8319400191629685864,.int 4),(6844279,hS)]
def Fb:YA:=vP t l f tx++[(113741193900147,.lst G),(7308327815843050611,.loc 0)]
def RP:YA:=Fb t l f tx G++[(33607025609438323,.lst W),(24948,.int a),(123597974889843,.loc 1)]
def uC:YA:=RP t l f tx G W a++[(1668641907,.lst C)]
def Qu:YA:=uC t l f tx G W C a++[(121450625394034,eP y),(1885434484,.lst [eG el y])]
def Tm:YA:=Qu t l f tx G W C a el y++[(1835101817,.int (el y.1).length),(123610792682867,.tup [.int y.2,.int ((y.2+1:Nat))])]
theorem VJ:ah jE [] 1 (ac n) (vP t l f tx++[(113741193900147,.lst G)]) (s0 d)=some (.next,Fb t l f tx G,s1 [] d):=by rfl'
def JX(C:List PV)(i j:Int)(s:St)(G:List PV):Option (PV×St):=(((cC C i).bind fun y=>some (y,s)).bind fun y=>(aZ y.1).bind fun i=>some (some i,y.2)).bind fun lo=>(((cC C j).bind fun y=>some (y,lo.2)).bind fun y=>(aZ y.1).bind fun i=>some (some i,y.2)).bind fun hi=>some (PV.lst (gI G lo.1 hi.1),hi.2)
theorem Te:ah jE [(5,true)] 2 (ac n) (Qu t l f tx G W C a el y++[(1835101817,.int (el y.1).length)]) (s2 e F d)=some (.next,Tm t l f tx G W C a el y,s2 e F d):=by rfl'
theorem Tz:run jE [] 6 (ac n) (uC t l f tx G W C a) (s2 e F d)=C5 e F (uC t l f tx G W C a) d:=by rfl'
theorem RQ(x:PV):Zm (s2 e F d) (.loc 1) [x]=if(aq (F++[x])&&true)=true then some (PV.none,s2 e (F++[x]) d) else none:=by rfl'
end
theorem Np:aN jE [] 0=true:=by rfl'
theorem NM:aN jE [] 1=true:=by rfl'
theorem MC:aN jE [] 2=true:=by rfl'
theorem PL:aN jE [] 3=true:=by rfl'
theorem MH:aN jE [] 4=true:=by rfl'
theorem M0:aN jE [] 5=true:=by rfl'
noncomputable def zO(top:Nat)(el:Int->List El):Bool->List Int->Nat->List Pc
|_,[],_=>[]
|b,x::r,i=>(i,iG (jg top b (el x)))::zO top el (l6 top b (el x)) r (i+1)
theorem qH(top:Nat)(E2:List El)(E1:List El):∀(b:Bool),jg top b (E1++E2)=jg top b E1++jg top (l6 top b E1) E2:=by
 induction E1 with
|nil=>intro _;exact rfl
|cons _ r ih=>intro _;exact YH (_:: ·) (ih _)
theorem EI(top:Nat)(E2:List El)(E1:List El):∀(b:Bool),l6 top b (E1++E2)=l6 top (l6 top b E1) E2:=by
 induction E1 with
|nil=>intro _;exact rfl
|cons _ r ih=>intro _;exact ih _
theorem pW{n i:Nat}(h:i≤n):fG n (i:Nat)=i:=(Yg (YC.mpr (Zd i))).trans (Nat.min_eq_left h)
theorem rA{α:Type}{p m r:List α}{a b:Nat}(ha:a=p.length)(hb:b=p.length+m.length):gI (p++(m++r)) (some (a:Int)) (some (b:Int))=m:=by
 have z:b≤(p++(m++r)).length:=by rw[hb,Xl,Xl,<-XS];exact XH _ _
 have za:a≤b:=by rw[ha,hb];exact XH _ _
 refine(?_:((p++(m++r)).drop (fG _ a)).take (fG _ b-fG _ a)=m);rw[pW z,pW (Xk za z),hb,ha,Nat.add_sub_cancel_left,List.drop_left,List.take_left]
theorem dw{n:Nat}(h:n≤1000):cR 0 (n:Int) 1=some ((List.range n).map eI):=by let' i1:z8 (n:Int)=true:=Yc ⟨Yj (by decide) (Zd n),Yj (Yp.mpr h) (by decide)⟩;unfold cR;rw[(by decide:z8 0=true),i1,Yg (by decide),Yh rfl,Int.sub_zero,Yh (Yj (Yp.mpr h) (by decide))];exact YH some (List.map_congr_left fun k z=>YH PV.int (Int.zero_add _))
theorem Dh(L:List Int):∀(i:Nat),(List.range' i L.length).map eI=(en L i).map eP:=by
 induction L with
|nil=>intro _;exact rfl
|cons x r ih=>intro i;exact YH (_:: ·) (ih (i+1))
def cL(L:List Int):List PV:=(en L 0).map eP++[.int L.length]
theorem xJ{L:List Int}{p r:List Int}(e:L=p++r):cC (cL L) (p.length:Nat)=some (.int p.length):=by
 unfold cL;cases r with
|nil=>obtain rfl:L=p:=e.trans (Xu p);exact(YH (fun k:Nat=>cC _ (k:Int)) ((Xm _).trans (bX L 0)).symm).trans ((dz _ _).trans (by rw[List.getElem?_append_right (Xx _),Nat.sub_self];rfl))
|cons x r=>rw[e,hZ,Xz,XE,Xr];exact(YH (fun k:Nat=>cC _ (k:Int)) ((Xm _).trans (bX p 0)).symm).trans ((dz _ _).trans (by rw[List.getElem?_append_right (Xx _),Nat.sub_self];rfl))
section
variable{n:Nat}{t l:List (PV×PV)}{f:Nat×Nat×Nat}{el:Int->List El}{d:Dk}{L:List Int}
theorem EW{C:List PV}{i j:Nat}{s:St}{G:List PV}(hi:cC C i=some (.int i))(hj:cC C j=some (.int j)):JX C i j s G=some (.lst (gI G (some i) (some j)),s):=by unfold JX;rw[hi,hj];rfl
theorem J5(n:Nat){ws:List Wt}(hz:ws.length≤1000)(d:Dk):af (n+1) Ld [lW ws,.int 4] (g1 d)=some (bK (bp (iG ws)),g1 d):=Dg n hz d
theorem F9(T:bU t l f el)(N:bR t l)(hz:L.length≤100)(hs:∀y∈L,y∈sg){p r:List Int}{x:Int}(hL:L=p++x::r)(e:Ent)(P:List Pc)(hP:P.length<1000):
  ∃w,ai jE [5] (ac (n+14)) (eP (x,p.length)) (uC t l f (L.map .int) ((en L 0).map (eG el)) ((hB f el L).map eW) (cL L) (p.flatMap el).length) (s2 e (P.map eS) d)=some (.next,w,s2 e ((P++[(p.length,iG (jg (65535*f.1) (l6 (65535*f.1) false (p.flatMap el)) (el x)))]).map eS) d)∧
   aA (uC t l f (L.map .int) ((en L 0).map (eG el)) ((hB f el L).map eW) (cL L) (p.flatMap el).length) w=uC t l f (L.map .int) ((en L 0).map (eG el)) ((hB f el L).map eW) (cL L) ((p.flatMap el).length+(el x).length):=by
 have c1:cC (cL L) ((p.length+1:Nat))=some (.int ((p.length+1:Nat))):=by have:=xJ (bE hL);rw[Xl] at this;exact this
 have cg:gI ((en L 0).map (eG el)) (some ((p.length:Nat):Int)) (some ((p.length+1:Nat):Int))=[eG el (x,p.length)]:=by rw[hL,hZ,Xz,XE];exact rA (m:=[eG el (x,p.length)]) (by rw[Xm,bX]) (by rw[Xm,bX];rfl)
 have cw:gI ((hB f el L).map eW) (some ((p.flatMap el).length:Int)) (some (((p.flatMap el).length+(el x).length:Nat):Int))=(jg (65535*f.1) (l6 (65535*f.1) false (p.flatMap el)) (el x)).map eW:=by
  have e:hB f el L=jg (65535*f.1) false (p.flatMap el)++(jg (65535*f.1) (l6 (65535*f.1) false (p.flatMap el)) (el x)++jg (65535*f.1) (l6 (65535*f.1) (l6 (65535*f.1) false (p.flatMap el)) (el x)) (r.flatMap el)):=by unfold hB;rw[hL,List.flatMap_append,List.flatMap_cons,qH,qH]
  rw[e,XE,XE];exact rA (by rw[Xm,fu]) (by rw[Xm,Xm,fu,fu])
 let' h9:=‹ah jE [(5,true)] 0 (ac (n+14)) (uC t l f (L.map .int) ((en L 0).map (eG el)) ((hB f el L).map eW) (cL L) (p.flatMap el).length++[(121450625394034,eP (x,p.length))]) (s2 e (P.map eS) d)=(JX (cL L) (x,p.length).2 (((x,p.length).2+1:Nat)) (s2 e (P.map eS) d) ((en L 0).map (eG el))).bind fun z=>some (.next,uC t l f (L.map .int) ((en L 0).map (eG el)) ((hB f el L).map eW) (cL L) (p.flatMap el).length++[(121450625394034,eP (x,p.length)),(1885434484,z.1)],z.2)›.trans (aB (EW (xJ hL) c1));rw[cg] at h9;let' Ŗ:=‹ah jE [(5,true)] 1 (ac (n+14)) (Qu t l f (L.map .int) ((en L 0).map (eG el)) ((hB f el L).map eW) (cL L) (p.flatMap el).length el (x,p.length)) (s2 e (P.map eS) d)=some (.next,Qu t l f (L.map .int) ((en L 0).map (eG el)) ((hB f el L).map eW) (cL L) (p.flatMap el).length el (x,p.length)++[(1835101817,.int ((el (x,p.length).1).map eE).length)],s2 e (P.map eS) d)›
 rw[Xm] at Ŗ;let' ģ:=‹run jE [(5,true)] 3 (ac (n+14)) (Tm t l f (L.map .int) ((en L 0).map (eG el)) ((hB f el L).map eW) (cL L) (p.flatMap el).length el (x,p.length)) (s2 e (P.map eS) d)=ag (n+14) Ld [.lst (gI ((hB f el L).map eW) (some (p.flatMap el).length) (some (((p.flatMap el).length+(el (x,p.length).1).length:Nat)))),.int 4] (s2 e (P.map eS) d) fun r=>ag (n+14) UB [.int (x,p.length).2,.int (((x,p.length).2+1:Nat)),r.1] r.2 fun r=>(Zm r.2 (.loc 1) [r.1]).bind fun z=>some (.next,uC t l f (L.map .int) ((en L 0).map (eG el)) ((hB f el L).map eW) (cL L) ((p.flatMap el).length+(el (x,p.length).1).length)++[(121450625394034,eP (x,p.length)),(1885434484,.lst [eG el (x,p.length)]),(1835101817,.int (el (x,p.length).1).length),(123610792682867,.tup [.int (x,p.length).2,.int (((x,p.length).2+1:Nat))])],z.2)›
 rw[cw] at ģ;let' k2:=(ģ.trans (ad (ae (aJ (dC (ni _)) (aJ (bq _) am))) (J5 (n+13) (ws:=jg (65535*f.1) (l6 (65535*f.1) false (p.flatMap el)) (el x)) (by rw[fu];exact Xk (T.len x (hs x (hL▸YF _ (.head _))):(el x).length≤2) (by decide)) d))).trans (ad (ae (aJ (bq _) (aJ (bq _) (aJ (gt (bp (iG _))) am)))) (Ou (n+13) p.length _ d));exact⟨_,‹ai jE [5] (ac _) (eP _) (uC _ _ _ _ _ _ _ _) (s2 _ _ _)=run jE [(5,true)] 0 (ac _) (uC _ _ _ _ _ _ _ _++[(121450625394034,eP _)]) (s2 _ _ _)›.trans ((aa ‹aN jE [(5,true)] 0=true› h9).trans ((aa ‹aN jE [(5,true)] 1=true› Ŗ).trans ((aa ‹aN jE [(5,true)] 2=true› (Te ..)).trans ((fun s es=>(k2.trans (aB ((RQ (P.map eS) e d _).trans (gM (by rw[yv (by rw[Xm];exact hP)];rfl))))).trans (by rw[es,XE];rfl):∀s,s=s2 e ((P++[(p.length,iG (jg (65535*f.1) (l6 (65535*f.1) false (p.flatMap el)) (el x)))]).map eS) d->run jE [(5,true)] 3 (ac (n+14)) (Tm t l f (L.map .int) ((en L 0).map (eG el)) ((hB f el L).map eW) (cL L) (p.flatMap el).length el (x,p.length)) (s2 e (P.map eS) d)=some (.next,uC t l f (L.map .int) ((en L 0).map (eG el)) ((hB f el L).map eW) (cL L) ((p.flatMap el).length+(el x).length)++[(121450625394034,eP (x,p.length)),(1885434484,.lst [eG el (x,p.length)]),(1835101817,.int (el x).length),(123610792682867,.tup [.int p.length,.int ((p.length+1:Nat))])],s)) _ rfl)))),rfl⟩
theorem Ap(top:Nat)(el:Int->List El)(L:List Int):∀(i a:Nat) (b:Bool) (P:List Pc),∃o,(en L i).foldl (fun(z:(Bool×Nat)×List Pc) y=>((l6 top z.1.1 (el y.1),z.1.2+(el y.1).length),z.2++[(y.2,iG (jg top z.1.1 (el y.1)))])) ((b,a),P)=(o,P++zO top el b L i):=by
 induction L with
|nil=>intro i a b P;exact⟨_,YH (_,·) (Xu P).symm⟩
|cons x r ih=>intro i a b P;exact(ih (i+1) (a+(el x).length) (l6 top b (el x)) (P++[(i,iG (jg top b (el x)))])).imp fun w h=>h.trans (by rw[Xr];rfl)
theorem KR(F:List PV)(d:Dk):fi (s1 F d) (.loc 0)=if aj F=true then some (PV.lst F,⟨[⟨.lst F,.ZG⟩],g1 d⟩) else none:=by rfl'
theorem wi{s:St}{A B:List PV}(h:A.length+B.length≤1000):fP s .frozen .Add (.lst A) (.lst B)=some (.lst (A++B),s):=‹fP s .frozen .Add (.lst A) (.lst B)=(if aq (A++B)=true then some (A++B) else none).bind fun l=>some (.lst l,s)›.trans (aB (gM (RN h)))
theorem Ik(T:bU t l f el)(N:bR t l)(hz:L.length≤100)(hs:∀y∈L,y∈sg):af (n+15) Q3 [.lst (L.map .int),bw t l f,D0,.int 4,hS] (g1 d)=some (lS (zO (65535*f.1) el false L 0),g1 d):=by
 let' h1:=‹ah jE [] 0 (ac (n+14)) (vP t l f (L.map .int)) (s0 d)=ag (n+14) QP [bw t l f,.lst (L.map .int),D0] (s0 d) fun r=>some (.next,vP t l f (L.map .int)++[(113741193900147,r.1)],r.2)›.trans (ad (ae (aJ N.nl (aJ (dC (fK L)) (aJ cK am)))) (Iv (n:=n) (d:=d) T N (Xk hz (by decide)) hs));have f1:=bV (f:=ai jE [2] (ac (n+14))) (g:=eG el) (V:=fun _:List El=>Fb t l f (L.map .int) ((en L 0).map (eG el))) (S:=fun b=>s1 (b.map eE) d) (step:=fun b y=>b++el y.1) (fun b r=>b.length+2*r.length≤1000∧∀y∈r,y.1∈sg)
  (fun b x r h=>by
   let' h1:=h.1;rw[XG,Nat.mul_add] at h1;let' h3:b.length+(el x.1).length+2*r.length≤1000:=Xk (by rw[XS,XZ (el x.1).length];exact XA (XA (T.len _ (h.2 x (.head _))) _) _) h1;refine⟨⟨(Xl)▸(h3),fun y hy=>h.2 y (.tail _ hy)⟩,Fb t l f (L.map .int) ((en L 0).map (eG el))++[(1936682341,lE (el x.1)),(439855772532,.int x.2),(108187682958948,.int ((x.2+1:Nat)))],‹_=SB (b.map eE) ((el x.1).map eE) d fun z=>some (.next,Fb t l f (L.map .int) ((en L 0).map (eG el))++[(1936682341,lE (el x.1)),(439855772532,.int x.2),(108187682958948,.int ((x.2+1:Nat)))],z.2)›.trans ((BC (by rw[Xm,Xm];exact Xk (XH _ _) h3)).trans ?_),rfl⟩
   rw[XE])
  (en L 0) [] ⟨by rw[bX];exact Xk (XY (Xz _)) (Xk (Nat.mul_le_mul_left 2 hz) (by decide)),rD L 0 hs⟩
 rw[wS,List.nil_append] at f1;let' z:=mN T hz hs;have oe:jJ (s1 ((L.flatMap el).map eE) d) [.loc 0,hS,.int f.1]=some ([lE (L.flatMap el),hS,.int f.1],⟨[⟨.lst ((L.flatMap el).map eE),.ZG⟩],g1 d⟩):=
  pO ((KR ..).trans (gM (oY _))) (ae (aJ xn (aJ (bq _) am)))
 let' h5:=‹ah jE [] 3 (ac (n+14)) (Fb t l f (L.map .int) ((en L 0).map (eG el))) (s1 ((L.flatMap el).map eE) d)=ag (n+14) Ea [.loc 0,hS,.int f.1] (s1 ((L.flatMap el).map eE) d) fun r=>some (.next,Fb t l f (L.map .int) ((en L 0).map (eG el))++[(33607025609438323,r.1),(24948,.int 0),(123597974889843,.loc r.2.l.length)],⟨r.2.l++[⟨.lst [],.mut⟩],r.2.g⟩)›.trans (ad oe (AR (n+12) f.1 z d));let' h6:=‹ah jE [] 4 (ac (n+14)) (RP t l f (L.map .int) ((en L 0).map (eG el)) ((hB f el L).map eW) (0:Nat)) (s2 ⟨.lst ((L.flatMap el).map eE),.ZG⟩ [] d)=ag (n+14) TB [.lst ((en L 0).map (eG el))] (s2 ⟨.lst ((L.flatMap el).map eE),.ZG⟩ [] d) fun r=>(fP r.2 .frozen .Add r.1 (.lst [.int ((en L 0).map (eG el)).length])).bind fun y=>some (.next,RP t l f (L.map .int) ((en L 0).map (eG el)) ((hB f el L).map eW) (0:Nat)++[(1668641907,y.1)],y.2)›.trans ((ad (ae (aJ (dC (bl (OL el) _)) am)) (N5 (n+13) el (Xk hz (by decide)) d)).trans (aB (v:=(PV.lst (cL L),s2 ⟨.lst ((L.flatMap el).map eE),.ZG⟩ [] d)) ((wi (A:=(en L 0).map eP) (B:=[.int ((en L 0).map (eG el)).length]) (by rw[Xm,bX];exact Xk (XJ hz 1) (by decide))).trans (by rw[Xm,bX];rfl))))
 have f2:=bV (f:=ai jE [5] (ac (n+14))) (g:=eP) (V:=fun z:(Bool×Nat)×List Pc=>uC t l f (L.map .int) ((en L 0).map (eG el)) ((hB f el L).map eW) (cL L) z.1.2) (S:=fun z=>s2 ⟨.lst ((L.flatMap el).map eE),.ZG⟩ (z.2.map eS) d) (step:=fun z y=>((l6 (65535*f.1) z.1.1 (el y.1),z.1.2+(el y.1).length),z.2++[(y.2,iG (jg (65535*f.1) z.1.1 (el y.1)))])) (fun z r=>z.2.length+r.length≤1000∧∃p l,L=p++l∧r=en l p.length∧z.1=(l6 (65535*f.1) false (p.flatMap el),(p.flatMap el).length))
  (fun z y r h=>by
   obtain⟨h1,p,l,e1,e2,e3⟩:=h;cases l with
   |nil=>injection e2
   |cons x l=>
    injection e2 with e2 e4
    subst e2;obtain⟨z1,P⟩:=z;obtain rfl:z1=_:=e3;refine⟨⟨gV h1,p++[x],l,bE e1,by rw[Xl];exact e4,?_⟩,F9 T N hz hs e1 _ P (fv h1)⟩;rw[List.flatMap_append,EI,Xl,List.flatMap_cons,List.flatMap_nil,Xu])
  (en L 0) ((false,0),[]) ⟨(by rw[bX,Xz];exact Xk hz (by decide):0+(en L 0).length≤1000),[],L,rfl,rfl,rfl⟩
 obtain⟨o,e2⟩:=Ap (65535*f.1) el L 0 0 false [];rw[e2] at f2;have cl:((cL L).length:Int)-1=L.length:=by unfold cL;rw[Xl,Xm,bX];exact Int.add_sub_cancel (L.length:Int) 1
 exact ao ‹i5 jE Q3=true› ‹bf jE [.lst _,bw _ _ _,D0,.int 4,hS]=some (vP _ _ _ _)› ((aa Np h1).trans ((aa NM (VJ ..)).trans ((aa MC (‹ah jE [] 2 (ac (n+14)) (Fb t l f (L.map .int) ((en L 0).map (eG el))) (s1 [] d)=gC ((en L 0).map (eG el)) (Fb t l f (L.map .int) ((en L 0).map (eG el))) (s1 [] d) (ai jE [2] (ac (n+14)))›.trans (bJ f1))).trans ((aa PL h5).trans ((aa MH h6).trans ((aa M0 (‹ah jE [] 5 (ac (n+14)) (uC t l f (L.map .int) ((en L 0).map (eG el)) ((hB f el L).map eW) (cL L) (0:Nat)) (s2 ⟨.lst ((L.flatMap el).map eE),.ZG⟩ [] d)=(cR 0 (((cL L).length:Int)-1) 1).bind fun q=>gC q (uC t l f (L.map .int) ((en L 0).map (eG el)) ((hB f el L).map eW) (cL L) (0:Nat)) (s2 ⟨.lst ((L.flatMap el).map eE),.ZG⟩ [] d) (ai jE [5] (ac (n+14)))›.trans ((aB (by rw[cl,dw (Xk hz (by decide)),Zh,Dh])).trans (bJ f2)))).trans ((Tz ..).trans (tB (bl tX _))))))))) rfl (ak _)
end
section
variable{α:Type}{f:α->PV}
theorem jM[DecidableEq α](h:∀x y,oH (f x) (f y)=decide (x=y)):∀a b:List α,o9 (a.map f) (b.map f)=decide (a=b)
|[],[]=>rfl
|[],_::_=>rfl
|_::_,[]=>rfl
|x::a,y::b=>by
  refine(?_:(oH (f x) (f y)&&o9 (a.map f) (b.map f))=_);rw[h,jM h a b];by_cases e:x=y
  ·subst e;rw[Yc rfl,Bool.true_and];exact Y6.mpr ⟨fun h=>h▸rfl,fun h=>List.tail_eq_of_cons_eq h⟩
  ·rw[Yd e,Bool.false_and];exact(Yd fun h=>e (List.head_eq_of_cons_eq h)).symm
theorem d9{n:Nat}(h:∀x,fD (f x) n=true):∀a:List α,gv (a.map f) n=true:=by
 intro a;induction a with
|nil=>exact rfl
|cons x a ih=>exact(Xp _ _).mpr ⟨h x,ih⟩
end
theorem sj(x y:Nat):oH (eI x) (eI y)=decide (x=y):=by refine(?_:((x:Int)==(y:Int))=_);exact Y6.mpr Int.ofNat_inj
theorem H1(a b:List Nat):oH (eN a) (eN b)=decide (a=b):=jM sj a b
theorem KP(a b:List (List Nat)):oH (bK a) (bK b)=decide (a=b):=jM H1 a b
theorem wy(a:List Nat)(n:Nat):fD (eN a) (n+1)=true:=d9 (n:=n) (fun z=>rfl) a
theorem xq(a:List (List Nat))(n:Nat):fD (bK a) (n+2)=true:=d9 (n:=n+1) (fun x=>wy x n) a
theorem yR{s:St}{a b:PV}(ha:fD a 8=true)(hb:fD b 8=true)(pa:l8 s a=some a)(pb:l8 s b=some b):aM s .Eq a b=some (oH a b):=by refine(?_:Jz s a b=_);unfold Jz;rw[pa,pb];exact Yh ((Xp _ _).mpr ⟨ha,hb⟩)
theorem ta{s:St}{a b:PV}{c:Bool}(h:aM s .Eq a b=some c):aM s .NotEq a b=some (!c):=by refine(?_:(Jz s a b).bind _=_);rw[show Jz s a b=some c from h];rfl
theorem Ko(s:St)(a b:List Nat):aM s .Eq (eN a) (eN b)=some (decide (a=b)):=(yR (wy a 7) (wy b 7) rfl rfl).trans (YH some (H1 a b))
theorem tE(s:St)(a b:List (List Nat)):aM s .Eq (bK a) (bK b)=some (decide (a=b)):=(yR (xq a 6) (xq b 6) rfl rfl).trans (YH some (KP a b))
def S4:Nat:=(fI 100819599619505643086766949 29681726181895269)
def QB:Nat:=54
def Kt{α:Type}(c:Option Bool)(s:St)(A B:St->Option α):Option α:=((c.bind fun c=>some (c,s)).bind fun x=>if x.1=true then some (true,x.2) else some (false,x.2)).bind fun b=>if b.1=true then A b.2 else B b.2
theorem xz{α:Type}{c:Option Bool}{b:Bool}{s:St}{A B:St->Option α}(h:c=some b):Kt c s A B=if b=true then A s else B s:=by rw[h];cases b<;>rfl
def dj(q:Q4):Bool:=decide ((bp q).filter (fun l=>!decide (l=[]))=[])
section
variable(n:Nat)(x:Pc)(l:List Nat)(d:Dk)
theorem W1(acc:List PV)(s:St):aH QB [0] [0] (ac n) [(1936026726,eS x)] (eN l) acc s=Kt (aM s .NotEq (eN l) (.lst [])) s (fun s=>if aq (acc++[eN l])=true then some (acc++[eN l],s) else none) fun s=>some (acc,s):=by rfl'
end
theorem H0(n:Nat)(x:Pc)(d:Dk):af (n+1) S4 [eS x] (g1 d)=some (.bool (dj x.2),g1 d):=by
 let' c:=(hJ (f:=aH QB [0] [0] (ac n) [(1936026726,eS x)]) (g:=eN) (o:=eN) (p:=fun l=>!decide (l=[])) (s:=s0 d) (l:=bp x.2) (acc:=[]) (show 0+4≤1000 by decide) fun l z acc=>(W1 n x l acc _).trans (xz (ta (Ko (s0 d) l []))))
 exact ao (by rfl') (by rfl') (‹run QB [] 0 (ac n) [(1936026726,eS x)] (s0 d)=(((ar (aH QB [0] [0] (ac n) [(1936026726,eS x)]) ((bp x.2).map eN) [] (s0 d)).bind fun y=>some (y.1,aO y.2 none)).bind fun y=>some (PV.lst y.1,y.2)).bind fun y=>(aM y.2 .Eq y.1 (.lst [])).bind fun c=>some (.ret (.bool c),[(1936026726,eS x)],y.2)›.trans ((aB (b9 c)).trans (aB (tE (s0 d) ((bp x.2).filter fun l=>!decide (l=[])) [])))) rfl (ak _)
def T6:Nat:=9142614481120384842755901845107
def Xd:Nat:=60
noncomputable def bv(a b:List Nat):Bool:=decide (b.take a.length=a)
theorem tK{α:Type}(b:List α)(k:Nat):gI b none (some (k:Int))=b.take k:=by refine(?_:(b.drop 0).take (fG b.length k-0)=_);rw[List.drop_zero,Nat.sub_zero];refine Eq.trans (YH (b.take ·) ((Yg (YC.mpr (Zd k))).trans (YH (min · _) (Ze k)))) ?_;rw[<-List.take_take,List.take_length]
theorem MQ(n:Nat)(a b:List Nat)(d:Dk):af (n+1) T6 [eN a,eN b] (g1 d)=some (.bool (bv a b),g1 d):=by
 have e:aM (s0 d) .Eq (.lst (gI (b.map eI) none (some (a.map eI).length))) (eN a)=some (bv a b):=by rw[tK,Xm,<-List.map_take];exact Ko (s0 d) (b.take a.length) a
 exact ao (by rfl') (by rfl') (‹run Xd [] 0 (ac n) [(1885434484,.lst (a.map eI)),(512853240933,.lst (b.map eI))] (s0 d)=(aM (s0 d) .Eq (.lst (gI (b.map eI) none (some ((a.map eI).length:Nat)))) (.lst (a.map eI))).bind fun c=>some (.ret (.bool c),[(1885434484,.lst (a.map eI)),(512853240933,.lst (b.map eI))],s0 d)›.trans (aB e)) rfl (ak _)
def oq{β:Type}(n:Nat)(y:PV)(a:Nat)(s:St)(K:PV×St->Option β):Option β:=(ge s y).bind fun z=>if((ac n).M z.1 a).isNone=true then(aQ z.2 a).bind fun v=>K (v,s) else none
theorem ye{β:Type}(n:Nat)(x:Pc)(s:St)(K:PV×St->Option β):oq n (eS x) 119183033855091 s K=K (bK (bp x.2),s):=by rfl'
theorem Ax{β:Type}(n:Nat)(x:Pc)(s:St)(K:PV×St->Option β):oq n (eS x) 439855772532 s K=K (.int x.1,s):=by rfl'
theorem yr{β:Type}(n:Nat)(x:Pc)(s:St)(K:PV×St->Option β):oq n (eS x) 108187682958948 s K=K (.int ((x.1+1:Nat)),s):=by rfl'
def Sv(v:PV)(s:St)(V:YA)(f:PV->YA->St->Option R3):Option R3:=(cN s v).bind fun l=>(au f (fN 0 l) V (aK s v).1).bind fun z=>some (z.1,z.2.1,aO z.2.2 (aK s v).2)
noncomputable def aR(a m:Q4):Q4:=(a.1++m.1,a.2.1++m.2.1,a.2.2.1++m.2.2.1,a.2.2.2++m.2.2.2)
def TN:Nat:=2340509307166818524547125328765800
def i6:Nat:=61
def s4(q:Q4)(d:Dk):St:=s1 ((bp q).map eN) d
section
variable(n:Nat)(P A:List PV)(k i:Nat)(x:Pc)(q w m:Q4)(a l:List Nat)(d:Dk)
def KZ:YA:=[(123597974889843,.lst P),(495873782388,.int i),(131260348654948,bK (bp w))]
def Ef:YA:=KZ P i w++[(119183033855091,.loc 0)]
def oZ:YA:=Ef P i w++[(121450625394034,.int k)]
theorem NJ:bf i6 [.lst P,.int i,bK (bp w)]=some (KZ P i w):=by rfl'
theorem Cm:run i6 [(0,true)] 0 (ac n) (KZ P i w) (s0 d)=some (.ret .none,KZ P i w,s0 d):=by rfl'
def S6(y:R3):Option R3:=match y.1 with
|.next=>some (.next,y.2.1,y.2.2)
|z=>some y
def QM(y:List Nat×Nat):PV:=.tup [.int y.2,eN y.1]
def sT(q:Q4)(d:Dk):St:=⟨[⟨.lst ((bp q).map eN),.Zw⟩],g1 d⟩
theorem Rk(s:St):run i6 [] 3 (ac n) (Ef P i w) s=some (.ret .none,Ef P i w,s):=by rfl'
end
def bP(q:Q4)(k:Nat):Prop:=q.1.length≤k∧q.2.1.length≤k∧q.2.2.1.length≤k∧q.2.2.2.length≤k
theorem p0{q m:Q4}{a b:Nat}(h:bP q a)(k:bP m b):bP (aR q m) (a+b):=
 ⟨by rw[aR,Xl];exact XR h.1 k.1,by rw[aR,Xl];exact XR h.2 k.2,by rw[aR,Xl];exact XR h.3 k.3,by rw[aR,Xl];exact XR h.4 k.4⟩
section
variable{n:Nat}{P:List PV}{k i:Nat}{w:Q4}{d:Dk}
theorem qz{A:List PV}{a l:List Nat}{j:Nat}(ha:A[j]?=some (eN a))(hz:a.length+l.length≤1000):∃v,ai i6 [2,0] (ac n) (QM (l,j)) (oZ P k i w) (s1 A d)=some (.next,v,s1 (A.set j (eN (a++l))) d)∧aA (oZ P k i w) v=oZ P k i w:=by
 let' e1:=wi (s:=s1 A d) (A:=a.map eI) (B:=l.map eI) (by rw[Xm,Xm];exact hz);rw[<-XE] at e1;exact⟨oZ P k i w++[(24948,.int j),(1836020325,eN l)],‹_=(cC A j).bind fun y=>(fP (s1 A d) .frozen .Add y (eN l)).bind fun z=>((nY z.2 (.loc 0) (.int j) z.1).bind fun s=>some (Fl.next,oZ P k i w++[(24948,.int j),(1836020325,eN l)],s)).bind S6›.trans ((aB ((dz A j).trans ha)).trans ((aB e1).trans (aB (v:=(Fl.next,oZ P k i w++[(24948,.int j),(1836020325,eN l)],s1 (A.set j (eN (a++l))) d)) (aB (‹nY (s1 A d) (.loc 0) (.int (j:Nat)) (eN (a++l))=if(decide (0≤(j:Int)∧(j:Int)<A.length)&&true)=true then some (s1 (A.set j (eN (a++l))) d) else none›.trans (gM (by rw[Yc ⟨Zd _,Yo.mpr ((XO.mp ha).1:j<A.length)⟩];rfl))))))),rfl⟩
theorem FZ{q m:Q4}(hq:bP q 500)(hm:bP m 500):au (ai i6 [2,0] (ac n)) (fN 0 ((bp m).map eN)) (oZ P k i w) (s4 q d)=some (.next,oZ P k i w,s4 (aR q m) d):=by obtain⟨_,e0,r0⟩:=qz (A:=(bp q).map eN) (a:=q.1) (l:=m.1) (j:=0) rfl (XR hq.1 hm.1);obtain⟨_,e1,r1⟩:=qz (A:=[eN (q.1++m.1),eN q.2.1,eN q.2.2.1,eN q.2.2.2]) (a:=q.2.1) (l:=m.2.1) (j:=1) rfl (XR hq.2 hm.2);obtain⟨_,e2,r2⟩:=qz (A:=[eN (q.1++m.1),eN (q.2.1++m.2.1),eN q.2.2.1,eN q.2.2.2]) (a:=q.2.2.1) (l:=m.2.2.1) (j:=2) rfl (XR hq.3 hm.3);obtain⟨_,e3,r3⟩:=qz (A:=[eN (q.1++m.1),eN (q.2.1++m.2.1),eN (q.2.2.1++m.2.2.1),eN q.2.2.2]) (a:=q.2.2.2) (l:=m.2.2.2) (j:=3) rfl (XR hq.4 hm.4);exact(be e0 r0).trans ((be e1 r1).trans ((be e2 r2).trans (be e3 r3)))
theorem bQ{f:PV->List PV->St->Option (List PV×St)}{x v:PV}{l acc:List PV}{s:St}(h:f x acc s=if aq (acc++[v])=true then some (acc++[v],s) else none)(hz:acc.length<1000):ar f (x::l) acc s=ar f l (acc++[v]) s:=aB (h.trans (gM (yv hz)))
def oM(a w:Q4):Bool:=bv a.1 w.1&&(bv a.2.1 w.2.1&&(bv a.2.2.1 w.2.2.1&&bv a.2.2.2 w.2.2.2))
theorem JO(q:Q4):bn i6 [(2,true)] 2 (ac (n+1)) (oZ P k i w) (s4 q d)=some (!oM q w,s4 q d):=by
 have t:∀(a b:List Nat) (j:Nat) (acc:List PV),cC ((bp w).map eN) (j:Nat)=some (eN b)->aH i6 [2,2] [0,1] (ac (n+1)) (oZ P k i w) (QM (a,j)) acc (sT q d)=if aq (acc++[.bool (bv a b)])=true then some (acc++[.bool (bv a b)],sT q d) else none:=fun a b j acc h=>
  ‹_=((cC ((bp w).map eN) j).bind fun y=>ag (n+1) T6 [eN a,y] (sT q d) fun r=>some r).bind fun r=>if aq (acc++[r.1])=true then some (acc++[r.1],r.2) else none›.trans (aB (v:=(PV.bool (bv a b),sT q d)) ((aB h).trans (ad (ae (aJ (q8 a) (aJ (q8 b) am))) (MQ n a b d))))
 have c:ar (aH i6 [2,2] [0,1] (ac (n+1)) (oZ P k i w)) ([(q.1,0),(q.2.1,1),(q.2.2.1,2),(q.2.2.2,3)].map QM) [] (sT q d)=some ([.bool (bv q.1 w.1),.bool (bv q.2.1 w.2.1),.bool (bv q.2.2.1 w.2.2.1),.bool (bv q.2.2.2 w.2.2.2)],sT q d):=
  (bQ (t q.1 w.1 0 [] rfl) (by decide:0<1000)).trans ((bQ (t q.2.1 w.2.1 1 [.bool (bv q.1 w.1)] rfl) (by decide:1<1000)).trans ((bQ (t q.2.2.1 w.2.2.1 2 [.bool (bv q.1 w.1),.bool (bv q.2.1 w.2.1)] rfl) (by decide:2<1000)).trans (bQ (t q.2.2.2 w.2.2.2 3 [.bool (bv q.1 w.1),.bool (bv q.2.1 w.2.1),.bool (bv q.2.2.1 w.2.2.1)] rfl) (by decide:3<1000))))
 refine‹_=(((ar (aH i6 [2,2] [0,1] (ac (n+1)) (oZ P k i w)) ([(q.1,0),(q.2.1,1),(q.2.2.1,2),(q.2.2.2,3)].map QM) [] (sT q d)).bind fun y=>some (y.1,aO y.2 (some (.loc 0)))).bind fun y=>some (PV.lst y.1,y.2)).bind fun y=>(K4 y.2 .frozen [y.1]).bind fun z=>(cX z.1).bind fun b=>some (!b,z.2)›.trans ((aB (b9 c)).trans ?_);show some (!(bv q.1 w.1&&(bv q.2.1 w.2.1&&(bv q.2.2.1 w.2.2.1&&(bv q.2.2.2 w.2.2.2&&true)))),_)=_;rw[Bool.and_true];rfl
noncomputable def iR(w:Q4):Q4->List Pc->Option Nat
|_,[]=>none
|a,x::r=>if aR a x.2=w then some (x.1+1) else if oM (aR a x.2) w=true then iR w (aR a x.2) r else none
noncomputable def BT(i:Nat):Option Nat->PV
|some e=>.tup [.int i,.int e]
|none=>.none
theorem rj{a b:Q4}:bp a=bp b↔a=b:=⟨fun h=>by
 obtain⟨a1,a2,a3,a4⟩:=a;obtain⟨b1,b2,b3,b4⟩:=b;injection h with h1 h;injection h with h2 h;injection h with h3 h;injection h with h4 h
 subst h1;subst h2;subst h3;subst h4;rfl,fun h=>h▸rfl⟩
theorem MK:aN i6 [(2,true)] 1=true:=by rfl'
theorem M5:aN i6 [(2,true)] 2=true:=by rfl'
theorem HG:kK i6 [(2,true)] 1=true:=by rfl'
theorem Ip:kK i6 [(2,true)] 2=true:=by rfl'
theorem MU{α β:Type}{f:α->β}{P:List α}{p r:List α}{x:α}(e:P=p++x::r):cC (P.map f) (p.length:Nat)=some (f x):=bS e
theorem Fp{Q p r:List Pc}{x:Pc}(hQ:Q=p++x::r)(hx:x.1=p.length){q:Q4}(hq:bP q 500)(hm:bP x.2 500):ai i6 [2] (ac (n+1)) (eI p.length) (Ef (Q.map eS) i w) (s4 q d)=
  if aR q x.2=w then some (.ret (BT i (some (x.1+1))),oZ (Q.map eS) p.length i w,s4 (aR q x.2) d) else if oM (aR q x.2) w=true then some (.next,oZ (Q.map eS) p.length i w,s4 (aR q x.2) d) else some (.ret .none,oZ (Q.map eS) p.length i w,s4 (aR q x.2) d):=by
 have h7:ah i6 [(2,true)] 0 (ac (n+1)) (oZ (Q.map eS) p.length i w) (s4 q d)=some (.next,oZ (Q.map eS) p.length i w,s4 (aR q x.2) d):=
  ‹_=(cC (Q.map eS) p.length).bind fun y=>oq (n+1) y 119183033855091 (s4 q d) fun v=>Sv v.1 v.2 (oZ (Q.map eS) p.length i w) (ai i6 [2,0] (ac (n+1)))›.trans ((aB (MU hQ)).trans ((ye (n+1) x (s4 q d) _).trans (aB (v:=(Fl.next,oZ (Q.map eS) p.length i w,s4 (aR q x.2) d)) (FZ hq hm))))
 have h9:bn i6 [(2,true)] 1 (ac (n+1)) (oZ (Q.map eS) p.length i w) (s4 (aR q x.2) d)=some (decide (aR q x.2=w),s4 (aR q x.2) d):=
  ‹_=(aM (s4 (aR q x.2) d) .Eq (.loc 0) (bK (bp w))).bind fun c=>some (c,s4 (aR q x.2) d)›.trans (aB ((show aM (s4 (aR q x.2) d) .Eq (.loc 0) (bK (bp w))=aM (s4 (aR q x.2) d) .Eq (bK (bp (aR q x.2))) (bK (bp w)) by rfl').trans ((tE _ _ _).trans (YH some (Y6.mpr rj)))))
 refine‹_=run i6 [(2,true)] 0 (ac _) (oZ _ _ _ _) (s4 _ _)›.trans ((aa (by rfl') h7).trans ?_);by_cases e:aR q x.2=w
 ·rw[Yc e] at h9;rw[Yh e,hx];exact dG MK ((bg HG h9).trans (by rfl'))
 ·rw[Yd e] at h9;rw[Yg e];refine(aa MK ((bg HG h9).trans (YI (YI (YI ‹run i6 [(2,true),(1,false)] 0=fun C vs s=>some (.next,vs,s)› _) _) _))).trans ?_;let' Ĥ:=JO (n:=n) (P:=Q.map eS) (k:=p.length) (i:=i) (w:=w) (d:=d) (aR q x.2);by_cases e2:oM (aR q x.2) w=true
  ·rw[Yh e2];rw[e2] at Ĥ;exact(aa M5 ((bg Ip Ĥ).trans (YI (YI (YI ‹run i6 [(2,true),(2,false)] 0=fun C vs s=>some (.next,vs,s)› _) _) _))).trans (YI (YI (YI ‹run i6 [(2,true)] 3=fun C vs s=>some (.next,vs,s)› _) _) _)
  ·rw[Yg e2];rw[Bool.eq_false_iff.mpr e2] at Ĥ;exact dG M5 ((bg Ip Ĥ).trans (by rfl'))
noncomputable def bL:List Pc->Nat->Prop
|[],_=>True
|x::r,i=>x.1=i∧bL r (i+1)
theorem Gz{Q:List Pc}(hs:∀x∈Q,bP x.2 2)(r:List Pc):∀(p:List Pc) (q:Q4) (c:Nat),Q=p++r->bL r p.length->bP q c->c+2*r.length≤500->∃y s',au (ai i6 [2] (ac (n+1))) ((List.range' p.length r.length).map eI) (Ef (Q.map eS) i w) (s4 q d)=some (y,Ef (Q.map eS) i w,s')∧s'.g=g1 d∧mU y=some (BT i (iR w q r))∧(y=.next∨∃v,y=.ret v):=by
 induction r with
|nil=>intro _ q _ _ _ _ _;exact⟨.next,s4 q d,rfl,rfl,rfl,.inl rfl⟩
|cons x r ih=>
  intro p q c h hp hq hc;rw[XG,Nat.mul_add] at hc;have hc':c+2+2*r.length≤500:=by rw[XS,XZ 2];exact hc
  have lc:=Xk (XH _ _) hc';have sm:∀{q:Q4}{a b:Nat},bP q a->a≤b->bP q b:=fun h k=>⟨Xk h.1 k,Xk h.2 k,Xk h.3 k,Xk h.4 k⟩
  have hx:=hs x (h▸YF _ (.head _));have t:=Fp (n:=n) (i:=i) (w:=w) (d:=d) h hp.1 (sm hq (Xk (XH _ _) lc)) (sm hx (by decide));refine(?_:∃y s',au _ (eI p.length::(List.range' (p.length+1) r.length).map eI) _ _=_∧_∧_∧_);unfold iR;by_cases e:aR q x.2=w
  ·rw[Yh e] at t ⊢;exact⟨_,_,mF t,rfl,rfl,.inr ⟨_,rfl⟩⟩
  ·rw[Yg e] at t ⊢;by_cases e2:oM (aR q x.2) w=true
   ·rw[Yh e2] at t ⊢;obtain⟨y,s',f,ga,gb,gc⟩:=ih (p++[x]) (aR q x.2) (c+2) (bE h) ((Xl)▸(hp.2)) (p0 hq hx) hc';rw[Xl] at f;exact⟨y,s',(be t rfl).trans f,ga,gb,gc⟩
   ·rw[Yg e2] at t ⊢;exact⟨_,_,mF t,rfl,rfl,.inr ⟨_,rfl⟩⟩
theorem yn{n k:Nat}{A:List PV}{s:St}{b:Bool}{g:List Ent}(h:aj A=true)(hr:af n k A s.g=some (.bool b,g)):ag n k A s (fun r=>(cX r.1).bind fun b=>some (b,r.2))=some (b,⟨s.l,g⟩):=ad (ae h) hr
theorem Jw:i5 i6 TN=true:=by rfl'
theorem Hw:aN i6 [] 0=true:=by rfl'
theorem Cw:kK i6 [] 0=true:=by rfl'
theorem Iz:aN i6 [] 2=true:=by rfl'
def OM(w:Q4)(i:Nat):List Pc->PV
|[]=>.none
|x::r=>if dj x.2=true then .none else BT i (iR w ([],[],[],[]) (x::r))
theorem pL{i m:Nat}(h:i+m≤1000):cR (i:Int) ((i+m:Nat)) 1=some ((List.range' i m).map eI):=by
 let' il:∀k:Nat,k≤1000->z8 (k:Int)=true:=(fun k h=>Yc ⟨Yj (by decide) (Zd k),Yj (Yp.mpr h) (by decide)⟩)
 let' e:((i+m:Nat):Int)-(i:Int)=m:=(YH (·-(i:Int)) (Zf (i:Int) m)).trans (Int.add_sub_cancel (m:Int) i);unfold cR;rw[il i (Xk (XH _ _) h),il _ h,Yg (by decide),Yh rfl,e,Yh (Yj (Yp.mpr (Xk (YK _ _) h)) (by decide)),Ze,List.range'_eq_map_range,YW];rfl
theorem MJ{Q p r:List Pc}{x:Pc}(hs:∀x∈Q,bP x.2 2)(hQ:Q=p++x::r)(hp:bL (x::r) p.length)(hz:Q.length≤100):af (n+3) TN [lS Q,.int p.length,bK (bp w)] (g1 d)=some (OM w p.length (x::r),g1 d):=by
 have t1:bn i6 [] 0 (ac (n+2)) (KZ (Q.map eS) p.length w) (s0 d)=some (dj x.2,s0 d):=
  ‹_=(cC (Q.map eS) p.length).bind fun y=>bn i6 [] 0 (ac (n+2)) (KZ [y] 0 w) (s0 d)›.trans ((aB (MU hQ)).trans (‹_=ag (n+2) S4 [eS x] (s0 d) fun r=>(cX r.1).bind fun b=>some (b,r.2)›.trans (yn (aJ (tX x) am) (H0 (n+1) x d))))
 refine(?_:_=some (if dj x.2=true then _ else _,_));cases q:dj x.2 with
|true=>rw[q] at t1;exact ao Jw (NJ ..) (dG Hw ((bg Cw t1).trans (Cm ..))) rfl (ak _)
|false=>
  rw[q] at t1;have zl:Q.length=p.length+(x::r).length:=by rw[hQ,Xl]
  have hc:0+2*(x::r).length≤500:=by rw[Xz];exact Xk (Nat.mul_le_mul_left 2 (Xk (YK _ _) (zl▸hz))) (by decide)
  obtain⟨y,s',f,hg,hy,hf⟩:=Gz (n:=n+1) (i:=p.length) hs (x::r) p ([],[],[],[]) 0 hQ hp ⟨Xx _,Xx _,Xx _,Xx _⟩ hc;have h5:=‹ah i6 [] 2 (ac (n+2)) (Ef (Q.map eS) p.length w) (s4 ([],[],[],[]) d)=(cR (p.length:Int) (Q.map eS).length 1).bind fun l=>gC l (Ef (Q.map eS) p.length w) (s4 ([],[],[],[]) d) (ai i6 [2] (ac (n+2)))›.trans ((aB (by rw[Xm,zl];exact pL (by exact(zl)▸Xk hz (by decide)))).trans (bJ f));have h0:=(aa Hw ((bg Cw t1).trans (YI (YI (YI ‹run i6 [(0,false)] 0=fun C vs s=>some (.next,vs,s)› _) _) _))).trans (aa (by rfl') ‹ah i6 [] 1 (ac (n+2)) (KZ (Q.map eS) p.length w) (s0 d)=some (.next,Ef (Q.map eS) p.length w,s4 ([],[],[],[]) d)›)
  rw[Yg (by decide)];rcases hf with rfl|⟨v,rfl⟩
  ·exact(ao (g:=g1 d) Jw (NJ ..) (h0.trans ((aa Iz h5).trans (Rk ..))) hy ((hg)▸(ak _))).trans (YH (fun g=>some (_,g)) hg)
  ·exact(ao (g:=g1 d) Jw (NJ ..) (h0.trans (dG Iz h5)) hy ((hg)▸(ak _))).trans (YH (fun g=>some (_,g)) hg)
end
abbrev Zv:=Nat×Nat
noncomputable def bc(x:Zv):PV:=.tup [.int x.1,.int x.2]
theorem nh(x:Zv):aw (bc x)=true:=by rfl'
theorem rk(x y:Zv):oH (bc x) (bc y)=decide (x=y):=by refine(?_:(oH (eI x.1) (eI y.1)&&(oH (eI x.2) (eI y.2)&&true))=_);rw[sj,sj,Bool.and_true];obtain⟨a,b⟩:=x;obtain⟨c,e⟩:=y;rw[<-Bool.decide_and];exact Y6.mpr ⟨fun h=>Prod.ext h.1 h.2,fun h=>⟨YH Prod.fst h,YH Prod.snd h⟩⟩
theorem Og(s:St)(a b:Zv):aM s .Eq (bc a) (bc b)=some (decide (a=b)):=(yR rfl rfl rfl rfl).trans (YH some (rk a b))
theorem lC:∀(P:List Pc) (i a:Nat),bL P i->a<P.length->∃y,P[a]?=some y∧y.1=i+a
|x::r,i,0,h,_=>⟨x,rfl,h.1⟩
|x::r,i,a+1,h,k=>by obtain⟨y,z1,z2⟩:=lC r (i+1) a h.2 (Yv k);exact⟨y,z1,z2.trans (by rw[XS,XZ 1])⟩
theorem mI{α β:Type}{f:α->β}{P:List α}{a:Nat}{y:α}(h:P[a]?=some y):cC (P.map f) (a:Nat)=some (f y):=by rw[dz,List.getElem?_map,h];rfl
def UF:Nat:=9142614481120384865862775305076
def ue:Nat:=62
section
variable(n:Nat)(P:List PV)(st:PV)(a b:Nat)(x:Pc)(d:Dk)
noncomputable def py(a b:Int):YA:=[(123597974889843,.lst P),(32497656998945640,st),(439855772532,.int a),(108187682958948,.int b)]
theorem VC:ah ue [] 0 (ac n) [(123597974889843,.lst P),(32497656998945640,bc (a,b))] (s0 d)=some (.next,py P (bc (a,b)) a b,s0 d):=by rfl'
theorem We(a b:Int):ah ue [] 1 (ac n) (py P st a b) (s0 d)=(aT (aI ue [1] (ac n)) (aD ue [1] (ac n)) aS (py P st a b) (s0 d)).bind some:=by rfl'
def I9(n:Nat)(y:PV)(d:Dk):Option (Bool×St):=aI ue [1] (ac n) (py [y] .none 1 0) (s0 d)
theorem Up(b:Int):aI ue [1] (ac n) (py P st a b) (s0 d)=if decide ((a:Int)>0)=true then(cC P ((a:Int)-1)).bind fun y=>I9 n y d else some (false,s0 d):=by rfl'
theorem Uk(a:Int):aI ue [2] (ac n) (py P st a b) (s0 d)=if decide ((b:Int)<P.length)=true then(cC P b).bind fun y=>I9 n y d else some (false,s0 d):=by rfl'
theorem VZ(a b:Int):aD ue [1] (ac n) (py P st a b) (s0 d)=some (.next,py P st (a-1) b,s0 d):=by rfl'
theorem Vr:run ue [] 3 (ac n) (py P st a b) (s0 d)=some (.ret (bc (a,b)),py P st a b,s0 d):=by rfl'
end
noncomputable def nZ:List Pc->Nat
|[]=>0
|y::q=>if dj y.2=true then nZ q else q.length+1
noncomputable def n6:Nat->List Pc->Nat
|k,[]=>k
|k,y::r=>if dj y.2=true then n6 (k+1) r else k
section
variable{n:Nat}{Q:List Pc}{st:PV}{d:Dk}
theorem sy{n k:Nat}{A:List PV}{s:St}{b:Bool}{g:List Ent}(h:aj A=true)(hr:af n k A s.g=some (.bool b,g)):ag n k A s (fun r=>(cX r.1).bind fun b=>if b=true then some (true,r.2) else some (false,r.2))=some (b,⟨s.l,g⟩):=by cases b<;>exact ad (ae h) hr
theorem xL(x:Pc):I9 (n+1) (eS x) d=some (dj x.2,s0 d):=‹_=ag (n+1) S4 [eS x] (s0 d) fun r=>(cX r.1).bind fun b=>if b=true then some (true,r.2) else some (false,r.2)›.trans (sy (aJ (tX x) am) (H0 n x d))
theorem Dw(b:Int)(q:List Pc):∀(r:List Pc) (k:Nat),Q=q.reverse++r->q.length<k->aT (aI ue [1] (ac (n+1))) (aD ue [1] (ac (n+1))) k (py (Q.map eS) st q.length b) (s0 d)=some (.next,py (Q.map eS) st (nZ q) b,s0 d):=by
 induction q with
|nil=>intro r k _ Ò;obtain⟨k,rfl⟩:=dS Ò;exact cQ ((Up (n+1) (Q.map eS) st 0 d b).trans rfl)
|cons y q ih=>
  intro r k h hk;obtain⟨k,rfl⟩:=dS hk;rw[List.reverse_cons,Xr] at h;have e1:(((y::q).length:Nat):Int)-1=(q.reverse.length:Nat):=by rw[YO];exact Int.add_sub_cancel (q.length:Int) 1
  let' t:=(Up (n+1) (Q.map eS) st (y::q).length d b).trans ((dT (Yo.mpr (XT _))).trans ((aB ((e1)▸(bS h))).trans (xL y)));unfold nZ;cases e:dj y.2 with
  |false=>rw[e] at t;exact cQ t
  |true=>rw[e] at t;refine(gy (V':=py (Q.map eS) st q.length b) t (VZ ..) ?_).trans (ih _ k h (Yv hk));rw[show(((y::q).length:Nat):Int)-1=q.length from Int.add_sub_cancel (q.length:Int) 1];rfl
theorem yG(a:Int)(r:List Pc):∀(p:List Pc) (k:Nat),Q=p++r->r.length<k->aT (aI ue [2] (ac (n+1))) (aD ue [2] (ac (n+1))) k (py (Q.map eS) st a p.length) (s0 d)=some (.next,py (Q.map eS) st a (n6 p.length r),s0 d):=by
 induction r with
|nil=>intro p k h Ò;obtain⟨k,rfl⟩:=dS Ò;exact cQ ((Uk (n+1) (Q.map eS) st p.length d a).trans (M2 (gT (h.trans (Xu p)))))
|cons y r ih=>
  intro p k h hk;obtain⟨k,rfl⟩:=dS hk;let' t:=(Uk (n+1) (Q.map eS) st p.length d a).trans ((dT (iu h)).trans ((aB (bS h)).trans (xL y)));unfold n6;cases e:dj y.2 with
  |false=>rw[e] at t;exact cQ t
  |true=>rw[e] at t;let' u:=ih (p++[y]) k (bE h) (Yv hk);rw[Xl] at u;exact(gy (V':=py (Q.map eS) st a ((p.length+1:Nat))) t ‹aD ue [2] (ac _) (py _ _ _ _) (s0 _)=some (.next,py _ _ _ ((_+1:Nat)),s0 _)› rfl).trans u
def Qv(Q:List Pc)(y:Zv):Zv:=(nZ (Q.take y.1).reverse,n6 y.2 (Q.drop y.2))
theorem Pk(hz:Q.length≤1000){y:Zv}(h1:y.1≤Q.length)(h2:y.2≤Q.length):af (n+2) UF [lS Q,bc y] (g1 d)=some (bc (Qv Q y),g1 d):=by
 let' l1:(Q.take y.1).reverse.length=y.1:=(by rw[YO,Yr,Nat.min_eq_left h1])
 let' w1:=Dw (n:=n) (st:=bc y) (d:=d) y.2 (Q.take y.1).reverse (Q.drop y.1) aS (by rw[List.reverse_reverse,List.take_append_drop]) (by rw[l1];exact XQ (Xk h1 hz) (by decide));rw[l1] at w1;let' w2:=yG (n:=n) (st:=bc y) (d:=d) (nZ (Q.take y.1).reverse) (Q.drop y.2) (Q.take y.2) aS (List.take_append_drop _ _).symm (by rw[YN];exact XQ (Xk (YM _ _) hz) (by decide));rw[(by rw[Yr,Nat.min_eq_left h2]:(Q.take y.2).length=y.2)] at w2;exact ao (by rfl') (by rfl') ((aa (by rfl') (VC ..)).trans ((aa (by rfl') ((We ..).trans (aB w1))).trans ((aa (by rfl') (‹ah ue [] 2 (ac _) (py _ _ _ _) (s0 _)=(aT (aI ue [2] (ac _)) (aD ue [2] (ac _)) aS (py _ _ _ _) (s0 _)).bind some›.trans (aB w2))).trans (Vr ..)))) rfl (ak _)
end
def Rb:Nat:=9142614481120384843868433245550
def QU:Nat:=65
section
variable(n:Nat)(P:List PV)(y:Zv)(d:Dk)(b:Bool)
def QT:YA:=[(123597974889843,.lst P),(32497656998945640,bc y),(1701733491,.none),(29681726417101925,.bool b)]
theorem T4:bf QU [.lst P,bc y,.none,.bool b]=some (QT P y b):=by rfl'
theorem WP:run QU [] 0 (ac n) (QT P y false) (s0 d)=some (.ret (bc y),QT P y false,s0 d):=by rfl'
end
theorem PO:i5 QU Rb=true:=by rfl'
def Ii(b:Bool)(Q:List Pc)(y:Zv):Zv:=match b with
|true=>Qv Q y
|false=>y
theorem PN(n:Nat){Q:List Pc}(d:Dk)(b:Bool)(hz:Q.length≤1000){y:Zv}(h1:y.1≤Q.length)(h2:y.2≤Q.length):af (n+3) Rb [lS Q,bc y,.none,.bool b] (g1 d)=some (bc (Ii b Q y),g1 d):=by
 cases b with
|false=>exact ao PO (T4 ..) (WP ..) rfl (ak _)
|true=>exact ao PO (T4 ..) ((‹run QU [] 0 (ac (n+2)) (QT (Q.map eS) y true) (s0 d)=ag (n+2) UF [.lst (Q.map eS),bc y] (s0 d) fun r=>(fi r.2 r.1).bind fun z=>some (.ret z.1,[(123597974889843,.lst (Q.map eS)),(32497656998945640,r.1),(1701733491,.none),(29681726417101925,.bool true)],z.2)›.trans (ad (ae (aJ (dC (bl tX Q)) (aJ (nh y) am))) (Pk (n:=n) (d:=d) hz h1 h2))).trans (aB (dP (nh _)))) rfl (ak _)
def HY:Nat:=544942288465522816281708
def jm:Nat:=66
section
variable(n:Nat)(P F:List PV)(i:Nat)(a b:Nat)(y z:Zv)(w:Q4)(wd:Bool)(l:List Nat)(d:Dk)
def Rs:YA:=[(123597974889843,.lst P),(131260348654948,bK (bp w)),(1701733491,.none),(29681726417101925,.bool wd)]
def tO:YA:=Rs P w wd++[(439956631140,.loc 0)]
def Pv:YA:=tO P w wd++[(495873782388,.int i)]
def Me(s:PV):YA:=Pv P i w wd++[(32497656998945640,s)]
def LX:YA:=Me P i w wd (bc y)++[(123610792682867,bc z)]
theorem U3:bf jm [.lst P,bK (bp w),.none,.bool wd]=some (Rs P w wd):=by rfl'
theorem UA:ah jm [] 0 (ac n) (Rs P w wd) (s0 d)=some (.next,tO P w wd,s1 [] d):=by rfl'
theorem VW(acc:List PV)(s:St):aH jm [1] [0] (ac n) (tO P w wd) (eN l) acc s=Kt (aM s .NotEq (eN l) (.lst [])) s (fun s=>if aq (acc++[eN l])=true then some (acc++[eN l],s) else none) fun s=>some (acc,s):=by rfl'
theorem Xg:run jm [(1,true)] 0 (ac n) (tO P w wd) (s1 F d)=t9 F (tO P w wd) d:=by rfl'
theorem UY:ai jm [2] (ac n) (eI i) (tO P w wd) (s1 F d)=run jm [(2,true)] 0 (ac n) (Pv P i w wd) (s1 F d):=by rfl'
theorem Ty:run jm [(2,true),(2,true),(1,true)] 0 (ac n) (LX P i y z w wd) (s1 F d)=KF F (bc z) d fun u=>some (.next,LX P i y z w wd,u.2):=by rfl'
theorem Qe:run jm [(2,true),(2,true)] 2=fun C vs s=>some (.next,vs,s):=by rfl'
theorem TX:run jm [] 3 (ac n) (tO P w wd) (s1 F d)=t9 F (tO P w wd) d:=by rfl'
end
theorem Ql:i5 jm HY=true:=by rfl'
theorem HQ:aN jm [] 0=true:=by rfl'
theorem Hs:aN jm [] 1=true:=by rfl'
theorem zB:kK jm [] 1=true:=by rfl'
theorem H5:aN jm [(2,true)] 0=true:=by rfl'
theorem H3:aN jm [(2,true),(2,true)] 1=true:=by rfl'
theorem Da:kK jm [(2,true),(2,true)] 1=true:=by rfl'
theorem OK{α:Type}[DecidableEq α]{f:α->PV}(h:∀x y,oH (f x) (f y)=decide (x=y))(k:∀x,fD (f x) 7=true)(s:St)(a b:List α):aM s .Eq (.lst (a.map f)) (.lst (b.map f))=some (decide (a=b)):=
 (yR (show fD (.lst (a.map f)) 8=true from d9 (n:=7) k a) (show fD (.lst (b.map f)) 8=true from d9 (n:=7) k b) rfl rfl).trans (YH some (jM h a b))
noncomputable def ry(fl:List Zv)(z:Zv):List Zv:=if fl.getLast?=some z then fl else fl++[z]
def jA(w:Q4):List Pc->Option Nat
|[]=>none
|x::r=>if dj x.2=true then none else iR w ([],[],[],[]) (x::r)
theorem F2(w:Q4)(i:Nat):∀l:List Pc,OM w i l=BT i (jA w l):=by
 intro l;induction l with
|nil=>exact rfl
|cons x r ih=>show(if dj x.2=true then PV.none else _)=BT i (if dj x.2=true then none else _);cases dj x.2<;>rfl
def eV(w:Q4)(wd:Bool)(Q:List Pc)(fl:List Zv)(x:Pc):List Zv:=match jA w (Q.drop x.1) with
|none=>fl
|some e=>ry fl (Ii wd Q (x.1,e))
def kY(w:Q4)(wd:Bool)(Q:List Pc):List Zv:=if dj w=true then[] else Q.foldl (eV w wd Q) []
theorem qx(w:Q4):∀(l:List Pc) (i:Nat) (a:Q4) (e:Nat),bL l i->iR w a l=some e->i<e∧e≤i+l.length
|x::r,i,a,e,h,k=>by
  unfold iR at k;by_cases q:aR a x.2=w
  ·rw[Yh q] at k;injection k with k
   rw[<-k,h.1,XG];exact⟨Yq _,XA (YK 1 _) _⟩
  ·rw[Yg q] at k;by_cases q2:oM (aR a x.2) w=true
   ·rw[Yh q2] at k;have:=qx w r (i+1) _ e h.2 k;rw[XD] at this;exact⟨Nat.lt_of_succ_lt this.1,this.2⟩
   ·rw[Yg q2] at k;cases k
theorem xu{w:Q4}{l:List Pc}{i e:Nat}(h:bL l i)(k:jA w l=some e):i<e∧e≤i+l.length:=by
 cases l with
|nil=>cases k
|cons x r=>
  let' k:(if dj x.2=true then none else iR w ([],[],[],[]) (x::r))=some e:=k;by_cases q:dj x.2=true
  ·rw[Yh q] at k;cases k
  ·rw[Yg q] at k;exact qx w _ i _ e h k
theorem EQ:∀q:List Pc,nZ q≤q.length:=by
 intro q;induction q with
|nil=>exact Xx _
|cons y q ih=>
  unfold nZ;split
  ·exact XX (ih)
  ·exact Xx _
theorem Ew(r:List Pc):∀(k:Nat),k≤n6 k r∧n6 k r≤k+r.length:=by
 induction r with
|nil=>intro k;exact⟨Xx _,Xx _⟩
|cons y r ih=>
  intro k;unfold n6;split
  ·have:=ih (k+1);rw[XD] at this;exact⟨Nat.le_of_succ_le this.1,this.2⟩
  ·exact⟨Xx _,XH _ _⟩
theorem Lp(b:Bool){Q:List Pc}{y:Zv}(h1:y.1<Q.length)(h2:0<y.2)(h3:y.2≤Q.length):(Ii b Q y).1<Q.length∧0<(Ii b Q y).2∧(Ii b Q y).2≤Q.length:=by
 cases b with
|false=>exact⟨h1,h2,h3⟩
|true=>let' a:=EQ (Q.take y.1).reverse;rw[YO,Yr,Nat.min_eq_left (XW h1)] at a;let' g:=Ew (Q.drop y.2) y.2;rw[YN,Nat.add_sub_cancel' h3] at g;exact⟨XQ a h1,XI h2 g.1,g.2⟩
theorem fB(p:List Pc):∀{r:List Pc}{i:Nat},bL (p++r) i->bL r (i+p.length):=by
 induction p with
|nil=>intro _ _ h;exact h
|cons x p ih=>intro r i h;have:=ih h.2;rw[XD] at this;exact this
section
variable{n:Nat}{Q:List Pc}{w:Q4}{wd:Bool}{d:Dk}
def Fs(i:Nat)(y z:Zv)(fl:List Zv):bn jm [(2,true),(2,true)] 1 (ac n) (LX (Q.map eS) i y z w wd) (s1 (fl.map bc) d)=some (!decide (fl.getLast?=some z),s1 (fl.map bc) d):=by
 refine‹_=(aM (s1 (fl.map bc) d) .Eq (.loc 0) (.lst [])).bind fun c=>if c=true then some (true,s1 (fl.map bc) d) else(cC (fl.map bc) (-1)).bind fun u=>(aM (s1 (fl.map bc) d) .NotEq u (bc z)).bind fun c=>if c=true then some (true,s1 (fl.map bc) d) else some (false,s1 (fl.map bc) d)›.trans ((aB ((show aM (s1 (fl.map bc) d) .Eq (.loc 0) (.lst [])=aM (s1 (fl.map bc) d) .Eq (.lst (fl.map bc)) (.lst ([].map bc)) by rfl').trans (OK rk (fun x=>rfl) _ fl []):aM (s1 (fl.map bc) d) .Eq (.loc 0) (.lst [])=some (decide (fl=[])))).trans ?_);rcases List.eq_nil_or_concat fl with rfl|⟨q,u,rfl⟩
 ·rw[Yh (Yc rfl)];rfl
 ·rw[List.concat_eq_append];have il:cC ((q++[u]).map bc) (-1)=some (bc u):=by
   have k:((((q++[u]).map bc).length:Nat):Int)+ -1=(q.length:Nat):=by rw[Xm,Xl];exact Int.add_sub_cancel (q.length:Int) 1
   unfold cC;rw[Yg (by decide),k,Yh (Zd _),Ze];exact(dz _ _).symm.trans (bS rfl)
  rw[Yg (by rw[Yd (fun e=>List.append_ne_nil_of_right_ne_nil q (List.cons_ne_nil u []) e:q++[u]≠[])];decide)];refine(aB il).trans ((aB (ta (Og _ u z))).trans ?_);rw[List.getLast?_concat,show decide (some u=some z)=decide (u=z) from Y6.mpr ⟨Xn,YH some⟩];cases decide (u=z)<;>rfl
def GD(hs:∀x∈Q,bP x.2 2)(hp:bL Q 0)(hz:Q.length≤100){p r:List Pc}{x:Pc}(hQ:Q=p++x::r)(fl:List Zv)(hf:fl.length<1000):
  ∃v,ai jm [2] (ac (n+3)) (eI x.1) (tO (Q.map eS) w wd) (s1 (fl.map bc) d)=some (.next,v,s1 ((eV w wd Q fl x).map bc) d)∧aA (tO (Q.map eS) w wd) v=tO (Q.map eS) w wd:=by
 have à:=fB p (hQ▸hp);rw[Xz] at à;have hx:x.1=p.length:=à.1;have dr:Q.drop x.1=x::r:=by rw[hx,hQ,List.drop_left]
 have lx:x.1<Q.length:=by rw[hx,hQ,Xl];exact Yi (XT _)
 have h7:=‹ah jm [(2,true)] 0 (ac (n+3)) (Pv (Q.map eS) x.1 w wd) (s1 (fl.map bc) d)=ag (n+3) TN [.lst (Q.map eS),.int x.1,bK (bp w)] (s1 (fl.map bc) d) fun r=>some (.next,Pv (Q.map eS) x.1 w wd++[(32497656998945640,r.1)],r.2)›.trans (ad (ae (aJ (dC (bl tX Q)) (aJ (bq _) (aJ (gt _) am)))) (by rw[hx];exact MJ (n:=n) (w:=w) (d:=d) hs hQ à hz));rw[F2,<-dr] at h7;unfold eV;cases so:jA w (Q.drop x.1) with
|none=>rw[so] at h7;exact⟨Me (Q.map eS) x.1 w wd .none,(UY ..).trans ((aa H5 h7).trans (by rfl')),rfl⟩
|some e=>
  rw[so] at h7;show ∃v,_=some (_,v,s1 ((ry fl (Ii wd Q (x.1,e))).map bc) d)∧_;have le:=xu (l:=Q.drop x.1) (i:=x.1) (by rw[dr,hx];exact à) so;rw[YN,Nat.add_sub_cancel' (XW lx)] at le;have c:=Lp wd (y:=(x.1,e)) lx (XQ (Nat.zero_le _) le.1) le.2;have h9:ah jm [(2,true)] 1 (ac (n+3)) (Me (Q.map eS) x.1 w wd (bc (p.length,e))) (s1 (fl.map bc) d)=some (.next,Me (Q.map eS) x.1 w wd (bc (Ii wd Q (x.1,e))),s1 (fl.map bc) d):=by rw[<-hx];exact‹_=ag (n+3) Rb [.lst (Q.map eS),bc (x.1,e),.none,.bool wd] (s1 (fl.map bc) d) fun r=>some (.next,Pv (Q.map eS) x.1 w wd++[(32497656998945640,r.1)],r.2)›.trans (ad (ae (aJ (dC (bl tX Q)) (aJ (nh _) (aJ (by rfl') (aJ (by rfl') am))))) (PN n d wd (Xk hz (by decide)) (XW lx) le.2))
  generalize Ii wd Q (x.1,e)=z at c h9;obtain⟨a,b⟩:=z;obtain⟨u,u1,u2⟩:=lC Q 0 a hp c.1;have hb:((b:Nat):Int)-1=((b-1:Nat)):=(Int.ofNat_sub c.2).symm;obtain⟨v,v1,v2⟩:=lC Q 0 (b-1) hp (XI (Nat.sub_lt c.2 Nat.one_pos) c.3);rw[Xz] at u2 v2;have v3:v.1+1=b:=by rw[v2];exact YB c.2
  have Ĥ:=‹ah jm [(2,true),(2,true)] 0 (ac (n+3)) (Me (Q.map eS) x.1 w wd (bc (a,b))) (s1 (fl.map bc) d)=(cC (Q.map eS) a).bind fun u=>oq (n+3) u 439855772532 (s1 (fl.map bc) d) fun u=>(cC (Q.map eS) ((b:Int)-1)).bind fun v=>oq (n+3) v 108187682958948 u.2 fun v=>some (.next,Me (Q.map eS) x.1 w wd (bc (a,b))++[(123610792682867,.tup [u.1,v.1])],v.2)›.trans ((aB (mI u1)).trans ((Ax (n+3) u _ _).trans ((aB (by rw[hb];exact mI v1)).trans (yr (n+3) v _ _))));rw[u2,v3] at Ĥ;have ģ:=Fs (n:=n+3) (Q:=Q) (w:=w) (wd:=wd) (d:=d) x.1 (a,b) (a,b) fl
  have h0:=(UY (n+3) (Q.map eS) (fl.map bc) x.1 w wd d).trans ((aa H5 h7).trans (aa (by rfl') h9));refine⟨LX (Q.map eS) x.1 (a,b) (a,b) w wd,h0.trans ((bk (by rfl') (by rfl') (by rfl') ((aa (by rfl') Ĥ).trans (?_:run jm [(2,true),(2,true)] 1 (ac (n+3)) (LX (Q.map eS) x.1 (a,b) (a,b) w wd) (s1 (fl.map bc) d)=some (.next,LX (Q.map eS) x.1 (a,b) (a,b) w wd,s1 ((ry fl (a,b)).map bc) d)))).trans (YI (YI (YI ‹run jm [(2,true)] 3=fun C vs s=>some (.next,vs,s)› _) _) _)),rfl⟩;unfold ry;by_cases q:fl.getLast?=some (a,b)
  ·rw[Yc q] at ģ;rw[Yh q];exact(bk H3 Da ģ (YI (YI (YI ‹run jm [(2,true),(2,true),(1,false)] 0=fun C vs s=>some (.next,vs,s)› _) _) _)).trans (YI (YI (YI Qe _) _) _)
  ·rw[Yd q] at ģ;rw[Yg q];refine(bk H3 Da ģ ((Ty ..).trans (lN (by rw[Xm];exact hf)))).trans ((YI (YI (YI Qe _) _) _).trans ?_);rw[XE];rfl
def vH(Q:List Pc):∀(i:Nat),bL Q i->(List.range' i Q.length).map eI=Q.map fun x=>eI x.1:=by
 induction Q with
|nil=>intro _ _;exact rfl
|cons x r ih=>intro i h;show eI i::(List.range' (i+1) r.length).map eI=eI x.1::_;rw[h.1,ih (i+1) h.2]
def NC(hs:∀x∈Q,bP x.2 2)(hp:bL Q 0)(hz:Q.length≤100):af (n+4) HY [lS Q,bK (bp w),.none,.bool wd] (g1 d)=some (.lst ((kY w wd Q).map bc),g1 d):=by
 let' c:=(hJ (f:=aH jm [1] [0] (ac (n+3)) (tO (Q.map eS) w wd)) (g:=eN) (o:=eN) (p:=fun l=>!decide (l=[])) (s:=s1 [] d) (l:=bp w) (acc:=[]) (show 0+4≤1000 by decide) fun l z acc=>(VW (n+3) (Q.map eS) w wd l acc _).trans (xz (ta (Ko (s0 d) l []))))
 let' e:=tE (s0 d) ((bp w).filter fun l=>!decide (l=[])) [];let' h1:bn jm [] 1 (ac (n+3)) (tO (Q.map eS) w wd) (s1 [] d)=some (dj w,s1 [] d):=‹_=(((ar (aH jm [1] [0] (ac (n+3)) (tO (Q.map eS) w wd)) ((bp w).map eN) [] (s1 [] d)).bind fun y=>some (y.1,aO y.2 none)).bind fun y=>some (PV.lst y.1,y.2)).bind fun y=>(aM y.2 .Eq y.1 (.lst [])).bind fun c=>some (c,y.2)›.trans ((aB (b9 c)).trans (aB (v:=dj w) e));unfold kY;cases q:dj w with
|true=>rw[q] at h1;exact ao Ql (U3 ..) ((aa HQ (UA ..)).trans (dG Hs ((bg zB h1).trans ((Xg ..).trans (f6 rfl))))) rfl (ak _)
|false=>
  rw[q] at h1;rw[Yg (by decide)];have f:=bV (f:=ai jm [2] (ac (n+3))) (g:=fun x:Pc=>eI x.1) (V:=fun _:List Zv=>tO (Q.map eS) w wd) (S:=fun b=>s1 (b.map bc) d) (step:=eV w wd Q) (fun b r=>b.length+r.length≤1000∧∃p,Q=p++r)
   (fun b x r h=>by
    obtain⟨h1,p,hQ⟩:=h;refine⟨⟨?_,p++[x],bE hQ⟩,GD hs hp hz hQ b (fv h1)⟩;unfold eV;cases jA w (Q.drop x.1) with
    |none=>exact Xk (XA (Nat.le_succ _) _) h1
    |some e=>
     show(ry b _).length+_≤_;unfold ry;split
     ·exact Xk (XA (Nat.le_succ _) _) h1
     ·exact gV h1)
   Q [] ⟨(Xz _).symm▸Xk hz (by decide),[],rfl⟩
  exact ao Ql (U3 ..) ((aa HQ (UA ..)).trans ((bk Hs zB h1 (YI (YI (YI ‹run jm [(1,false)] 0=fun C vs s=>some (.next,vs,s)› _) _) _)).trans ((aa (by rfl') (‹ah jm [] 2 (ac (n+3)) (tO (Q.map eS) w wd) (s1 [] d)=(cR 0 (Q.map eS).length 1).bind fun l=>gC l (tO (Q.map eS) w wd) (s1 [] d) (ai jm [2] (ac (n+3)))›.trans ((aB (by rw[Xm,dw (Xk hz (by decide)),Zh,vH Q 0 hp])).trans (bJ f)))).trans ((TX ..).trans (f6 (bl nh _)))))) rfl (ak _)
end
def Tc:Nat:=30787924973348211
def LZ:Nat:=69
section
variable(n:Nat)(t l:List (PV×PV))(f:Nat×Nat×Nat)(pa tx P F:List PV)(d:Dk)
def D3:YA:=[(31632350188499566,.lst pa),(1952807028,.lst tx),(499850046565,bw t l f),(1684108385,D0),(8319400191629685864,.int 4),(6844279,hS),(7598521962762038373,.bool false),(29681726417101925,.bool false),(8031718527580860531,.bool true),(32635402940111277215878112371,.bool false)]
def WR:ah LZ [] 2 (ac n) (D3 t l f pa tx++[(123597974889843,.lst P),(1701733491,.none)]) (s0 d)=ag n Qm [.lst pa,bw t l f,D0,.int 4,hS] (s0 d) fun r=>ag n HY [.lst P,r.1,.none,.bool false] r.2 fun r=>some (.next,D3 t l f pa tx++[(123597974889843,.lst P),(1701733491,.none),(439956631140,r.1)],r.2):=by rfl'
def VT:run LZ [] 3 (ac n) (D3 t l f pa tx++[(123597974889843,.lst P),(1701733491,.none),(439956631140,.lst F)]) (s0 d)=(fi (s0 d) (.lst F)).bind fun y=>some (.ret y.1,D3 t l f pa tx++[(123597974889843,.lst P),(1701733491,.none),(439956631140,.lst F)],y.2):=by rfl'
end
def QG:Nat:=6009316421717747058
def Ry:Nat:=(fI 6009316421717747058 107118302554478)
def Qn:Nat:=71
def Tq:Nat:=(fI 6009316421717747058 115944242375788)
def WM:Nat:=75
section
variable(n:Nat)(t l:List (PV×PV))(f:Nat×Nat×Nat)(pa tx P F:List PV)(w:PV)(q:Q4)(d:Dk)
def UV:List (Nat×PV):=[(499850046565,bw t l f),(1684108385,D0),(8319400191629685864,.int 4),(6844279,hS),(7598521962762038373,.bool false)]
def xI:PV:=.inst 6009316421717747058 (UV t l f++[(131260348654948,w)])
def Qb(g:List Ent)(s:St):Option (PV×List Ent):=if di g s.g=true then(match s.l with
|⟨o,.mut⟩::_=>if bT o=true then some (dR o,s.g) else none
|z=>none) else none
def WK:aw (xI t l f w)=(aw (bw t l f)&&(aw w&&true)):=by rfl'
def Kl:YA:=[(1936026726,xI t l f w),(1952807028,.lst tx),(29681726417101925,.bool true)]
def W6:run Qn [] 2 (ac n) (Kl t l f tx w++[(123597974889843,.lst P),(1701733491,.none)]) (s0 d)=ag n HY [.lst P,w,.none,.bool true] (s0 d) fun r=>(fi r.2 r.1).bind fun y=>some (.ret y.1,Kl t l f tx w++[(123597974889843,.lst P),(1701733491,.none)],y.2):=by rfl'
def QN:YA:=[(1936026726,xI t l f w),(1952807028,.lst tx)]
def WN:run WM [] 0 (ac n) (QN t l f tx w) (s0 d)=ag n Ry [xI t l f w,.lst tx,.bool true] (s0 d) fun r=>(qb r.2 (bc (0,tx.length)) r.1).bind fun c=>some (.ret (.bool c),QN t l f tx w,r.2):=by rfl'
end
def x8(ws:List Wt):bP (iG ws) ws.length:=by
 let' h:∀k,(fJ ws k).length≤ws.length:=(fun k=>by unfold fJ;rw[Xm];exact List.length_filter_le _ _)
 exact⟨h 0,h 1,h 2,h 3⟩
theorem lb{top:Nat}{el:Int->List El}:∀{L:List Int}{b:Bool}{i:Nat},(∀y∈L,(el y).length≤2)->∀x∈zO top el b L i,bP x.2 2
|y::r,b,i,h,x,hx=>by
  rcases Xo.mp hx with rfl|hx
  ·let' s:=x8 (jg top b (el y));rw[fu] at s;let' k:=h y (.head _);exact⟨Xk s.1 k,Xk s.2 k,Xk s.3 k,Xk s.4 k⟩
  ·exact lb (fun z hz=>h z (.tail _ hz)) x hx
def m7{top:Nat}{el:Int->List El}(L:List Int):∀(b:Bool) (i:Nat),bL (zO top el b L i) i:=by
 induction L with
|nil=>intro _ _;exact trivial
|cons _ r ih=>intro _ i;exact⟨rfl,ih _ (i+1)⟩
def qG{top:Nat}{el:Int->List El}(L:List Int):∀(b:Bool) (i:Nat),(zO top el b L i).length=L.length:=by
 induction L with
|nil=>intro _ _;exact rfl
|cons _ r ih=>intro _ i;exact YH (·+1) (ih _ (i+1))
def p7(f:Nat×Nat×Nat)(el:Int->List El)(L:List Int):List Pc:=zO (65535*f.1) el false L 0
def uQ(f:Nat×Nat×Nat)(el:Int->List El)(L:List Int):Q4:=iG (hB f el L)
section
variable{n:Nat}{t l:List (PV×PV)}{f:Nat×Nat×Nat}{el:Int->List El}{d:Dk}{L M:List Int}
def w0(T:bU t l f el)(wd:Bool)(w:Q4)(hz:L.length≤100)(hs:∀y∈L,y∈sg):af (n+4) HY [lS (p7 f el L),bK (bp w),.none,.bool wd] (g1 d)=some (.lst ((kY w wd (p7 f el L)).map bc),g1 d):=
 NC (lb fun y hy=>T.len y (hs y hy)) (m7 L false 0) (by unfold p7;rw[qG];exact hz)
def lu{r:List PV}(h:aj r=true):aj (.int 4::hS::r)=true:=aJ (bq _) (aJ xn h)
def NE(T:bU t l f el)(N:bR t l)(hz:L.length≤100)(hs:∀y∈L,y∈sg)(ĉ:M.length≤100)(Z0:∀y∈M,y∈sg):af (n+17) Tc [.lst (M.map .int),.lst (L.map .int),bw t l f,D0,.int 4,hS,.bool false,.bool false,.bool true] (g1 d)=some (.lst ((kY (uQ f el M) false (p7 f el L)).map bc),g1 d):=by
 let' k4:=ad (n:=n+16) (k:=HY) (s:=s0 d) (K:=fun r=>some (Fl.next,D3 t l f (M.map .int) (L.map .int)++[(123597974889843,lS (p7 f el L)),(1701733491,.none),(439956631140,r.1)],r.2)) (ae (aJ (dC (bl tX _)) (aJ (gt _) (aJ (by rfl') (aJ (by rfl') am))))) (w0 (n:=n+12) T false (uQ f el M) hz hs);exact ao (by rfl') (by rfl') ((aa (by rfl') (‹ah LZ [] 0 (ac (n+16)) (D3 t l f (M.map .int) (L.map .int)) (s0 d)=ag (n+16) Q3 [.lst (L.map .int),bw t l f,D0,.int 4,hS] (s0 d) fun r=>some (.next,D3 t l f (M.map .int) (L.map .int)++[(123597974889843,r.1)],r.2)›.trans (ad (ae (aJ (dC (fK L)) (aJ N.nl (aJ cK (lu am))))) (Ik (n:=n+1) T N hz hs)))).trans ((aa ‹aN LZ [] 1=true› ‹ah LZ [] 1 (ac _) (D3 _ _ _ _ _++[(123597974889843,.lst _)]) (s0 _)=some (.next,D3 _ _ _ _ _++[(123597974889843,.lst _),(1701733491,.none)],s0 _)›).trans ((aa ‹aN LZ [] 2=true› ((WR ..).trans ((ad (n:=n+16) (k:=Qm) (s:=s0 d) (K:=fun r=>ag (n+16) HY [lS (p7 f el L),r.1,.none,.bool false] r.2 fun r=>some (Fl.next,D3 t l f (M.map .int) (L.map .int)++[(123597974889843,lS (p7 f el L)),(1701733491,.none),(439956631140,r.1)],r.2)) (ae (aJ (dC (fK M)) (aJ N.nl (aJ cK (lu am))))) (Hx T N ĉ Z0)).trans k4))).trans ((VT ..).trans (aB (j7 (bl nh _))))))) rfl (ak _)
def CH(N:bR t l)(q:Q4):aw (xI t l f (bK (bp q)))=true:=by rw[WK,N.nl,gt];rfl
def PY(T:bU t l f el)(N:bR t l)(ĉ:M.length≤100)(Z0:∀y∈M,y∈sg):af (n+17) QG [.lst (M.map .int),bw t l f,D0,.int 4,hS,.bool false] (g1 d)=some (xI t l f (bK (bp (uQ f el M))),g1 d):=
 (e9 ..).trans (‹_=ag (n+16) Qm [.lst (M.map .int),bw t l f,D0,.int 4,hS] ⟨[⟨.inst 6009316421717747058 (UV t l f),.mut⟩],g1 d⟩ fun r=>(jU (ac (n+16)) r.2 (.loc 0) 131260348654948 r.1).bind (Qb (g1 d))›.trans ((ad (ae (aJ (dC (fK M)) (aJ N.nl (aJ cK (lu am))))) (Hx T N ĉ Z0)).trans (‹_=if aw (xI t l f (bK (bp (uQ f el M))))=true then some (xI t l f (bK (bp (uQ f el M))),g1 d) else none›.trans (gM (CH N _)))))
def MX(T:bU t l f el)(N:bR t l)(q:Q4)(hz:L.length≤100)(hs:∀y∈L,y∈sg):af (n+16) Ry [xI t l f (bK (bp q)),.lst (L.map .int),.bool true] (g1 d)=some (.lst ((kY q true (p7 f el L)).map bc),g1 d):=by
 exact ao (by rfl') (by rfl') ((aa (by rfl') (‹ah Qn [] 0 (ac (n+15)) (Kl t l f (L.map .int) (bK (bp q))) (s0 d)=ag (n+15) Q3 [.lst (L.map .int),bw t l f,D0,.int 4,hS] (s0 d) fun r=>some (.next,Kl t l f (L.map .int) (bK (bp q))++[(123597974889843,r.1)],r.2)›.trans (ad (ae (aJ (dC (fK L)) (aJ N.nl (aJ cK (lu am))))) (Ik T N hz hs)))).trans ((aa ‹aN Qn [] 1=true› ‹ah Qn [] 1 (ac _) (Kl _ _ _ _ _++[(123597974889843,.lst _)]) (s0 _)=some (.next,Kl _ _ _ _ _++[(123597974889843,.lst _),(1701733491,.none)],s0 _)›).trans ((W6 ..).trans ((ad (n:=n+15) (k:=HY) (s:=s0 d) (K:=fun r=>(fi r.2 r.1).bind fun y=>some (Fl.ret y.1,Kl t l f (L.map .int) (bK (bp q))++[(123597974889843,lS (p7 f el L)),(1701733491,.none)],y.2)) (ae (aJ (dC (bl tX _)) (aJ (gt _) (aJ (by rfl') (aJ (by rfl') am))))) (w0 (n:=n+11) T true q hz hs)).trans (aB (j7 (bl nh _))))))) rfl (ak _)
def NG(s:St)(z:Zv)(fl:List Zv):qb s (bc z) (.lst (fl.map bc))=some (decide (z∈fl)):=by
 have e:∀fl:List Zv,(fl.map bc).any (fun x=>oH x (bc z))=decide (z∈fl):=fun fl=>by
  induction fl with
  |nil=>rfl
  |cons y r ih=>refine(?_:(oH (bc y) (bc z)||(r.map bc).any _)=_);rw[ih,rk,<-Bool.decide_or];exact Y6.mpr ⟨fun h=>h.elim (fun e=>e▸.head _) (.tail _),fun h=>(Xo.mp h).imp Eq.symm id⟩
 refine(?_:(if(fD (bc z) 8&&gv (fl.map bc) 8)=true then some ((fl.map bc).any fun x=>oH x (bc z)) else none)=_);exact(gM ((Xp _ _).mpr ⟨rfl,d9 (n:=8) (fun w=>rfl) fl⟩)).trans (YH some (e fl))
def Qf(T:bU t l f el)(N:bR t l)(q:Q4)(hz:L.length≤100)(hs:∀y∈L,y∈sg):af (n+17) Tq [xI t l f (bK (bp q)),.lst (L.map .int)] (g1 d)=some (.bool (decide ((0,L.length)∈kY q true (p7 f el L))),g1 d):=by exact(Xm (f:=PV.int))▸ao (by rfl') ‹_=some (QN _ _ _ _ _)› ((WN ..).trans ((ad (n:=n+16) (k:=Ry) (s:=s0 d) (K:=fun r=>(qb r.2 (bc (0,(L.map PV.int).length)) r.1).bind fun c=>some (Fl.ret (.bool c),QN t l f (L.map .int) (bK (bp q)),r.2)) (ae (aJ (CH N q) (aJ (dC (fK L)) (aJ (by rfl') am)))) (MX T N q hz hs)).trans (aB (NG (s0 d) (0,(L.map PV.int).length) (kY q true (p7 f el L)))))) rfl (ak _)
end
def QA:Nat:=81524212646718970499395187
def Ul:Nat:=7878072000987550850512248271732
def zq:Nat:=40
def UJ:Nat:=2016786432252813017745411776933476
def zk:Nat:=41
def Uo:Nat:=7878072000987550850572360446564
def zp:Nat:=43
def Uh:Nat:=2016786432252813017731161377633384
def zo:Nat:=44
def Db:Nat:=7878072000987550850537951225196
def QQ:Nat:=45
def Rp:Nat:=7878073228619300075131637036147
def Ht:Nat:=47
def Sf:Nat:=516297407110794449726918748329768051
def q6:Nat:=48
def ND:Nat:=31389028957493013044718366578
def WT:Nat:=46
def NT:Nat:=27988538521907813
def QY:Nat:=49
def gG(f:Nat×Nat×Nat):PV:=.inst 81524212646718970499395187 [(28817527407604339,fV f),(6844279,hS),(8319400191629685864,.int 4),(32635402940111277215878112371,.bool false),(469311931136425172562804,S ""),(2117091436637051614046213719352684,.bool false),(497976732832583101081955,.bool false),(32199676679972210,.none)]
def GO(f:Nat×Nat×Nat):List PV:=[hS,.int 4,.bool false,S "",.bool false,.bool false,.none,fV f]
def iw(f:Nat×Nat×Nat):aw (gG f)=true:=by rfl'
section
variable(n:Nat)(t l:List (PV×PV))(f:Nat×Nat×Nat)(A B:List PV)(k:Nat)(w:Wt)(a b:PV)(d:Dk)
def yh:YA:=[(33607025609438323,.lst A),(31367367702310515,gG f)]
def UP(i:Nat):Option (PV×St):=((ar (aH i [0] [] (ac n) (yh f A)) A [] (s0 d)).bind fun y=>some (y.1,aO y.2 none)).bind fun y=>some (PV.lst y.1,y.2)
def VY(acc:List PV)(s:St):[(zq,0),(zk,1),(zp,2),(zo,3)].map (fun i=>aH i.1 [0] [] (ac n) (yh f A) (eW w) acc s)=[(zq,0),(zk,1),(zp,2),(zo,3)].map fun i=>Nw (pz i.2 w) s (fun s=>if aq (acc++[eI (pj i.2 w)])=true then some (acc++[eI (pj i.2 w)],s) else none) fun s=>some (acc,s):=by rfl'
def OW:YA:=[(33607025609438323,.lst A),(121450625394034,eI k),(31367367702310515,gG f)]
def UM(k:Nat):Nat:=match k with
|0=>Ul
|1=>UJ
|2=>Uo
|z=>Uh
def Uj:bf QQ [.lst A,eI k,gG f]=some (OW f A k):=by rfl'
def Wp:run QQ [] 0 (ac n) (OW f A 4) (s0 d)=some (.ret .none,OW f A 4++[(120265181065843,.loc 0)],⟨[⟨.lst [.int 1,.int 2,.int 3,.int 4],.mut⟩],g1 d⟩):=by rfl'
def zc:YA:=[(7302757,.lst A),(478694368626,.lst B)]
def QR:bf Ht [.lst A,.lst B]=some (zc A B):=by rfl'
def oJ(k:Nat)(c:Int):YA:=[(7302757,.lst A),(478694368626,.lst B),(31367367702310515,gG f),(121450625394034,eI k),(1953459300,.int c)]
def UH:bf q6 [.lst A,.lst B,gG f]=some [(7302757,.lst A),(478694368626,.lst B),(31367367702310515,gG f)]:=by rfl'
def U4:ah q6 [] 0 (ac n) [(7302757,.lst A),(478694368626,.lst B),(31367367702310515,gG f)] (s0 d)=some (.next,oJ f A B 0 0,s0 d):=by rfl'
def SG(c:Int):aI q6 [1] (ac n) (oJ f A B k c) (s0 d)=some (c==0,s0 d):=by rfl'
def Va(c:Int):aD q6 [1] (ac n) (oJ f A B k c) (s0 d)=run q6 [(1,true)] 0 (ac n) (oJ f A B k c) (s0 d):=by rfl'
def Vg(c:Int):ah q6 [(1,true)] 0 (ac n) (oJ f A B k c) (s0 d)=ag n Db [.lst A,eI k,gG f] (s0 d) fun r=>ag n Db [.lst B,eI k,gG f] r.2 fun q=>some (.next,oJ f A B k c++[(1852137842,r.1),(6709618,q.1)],q.2):=by rfl'
def Xa(c:Int):run q6 [] 2 (ac n) (oJ f A B k c) (s0 d)=some (.ret (.int c),oJ f A B k c,s0 d):=by rfl'
def UI:YA:=[(1952807028,.lst A),(1684108385,D0),(499850046565,bw t l f),(31367367702310515,gG f)]
def GM:YA:=[(7302757,.lst A),(478694368626,.lst B),(1684108385,D0),(499850046565,bw t l f),(31367367702310515,gG f)]
def WC(N F:List PV)(c:Int):run QY [] 3 (ac n) (GM t l f A B++[(1852137842,.lst N),(6709618,.lst F),(1953459300,.int c)]) (s0 d)=(if(c==0)=true then some (Fl.ret (.int c),GM t l f A B++[(1852137842,.lst N),(6709618,.lst F),(1953459300,.int c)],s0 d) else some (Fl.ret (.int c),GM t l f A B++[(1852137842,.lst N),(6709618,.lst F),(1953459300,.int c)],s0 d)):=by rfl'
end
def M4(n:Nat)(f:Nat×Nat×Nat)(d:Dk):af (n+1) QA (GO f) (g1 d)=some (gG f,g1 d):=(e9 ..).trans ‹_=some (gG f,g1 d)›
def P8(n:Nat)(f:Nat×Nat×Nat){ws:List Wt}(hz:ws.length≤1000)(d:Dk):∀k∈[0,1,2,3],af (n+1) (UM k) [lW ws,gG f] (g1 d)=some (eN (fJ ws k),g1 d):=by
 have go:∀i k j,i5 i k=true->bf i [lW ws,gG f]=some (yh f (ws.map eW))->run i [] 0 (ac n) (yh f (ws.map eW)) (s0 d)=((UP n f (ws.map eW) d i).bind fun y=>(fi y.2 y.1).bind fun z=>some (.ret z.1,yh f (ws.map eW)++[(439956631140,y.1)],z.2))->
   (∀w acc,aH i [0] [] (ac n) (yh f (ws.map eW)) (eW w) acc (s0 d)=Nw (pz j w) (s0 d) (fun s=>if aq (acc++[eI (pj j w)])=true then some (acc++[eI (pj j w)],s) else none) fun s=>some (acc,s))->af (n+1) k [lW ws,gG f] (g1 d)=some (eN (fJ ws j),g1 d):=fun i k j h0 h1 h2 h3=>by
  have c:=hJ (f:=aH i [0] [] (ac n) (yh f (ws.map eW))) (g:=eW) (o:=fun w=>eI (pj j w)) (p:=pz j) (s:=s0 d) (l:=ws) (acc:=[]) (Xk (XY (Xz _)) hz) fun w v acc=>(h3 w acc).trans (uA ..)
  have e:([]:List PV)++(ws.filter (pz j)).map (fun w=>eI (pj j w))=(fJ ws j).map eI:=(YW (f:=pj j) (g:=eI) (l:=ws.filter (pz j))).symm;rw[e] at c;exact ao h0 h1 (h2.trans ((aB (b9 c)).trans (aB (dP (q8 _))))) rfl (ak _)
 have a:=‹[(zq,Ul),(zk,UJ),(zp,Uo),(zo,Uh)].map (fun x=>i5 x.1 x.2)=[true,true,true,true]›
 have b:=‹[bf zq [.lst (ws.map eW),gG f],bf zk [.lst (ws.map eW),gG f],bf zp [.lst (ws.map eW),gG f],bf zo [.lst (ws.map eW),gG f]]=[some (yh f (ws.map eW)),some (yh f (ws.map eW)),some (yh f (ws.map eW)),some (yh f (ws.map eW))]›
 have c:=bx ‹[zq,zk,zp,zo].map (fun i=>run i [] 0 (ac n) (yh f (ws.map eW)) (s0 d))=[zq,zk,zp,zo].map fun i=>(UP n f (ws.map eW) d i).bind fun y=>(fi y.2 y.1).bind fun z=>some (.ret z.1,yh f (ws.map eW)++[(439956631140,y.1)],z.2)›;have t:=fun w acc=>bx (VY n f (ws.map eW) w acc (s0 d))
 injection a with a1 a;injection a with a2 a;injection a with a3 a;injection a with a4 a
 injection b with b1 b;injection b with b2 b;injection b with b3 b;injection b with b4 b
 have m1:zq∈[zq,zk,zp,zo]:=.head _;have m2:zk∈[zq,zk,zp,zo]:=.tail _ (.head _);have m3:zp∈[zq,zk,zp,zo]:=.tail _ (.tail _ (.head _));have m4:zo∈[zq,zk,zp,zo]:=.tail _ (.tail _ (.tail _ (.head _)));intro k hk;rcases Xo.mp hk with rfl|hk
 ·exact go _ _ _ a1 b1 (c _ m1) fun w acc=>t w acc (zq,0) (.head _)
 rcases Xo.mp hk with rfl|hk
 ·exact go _ _ _ a2 b2 (c _ m2) fun w acc=>t w acc (zk,1) (.tail _ (.head _))
 rcases Xo.mp hk with rfl|hk
 ·exact go _ _ _ a3 b3 (c _ m3) fun w acc=>t w acc (zp,2) (.tail _ (.tail _ (.head _)))
 rcases Xo.mp hk with rfl|hk
 ·exact go _ _ _ a4 b4 (c _ m4) fun w acc=>t w acc (zo,3) (.tail _ (.tail _ (.tail _ (.head _))))
 ·cases hk
def OD:i5 QQ Db=true:=by rfl'
def IB(n:Nat)(f:Nat×Nat×Nat){ws:List Wt}(hz:ws.length≤1000)(d:Dk){k:Nat}(hk:k∈[0,1,2,3]):af (n+2) Db [lW ws,eI k,gG f] (g1 d)=some (eN (fJ ws k),g1 d):=by exact ao OD (Uj ..) (((bx ‹[0,1,2,3].map (fun k=>run QQ [] 0 (ac (n+1)) (OW f (ws.map eW) k) (s0 d))=[0,1,2,3].map fun k=>ag (n+1) (UM k) [.lst (ws.map eW),gG f] ⟨[⟨.lst [.int 1,.int 2,.int 3,.int 4],.mut⟩],g1 d⟩ fun r=>(fi r.2 r.1).bind fun z=>some (.ret z.1,OW f (ws.map eW) k++[(120265181065843,.loc 0)],z.2)› k hk).trans (ad (ae (aJ (dC (ni ws)) (aJ (iw f) am))) (P8 n f hz d k hk))).trans (aB (dP (q8 _)))) rfl (ak _)
def zw(n:Nat)(f:Nat×Nat×Nat)(ws:List Wt)(d:Dk):af (n+1) Db [lW ws,eI 4,gG f] (g1 d)=some (.none,g1 d):=ao OD (Uj ..) (Wp ..) rfl (ak _)
def GA:i5 Ht Rp=true:=by rfl'
def xB:aN Ht [] 0=true:=by rfl'
def Rc(s:St)(a b:Nat):aM s .Eq (eI a) (eI b)=some (decide (a=b)):=(yR rfl rfl rfl rfl).trans (YH some (sj a b))
section
variable{n:Nat}{d:Dk}{A B:List Nat}
theorem wR:∀(a b p:List Nat),A=p++a->B=p++b->∃y,au (ai Ht [0] (ac n)) ((List.range' p.length (min a.length b.length)).map eI) (zc (A.map eI) (B.map eI)) (s0 d)=some (y,zc (A.map eI) (B.map eI),s0 d)∧
  ((y=.next∧(a.length=b.length->A=B))∨∃c:Int,y=.ret (.int c)∧c≠0∧A≠B)
|[],b,p,ha,hb=>by rw[show min ([]:List Nat).length b.length=0 from Nat.zero_min _];refine⟨.next,rfl,.inl ⟨rfl,fun e=>?_⟩⟩;rw[ha,hb,Yw.mp e.symm]
|x::a,[],p,ha,hb=>⟨.next,rfl,.inl ⟨rfl,fun e=>nomatch e⟩⟩
|x::a,y::b,p,ha,hb=>by
  let' ia:=bS (f:=eI) ha;let' ib:=bS (f:=eI) hb;let' h2:=‹ai Ht [0] (ac n) (eI p.length) (zc (A.map eI) (B.map eI)) (s0 d)=(cC (A.map eI) p.length).bind fun a=>(cC (B.map eI) p.length).bind fun b=>(aM (s0 d) .NotEq a b).bind fun c=>if c=true then(cC (A.map eI) p.length).bind fun a=>(cC (B.map eI) p.length).bind fun b=>(aM (s0 d) .Lt a b).bind fun c=>if c=true then some (Fl.ret (.int (-1)),zc (A.map eI) (B.map eI)++[(24948,eI p.length)],s0 d) else some (Fl.ret (.int 1),zc (A.map eI) (B.map eI)++[(24948,eI p.length)],s0 d) else some (Fl.next,zc (A.map eI) (B.map eI)++[(24948,eI p.length)],s0 d)›.trans ((aB ia).trans ((aB ib).trans (aB (ta (Rc (s0 d) x y)))))
  rw[XG,XG,Nat.succ_min_succ];by_cases e:x=y
  ·subst e;rw[Yc rfl] at h2;obtain⟨u,f,g⟩:=wR a b (p++[x]) (bE ha) (bE hb);rw[Xl] at f;exact⟨u,(be h2 rfl).trans f,g.imp (fun z=>⟨z.1,fun q=>z.2 (Nat.succ.inj q)⟩) id⟩
  ·rw[Yd e] at h2;let' ne:A≠B:=(fun q=>e (List.head_eq_of_cons_eq (List.append_cancel_left ((ha.symm.trans q).trans hb))))
   let' h3:=h2.trans ((aB ia).trans (aB ib));by_cases q:(x:Int)<y
   ·exact⟨_,mF (h3.trans (aB (v:=true) (YH some (Yc q)))),.inr ⟨-1,rfl,by decide,ne⟩⟩
   ·exact⟨_,mF (h3.trans (aB (v:=false) (YH some (Yd q)))),.inr ⟨1,rfl,by decide,ne⟩⟩
def zJ(a b:Nat):min (a:Int) b=((min a b:Nat)):=by
 rcases Nat.le_total a b with h|h
 ·rw[Nat.min_eq_left h,Int.min_eq_left (Yp.mpr h)]
 ·rw[Nat.min_eq_right h,Int.min_eq_right (Yp.mpr h)]
def Nj(ha:A.length≤1000):∃c:Int,af (n+1) Rp [eN A,eN B] (g1 d)=some (.int c,g1 d)∧(c=0↔A=B):=by
 obtain⟨y,f,h⟩:=wR A B [] rfl rfl;have em:min ((A.map eI).length:Int) ((B.map eI).length:Int)=((min A.length B.length:Nat)):=by rw[Xm,Xm];exact zJ _ _
 have h1:=‹ah Ht [] 0 (ac n) (zc (A.map eI) (B.map eI)) (s0 d)=(cR 0 (min ((A.map eI).length:Int) (B.map eI).length) 1).bind fun l=>gC l (zc (A.map eI) (B.map eI)) (s0 d) (ai Ht [0] (ac n))›.trans ((aB (by rw[em,dw (Xk (Nat.min_le_left _ _) ha),Zh];rfl)).trans (bJ f));rcases h with⟨rfl,k⟩|⟨c,rfl,hc,ne⟩
 ·have h3:=‹run Ht [] 1 (ac n) (zc (A.map eI) (B.map eI)) (s0 d)=if oH (.int (A.map eI).length) (.int (B.map eI).length)=true then some (Fl.ret (.int 0),zc (A.map eI) (B.map eI),s0 d) else if decide (((A.map eI).length:Int)<(B.map eI).length)=true then some (Fl.ret (.int (-1)),zc (A.map eI) (B.map eI),s0 d) else some (Fl.ret (.int 1),zc (A.map eI) (B.map eI),s0 d)›
  rw[Xm,Xm,show oH (.int A.length) (.int B.length)=decide (A.length=B.length) from sj _ _] at h3;by_cases e:A.length=B.length
  ·exact⟨0,ao GA (QR ..) ((aa xB h1).trans (h3.trans (dT e))) rfl (ak _),fun x=>k e,fun x=>rfl⟩
  ·have h3:=h3.trans (M2 e);have ne:A≠B:=fun q=>e (YH _ q)
   by_cases q:(A.length:Int)<B.length
   ·exact⟨-1,ao GA (QR ..) ((aa xB h1).trans (h3.trans (dT q))) rfl (ak _),fun z=>absurd z (by decide),fun z=>absurd z ne⟩
   ·exact⟨1,ao GA (QR ..) ((aa xB h1).trans (h3.trans (M2 q))) rfl (ak _),fun z=>absurd z (by decide),fun z=>absurd z ne⟩
 ·exact⟨c,ao GA (QR ..) (dG xB h1) rfl (ak _),fun z=>absurd z hc,fun z=>absurd z ne⟩
end
def Oy:i5 q6 Sf=true:=by rfl'
def Ih:aN q6 [] 0=true:=by rfl'
def IK:aN q6 [] 1=true:=by rfl'
def Ho:aN q6 [(1,true)] 0=true:=by rfl'
section
variable{n:Nat}{f:Nat×Nat×Nat}{d:Dk}{a b:List Wt}
def GY(ha:a.length≤1000)(hb:b.length≤1000){k:Nat}(hk:k∈[0,1,2,3]):∃c:Int,(∃w,aD q6 [1] (ac (n+2)) (oJ f (a.map eW) (b.map eW) k 0) (s0 d)=some (.next,w,s0 d)∧aA (oJ f (a.map eW) (b.map eW) k 0) w=oJ f (a.map eW) (b.map eW) (k+1) c)∧(c=0↔fJ a k=fJ b k):=by
 obtain⟨c,h,hc⟩:=Nj (n:=n+1) (A:=fJ a k) (B:=fJ b k) (by unfold fJ;rw[Xm];exact Xk (List.length_filter_le _ _) ha);let' k3:=‹run q6 [(1,true)] 1 (ac (n+2)) (oJ f (a.map eW) (b.map eW) k (0:Int)++[(1852137842,.lst ((fJ a k).map eI)),(6709618,.lst ((fJ b k).map eI))]) (s0 d)=ag (n+2) Rp [.lst ((fJ a k).map eI),.lst ((fJ b k).map eI)] (s0 d) fun r=>some (.next,[(7302757,.lst (a.map eW)),(478694368626,.lst (b.map eW)),(31367367702310515,gG f),(121450625394034,eI (k+1)),(1953459300,r.1),(1852137842,.lst ((fJ a k).map eI)),(6709618,.lst ((fJ b k).map eI))],r.2)›.trans (ad (ae (aJ (q8 _) (aJ (q8 _) am))) h)
 exact⟨c,⟨[(7302757,.lst (a.map eW)),(478694368626,.lst (b.map eW)),(31367367702310515,gG f),(121450625394034,eI (k+1)),(1953459300,.int c),(1852137842,eN (fJ a k)),(6709618,eN (fJ b k))],(Va ..).trans ((aa Ho ((Vg ..).trans ((ad (n:=n+2) (k:=Db) (s:=s0 d) (K:=fun r=>ag (n+2) Db [lW b,eI k,gG f] r.2 fun q=>some (Fl.next,oJ f (a.map eW) (b.map eW) k 0++[(1852137842,r.1),(6709618,q.1)],q.2)) (ae (aJ (dC (ni a)) (aJ (bq _) (aJ (iw f) am)))) (IB n f ha d hk)).trans (ad (n:=n+2) (k:=Db) (s:=s0 d) (K:=fun q=>some (Fl.next,oJ f (a.map eW) (b.map eW) k 0++[(1852137842,eN (fJ a k)),(6709618,q.1)],q.2)) (ae (aJ (dC (ni b)) (aJ (bq _) (aJ (iw f) am)))) (IB n f hb d hk))))).trans k3),rfl⟩,hc⟩
def LB:aD q6 [1] (ac (n+2)) (oJ f (a.map eW) (b.map eW) 4 0) (s0 d)=some (.ret (.int 0),oJ f (a.map eW) (b.map eW) 4 0++[(1852137842,.none),(6709618,.none)],s0 d):=by exact(Va ..).trans ((aa Ho ((Vg ..).trans ((ad (n:=n+2) (k:=Db) (s:=s0 d) (K:=fun r=>ag (n+2) Db [lW b,eI 4,gG f] r.2 fun q=>some (Fl.next,oJ f (a.map eW) (b.map eW) 4 0++[(1852137842,r.1),(6709618,q.1)],q.2)) (ae (aJ (dC (ni a)) (aJ (bq _) (aJ (iw f) am)))) (zw (n+1) f a d)).trans (ad (n:=n+2) (k:=Db) (s:=s0 d) (K:=fun q=>some (Fl.next,oJ f (a.map eW) (b.map eW) 4 0++[(1852137842,.none),(6709618,q.1)],q.2)) (ae (aJ (dC (ni b)) (aJ (bq _) (aJ (iw f) am)))) (zw (n+1) f b d))))).trans (by rfl'))
def AC{t:YA->St->Option (Bool×St)}{b:YA->St->Option R3}{V W:YA}{s s':St}{v:PV}{n:Nat}(h:t V s=some (true,s))(hb:b V s=some (.ret v,W,s')):aT t b (n+1) V s=some (.ret v,V,s'):=by refine(?_:(t V s).bind _=_);rw[h];refine(?_:(b V s).bind _=_);rw[hb];rfl
noncomputable def uL(a b:List Wt):List Nat->Prop
|[]=>True
|k::r=>fJ a k=fJ b k∧uL a b r
def Ga(ha:a.length≤1000)(hb:b.length≤1000)(r:List Nat):∀(k m:Nat),r=List.range' k r.length->k+r.length=4->r.length<m->(∀x∈r,x∈[0,1,2,3])->∃(y:Fl) (W:YA) (c:Int),aT (aI q6 [1] (ac (n+2))) (aD q6 [1] (ac (n+2))) m (oJ f (a.map eW) (b.map eW) k 0) (s0 d)=some (y,W,s0 d)∧(c=0↔uL a b r)∧(y=.ret (.int c)∨(y=.next∧∃k',W=oJ f (a.map eW) (b.map eW) k' c)):=by
 induction r with
|nil=>intro k m _ hk Ò _;obtain⟨m,rfl⟩:=dS Ò;obtain rfl:k=4:=hk;exact⟨_,_,0,AC ((SG ..).trans rfl) LB,⟨fun v=>trivial,fun v=>rfl⟩,.inl rfl⟩
|cons x r ih=>
  intro k m e hk hm hx;obtain⟨m,rfl⟩:=dS hm;injection e with e1 e2
  subst e1;obtain⟨c,⟨w,h1,h2⟩,hc⟩:=GY ha hb (hx x (.head _));have g:=gy (n:=m) ((SG (n+2) f (a.map eW) (b.map eW) x d 0).trans rfl) h1 h2;by_cases q:c=0
  ·subst q;obtain⟨y,W,c',u1,u2,u3⟩:=ih (x+1) m e2 (by rw[XD];exact hk) (Yv hm) fun y hy=>hx y (.tail _ hy)
   exact⟨y,W,c',g.trans u1,⟨fun z=>⟨hc.mp rfl,u2.mp z⟩,fun z=>u2.mpr z.2⟩,u3⟩
  ·cases m with
   |zero=>exact absurd hm (Yn.mpr (Yx (Nat.zero_le _)))
   |succ m=>exact⟨_,_,c,g.trans (cQ ((SG (n+2) f (a.map eW) (b.map eW) (x+1) d c).trans (by rw[Y4.mpr q]))),⟨fun z=>absurd z q,fun z=>absurd (hc.mpr z.1) q⟩,.inr ⟨rfl,_,rfl⟩⟩
def JV:uL a b [0,1,2,3]↔iG a=iG b:=⟨fun h=>by obtain⟨h0,h1,h2,h3,_⟩:=h;unfold iG;rw[h0,h1,h2,h3],fun h=>⟨YH (·.1) h,YH (·.2.1) h,YH (·.2.2.1) h,YH (·.2.2.2) h,trivial⟩⟩
def O9(ha:a.length≤1000)(hb:b.length≤1000):∃c:Int,af (n+3) Sf [lW a,lW b,gG f] (g1 d)=some (.int c,g1 d)∧(c=0↔iG a=iG b):=by
 obtain⟨y,W,c,h,hc,hy⟩:=Ga ha hb [0,1,2,3] 0 aS rfl rfl (by decide) fun x h=>h
 refine⟨c,?_,hc.trans JV⟩;let' h2:=‹ah q6 [] 1 (ac (n+2)) (oJ f (a.map eW) (b.map eW) 0 0) (s0 d)=(aT (aI q6 [1] (ac (n+2))) (aD q6 [1] (ac (n+2))) aS (oJ f (a.map eW) (b.map eW) 0 0) (s0 d)).bind some›.trans (aB h);rcases hy with rfl|⟨rfl,k',rfl⟩
 ·exact ao Oy (UH ..) ((aa Ih (U4 ..)).trans (dG IK h2)) rfl (ak _)
 ·exact ao Oy (UH ..) ((aa Ih (U4 ..)).trans ((aa IK h2).trans (Xa ..))) rfl (ak _)
end
section
variable{n:Nat}{t l:List (PV×PV)}{f:Nat×Nat×Nat}{el:Int->List El}{d:Dk}{L M:List Int}
def Ph(T:bU t l f el)(N:bR t l)(hz:L.length≤100)(hs:∀y∈L,y∈sg):af (n+16) ND [.lst (L.map .int),D0,bw t l f,gG f] (g1 d)=some (lE (L.flatMap el),g1 d):=by exact ao (by rfl') (by rfl') ((‹run WT [] 0 (ac (n+15)) (UI t l f (L.map .int)) (s0 d)=ag (n+15) Pj [bw t l f,.lst (L.map .int),D0] (s0 d) fun r=>(fi r.2 r.1).bind fun z=>some (.ret z.1,UI t l f (L.map .int),z.2)›.trans (ad (ae (aJ N.nl (aJ (dC (fK L)) (aJ cK am)))) (Dr T N hz hs))).trans (aB (j7 (oY _)))) rfl (ak _)
def wY(T:bU t l f el)(hz:L.length≤100)(hs:∀y∈L,y∈sg):(hB f el L).length≤1000:=by unfold hB;rw[fu];exact mN T hz hs
def N9(T:bU t l f el)(N:bR t l)(hz:L.length≤100)(hs:∀y∈L,y∈sg)(K:PV×St->Option R3):ag (n+16) ND [.lst (L.map .int),D0,bw t l f,gG f] (s0 d) (fun r=>ag (n+16) Ea [r.1,hS,.int f.1] r.2 K)=K (lW (hB f el L),s0 d):=by exact(ad (n:=n+16) (k:=ND) (s:=s0 d) (K:=fun r=>ag (n+16) Ea [r.1,hS,.int f.1] r.2 K) (ae (aJ (dC (fK L)) (aJ cK (aJ N.nl (aJ (iw f) am))))) (Ph T N hz hs)).trans (ad (n:=n+16) (k:=Ea) (s:=s0 d) (ae (aJ (dC (oY _)) (aJ xn (aJ (bq _) am)))) (AR (n+14) f.1 (mN T hz hs) d))
def Px(T:bU t l f el)(N:bR t l)(hz:L.length≤100)(hs:∀y∈L,y∈sg)(ĉ:M.length≤100)(Z0:∀y∈M,y∈sg):∃c:Int,af (n+17) NT [.lst (M.map .int),.lst (L.map .int),D0,bw t l f,gG f] (g1 d)=some (.int c,g1 d)∧(c=0↔uQ f el M=uQ f el L):=by
 obtain⟨c,h,hc⟩:=O9 (n:=n+13) (wY T ĉ Z0) (wY T hz hs);refine⟨c,?_,hc⟩;let' h3:=‹ah QY [] 2 (ac (n+16)) (GM t l f (M.map .int) (L.map .int)++[(1852137842,.lst ((hB f el M).map eW)),(6709618,.lst ((hB f el L).map eW))]) (s0 d)=ag (n+16) Sf [.lst ((hB f el M).map eW),.lst ((hB f el L).map eW),gG f] (s0 d) fun r=>some (.next,GM t l f (M.map .int) (L.map .int)++[(1852137842,.lst ((hB f el M).map eW)),(6709618,.lst ((hB f el L).map eW)),(1953459300,r.1)],r.2)›.trans (ad (ae (aJ (dC (ni _)) (aJ (dC (ni _)) (aJ (iw f) am)))) h);exact ao (by rfl') (by rfl') ((aa (by rfl') (‹ah QY [] 0 (ac (n+16)) (GM t l f (M.map .int) (L.map .int)) (s0 d)=ag (n+16) ND [.lst (M.map .int),D0,bw t l f,gG f] (s0 d) fun r=>ag (n+16) Ea [r.1,hS,.int f.1] r.2 fun r=>some (.next,GM t l f (M.map .int) (L.map .int)++[(1852137842,r.1)],r.2)›.trans (N9 T N ĉ Z0 _))).trans ((aa (by rfl') (‹ah QY [] 1 (ac (n+16)) (GM t l f (M.map .int) (L.map .int)++[(1852137842,(lW (hB f el M)))]) (s0 d)=ag (n+16) ND [.lst (L.map .int),D0,bw t l f,gG f] (s0 d) fun r=>ag (n+16) Ea [r.1,hS,.int f.1] r.2 fun r=>some (.next,GM t l f (M.map .int) (L.map .int)++[(1852137842,(lW (hB f el M))),(6709618,r.1)],r.2)›.trans (N9 T N hz hs _))).trans ((aa (by rfl') h3).trans ((WC ..).trans (ite_self _))))) rfl (ak _)
end
def sx(X:List Ent)(R:List PV)(d:Dk):St:=⟨X++[⟨.lst R,.mut⟩],g1 d⟩
def Tb(X:List Ent)(R:List PV)(d:Dk):St:=⟨X++[⟨.lst R,.Zw⟩],g1 d⟩
def f7{α:Type}(X:List α)(e:α):(X++[e])[X.length]?=some e:=by rw[List.getElem?_append_right (Xx _),Nat.sub_self];rfl
def nJ{α:Type}(X:List α)(e e':α):(X++[e]).set X.length e'=X++[e']:=by rw[List.set_append_right _ _ (Xx _),Nat.sub_self];rfl
def A7{X:List Ent}{R:List PV}{v:PV}{d:Dk}(h:R.length<1000):Zm (sx X R d) (.loc X.length) [v]=some (.none,sx X (R++[v]) d):=by show(((X++[(⟨.lst R,.mut⟩:Ent)])[X.length]?.map fun e=>e.o).bind _).bind _=_;rw[f7];show(if(aq (R++[v])&&true)=true then(((X++[(⟨.lst R,.mut⟩:Ent)])[X.length]?).bind _).bind _ else none)=_;rw[yv h];refine(gM rfl).trans ?_;rw[f7];show some (PV.none,(⟨(X++[(⟨.lst R,.mut⟩:Ent)]).set X.length _,g1 d⟩:St))=_;rw[nJ];rfl
def TH(n:Nat)(σ:St)(j:Nat)(x:PV)(K:PV×St->Option R3):Option R3:=sG (sw 107135549927012).1 (uR 107135549927012).1 (fun z z z s k=>k (.loc j,s)) 107135549927012 [fun z z z s k=>k (x,s)] R3 (ac n) [] σ K
def B0{n:Nat}{X:List Ent}{R:List PV}{v:PV}{d:Dk}{K:PV×St->Option R3}(h:R.length<1000):TH n (sx X R d) X.length v K=K (.none,sx X (R++[v]) d):=by show(((X++[(⟨.lst R,.mut⟩:Ent)])[X.length]?.map fun e=>e.o).bind _)=_;rw[f7,‹(sw 107135549927012).1=some Zm›];show(Zm (sx X R d) (.loc X.length) [v]).bind K=_;rw[A7 h];rfl
def x7(X:List Ent)(R:List PV)(d:Dk):iB (sx X R d) (.loc X.length)=some R:=by show((((X++[(⟨.lst R,.mut⟩:Ent)])[X.length]?).map fun e=>e.o).bind _)=_;rw[f7];rfl
def x0(X:List Ent)(R:List PV)(d:Dk):aK (sx X R d) (.loc X.length)=(Tb X R d,some (.loc X.length)):=by
 show(if cH (X++[(⟨.lst R,.mut⟩:Ent)]) X.length=true then _ else _)=_;have e:cH (X++[(⟨.lst R,.mut⟩:Ent)]) X.length=true:=by unfold cH;rw[f7]
 rw[Yh e];show((⟨lT (X++[(⟨.lst R,.mut⟩:Ent)]) X.length,g1 d⟩:St),_)=_;unfold lT;rw[f7];show((⟨(X++[(⟨.lst R,.mut⟩:Ent)]).set X.length _,g1 d⟩:St),_)=_;rw[nJ];rfl
def tG(X:List Ent)(R:List PV)(d:Dk):aO (Tb X R d) (some (.loc X.length))=sx X R d:=by show(⟨dW (X++[(⟨.lst R,.Zw⟩:Ent)]) X.length,g1 d⟩:St)=_;unfold dW;rw[f7];show(⟨(X++[(⟨.lst R,.Zw⟩:Ent)]).set X.length _,g1 d⟩:St)=_;rw[nJ];rfl
def uP(k:Nat)(p q:List Nat)(C:Zn)(vs:YA)(y:PV)(acc:List PV)(s:St):Option (List PV×St):=match oF k with
|none=>none
|some d=>match yk d.b p with
  |none=>none
  |some st=>match I1 st with
   |none=>none
   |some e=>match Df e q with
    |some (.ListComp e _ YT _)=>Ce YT e C vs y acc s
    |z=>none
def Hi:Nat:=115359766379432254382499187
def dn:Nat:=159
section
variable(n:Nat)(t l:List (PV×PV))(f:Nat×Nat×Nat)(tx F R:List PV)(j p s z:Nat)(x:Int)(d:Dk)(X:List Ent)(σ:St)(b v:Bool)
def Un:YA:=[(1952807028,.lst tx),(499850046565,bw t l f),(1684108385,D0)]
def zi:YA:=Un t l f tx++[(439956631140,.loc 0),(1945221599364335103588,.bool b),(7630704,.int ((65535*f.1:Nat)))]
def oh:YA:=zi t l f tx b++[(1668244581,.int x),(1919907699,.loc j)]
def jy:YA:=oh t l f tx j x b++[(439855772532,.int p),(126879297138276,.int s),(499967947364,.int z),(127482044175978041098529893,.bool v)]
def Wu:bf dn [.lst tx,bw t l f,D0]=some (Un t l f tx):=by rfl'
def VO:ah dn [(1,true)] 0 (ac n) (zi t l f tx b++[(1668244581,.int x)]) σ=some (.next,oh t l f tx σ.l.length x b,⟨σ.l++[⟨.lst [],.mut⟩],σ.g⟩):=by rfl'
def Mt:ai dn [1,1] (ac n) (eE (p,s,z,v)) (oh t l f tx j x b) σ=run dn [(1,true),(1,true)] 0 (ac n) (jy t l f tx j p s z x b v) σ:=by rfl'
def Ug:bn dn [(1,true),(1,true)] 0 (ac n) (jy t l f tx j p s z x b v) σ=some (decide ((p:Int)>0),σ):=by rfl'
def UT:bn dn [(1,true),(1,true)] 1 (ac n) (jy t l f tx j p s z x b v) σ=if decide ((p:Int)>0)=true then(if v=true then some (true,σ) else some (false,σ)) else some (false,σ):=by rfl'
def RK:run dn [(1,true),(1,true),(1,true)] 0 (ac n) (jy t l f tx j p s z x b v) σ=TH n σ j (eW (0,0,0,p)) fun r=>some (.next,jy t l f tx j p s z x b v,r.2):=by rfl'
def Oj:bn dn [(1,true),(1,true),(1,false)] 0 (ac n) (jy t l f tx j p s z x b v) σ=if decide ((p:Int)+s+z>0)=true then(if((p:Int)==0)=true then(if b=true then some (false,σ) else some (true,σ)) else some (true,σ)) else some (false,σ):=by rfl'
def Sz:run dn [(1,true),(1,true),(1,false),(0,true)] 0 (ac n) (jy t l f tx j p s z x b v) σ=TH n σ j (eW (p,s,z,65535*f.1)) fun r=>some (.next,jy t l f tx j p s z x b v,r.2):=by rfl'
def I5:run dn [(1,true),(1,true),(1,false)] 1=fun C vs s=>some (.next,vs,s):=by rfl'
def Cp:run dn [(1,true),(1,true)] 2=fun C vs s=>some (.next,vs,s):=by rfl'
def Rl:run dn [(1,true)] 2 (ac n) (oh t l f tx j x b) ⟨⟨.lst F,.mut⟩::X,g1 d⟩=(((ar (aH dn [1,2] [1] (ac n) (oh t l f tx j x b)) ([0,1,2,3].map eI) [] ⟨⟨.lst F,.mut⟩::X,g1 d⟩).bind fun y=>some (y.1,aO y.2 none)).bind fun y=>some (PV.lst y.1,y.2)).bind fun y=>(Zm y.2 (.loc 0) [y.1]).bind fun r=>some (.next,oh t l f tx j x b,r.2):=by rfl'
def Tg:run dn [] 2 (ac n) (zi t l f tx b) ⟨⟨.lst F,.mut⟩::X,g1 d⟩=(if aj F=true then some (PV.lst F,(⟨⟨.lst F,.ZG⟩::X,g1 d⟩:St)) else none).bind fun y=>some (.ret y.1,zi t l f tx b,y.2):=by rfl'
end
noncomputable def gW(w:Wt):List Wt:=if w=(0,0,0,0) then[] else[w]
def P1:aN dn [(1,true),(1,true)] 0=true:=by rfl'
def I3:kK dn [(1,true),(1,true)] 0=true:=by rfl'
def KA:aN dn [(1,true),(1,true)] 1=true:=by rfl'
def AA:kK dn [(1,true),(1,true)] 1=true:=by rfl'
def Qc:aN dn [(1,true),(1,true),(1,false)] 0=true:=by rfl'
def Id:kK dn [(1,true),(1,true),(1,false)] 0=true:=by rfl'
section
variable{n:Nat}{t l:List (PV×PV)}{f:Nat×Nat×Nat}{tx R:List PV}{p s z:Nat}{x:Int}{d:Dk}{X:List Ent}{b v:Bool}
def Lj(hR:R.length<1000)(h1:bn dn [(1,true),(1,true)] 1 (ac n) (jy t l f tx X.length p s z x b v) (sx X R d)=some (true,sx X R d)):run dn [(1,true),(1,true)] 1 (ac n) (jy t l f tx X.length p s z x b v) (sx X R d)=some (.next,jy t l f tx X.length p s z x b v,sx X (R++[eW (0,0,0,p)]) d):=
 (bk KA AA h1 ((RK ..).trans (B0 hR))).trans (YI (YI (YI Cp _) _) _)
def xH(hR:R.length<1000)(h1:bn dn [(1,true),(1,true)] 1 (ac n) (jy t l f tx X.length p s z x b v) (sx X R d)=some (false,sx X R d))(h2:bn dn [(1,true),(1,true),(1,false)] 0 (ac n) (jy t l f tx X.length p s z x b v) (sx X R d)=some (true,sx X R d)):
  run dn [(1,true),(1,true)] 1 (ac n) (jy t l f tx X.length p s z x b v) (sx X R d)=some (.next,jy t l f tx X.length p s z x b v,sx X (R++[eW (p,s,z,65535*f.1)]) d):=
 (bk KA AA h1 ((bk Qc Id h2 ((Sz ..).trans (B0 hR))).trans (YI (YI (YI I5 _) _) _))).trans (YI (YI (YI Cp _) _) _)
def B5(h1:bn dn [(1,true),(1,true)] 1 (ac n) (jy t l f tx X.length p s z x b v) (sx X R d)=some (false,sx X R d))(h2:bn dn [(1,true),(1,true),(1,false)] 0 (ac n) (jy t l f tx X.length p s z x b v) (sx X R d)=some (false,sx X R d)):
  run dn [(1,true),(1,true)] 1 (ac n) (jy t l f tx X.length p s z x b v) (sx X R d)=some (.next,jy t l f tx X.length p s z x b v,sx X (R++[]) d):=by
 rw[Xu];exact(bk KA AA h1 ((bk Qc Id h2 (YI (YI (YI ‹run dn [(1,true),(1,true),(1,false),(0,false)] 0=fun C vs s=>some (.next,vs,s)› _) _) _)).trans (YI (YI (YI I5 _) _) _))).trans (YI (YI (YI Cp _) _) _)
def AB(k:Nat):decide (((k+1:Nat):Int)>0)=true:=Yc (Yo.mpr (XT k))
def GP(hR:R.length<1000):∀(y:El),∃w,ai dn [1,1] (ac n) (eE y) (oh t l f tx X.length x b) (sx X R d)=some (.next,w,sx X (R++(gW (us (65535*f.1) b y).2).map eW) d)∧aA (oh t l f tx X.length x b) w=oh t l f tx X.length x (us (65535*f.1) b y).1
|(p+1,s,z,v)=>by
  let' h0:run dn [(1,true),(1,true)] 0 (ac n) (jy t l f tx X.length (p+1) s z x b v) (sx X R d)=run dn [(1,true),(1,true)] 1 (ac n) (jy t l f tx X.length (p+1) s z x v v) (sx X R d):=bk P1 I3 ((Ug ..).trans (by rw[AB])) (by rfl');let' h1:bn dn [(1,true),(1,true)] 1 (ac n) (jy t l f tx X.length (p+1) s z x v v) (sx X R d)=some (v,sx X R d):=(UT ..).trans ((gM (AB p)).trans (by cases v<;>rfl));cases v with
  |true=>exact⟨jy t l f tx X.length (p+1) s z x true true,(Mt ..).trans (h0.trans (Lj hR h1)),rfl⟩
  |false=>let' h2:bn dn [(1,true),(1,true),(1,false)] 0 (ac n) (jy t l f tx X.length (p+1) s z x false false) (sx X R d)=some (true,sx X R d):=(Oj ..).trans ((dT (Yo.mpr (XI (XT p) (Xk (XH _ s) (XH _ z))))).trans rfl);exact⟨jy t l f tx X.length (p+1) s z x false false,(Mt ..).trans (h0.trans (xH hR h1 h2)),rfl⟩
|(0,s,z,v)=>by
  let' h0:run dn [(1,true),(1,true)] 0 (ac n) (jy t l f tx X.length 0 s z x b v) (sx X R d)=run dn [(1,true),(1,true)] 1 (ac n) (jy t l f tx X.length 0 s z x b v) (sx X R d):=bk P1 I3 ((Ug ..).trans rfl) (YI (YI (YI ‹run dn [(1,true),(1,true),(0,false)] 0=fun C vs s=>some (.next,vs,s)› _) _) _);let' h1:bn dn [(1,true),(1,true)] 1 (ac n) (jy t l f tx X.length 0 s z x b v) (sx X R d)=some (false,sx X R d):=(UT ..).trans rfl;let' h2:=Oj n t l f tx X.length 0 s z x (sx X R d) b v;by_cases q:((0:Nat):Int)+s+z>0
  ·let' h2:=h2.trans ((dT q).trans (gM rfl));cases b with
   |true=>exact⟨jy t l f tx X.length 0 s z x true v,(Mt ..).trans (h0.trans (B5 h1 h2)),rfl⟩
   |false=>
    refine⟨jy t l f tx X.length 0 s z x false v,(Mt ..).trans (h0.trans ((xH hR h1 h2).trans ?_)),?_⟩
    ·cases s with
     |succ s=>rfl
     |zero=>cases z with
      |succ z=>rfl
      |zero=>exact absurd q (by decide)
    ·cases s with
     |succ s=>rfl
     |zero=>cases z with
      |succ z=>rfl
      |zero=>exact absurd q (by decide)
  ·obtain⟨rfl,rfl⟩:s=0∧z=0:=by
    let' k:0+s+z≤0:=Yp.mp (YC.mp q);exact⟨Nat.le_zero.mp (Xk (Xk (YK _ _) (XH _ z)) k),Nat.le_zero.mp (Xk (YK _ _) k)⟩
   refine⟨jy t l f tx X.length 0 0 0 x b v,(Mt ..).trans (h0.trans ((B5 h1 (h2.trans (M2 q))).trans ?_)),?_⟩<;>cases b<;>rfl
end
def ja(top:Nat)(b:Bool)(E:List El):List Wt:=(jg top b E).flatMap gW
def y5(top:Nat)(E:List El):∀(b:Bool) (R:List Wt),E.foldl (fun y x=>((us top y.1 x).1,y.2++gW (us top y.1 x).2)) (b,R)=(l6 top b E,R++ja top b E):=by
 induction E with
|nil=>intro b R;exact YH (b,·) (Xu R).symm
|cons x r ih=>intro b R;exact(ih _ _).trans (YH (_,·) (by show _=R++(_::_).flatMap gW;rw[List.flatMap_cons,Xr];rfl))
def wO(w:Wt):(gW w).length≤1:=by unfold gW;split;exact Nat.zero_le _;exact Xx _
def GR:∀k∈[0,1,2,3],pz k (0,0,0,0)=false:=by decide
def kr{k:Nat}(hk:k∈[0,1,2,3]):∀ws:List Wt,fJ (ws.flatMap gW) k=fJ ws k:=by
 intro ws;induction ws with
|nil=>exact rfl
|cons w r ih=>
  let' ih:=ih;unfold fJ at ih ⊢;rw[List.flatMap_cons,List.filter_append,XE,ih];unfold gW;by_cases e:w=(0,0,0,0)
  ·rw[Yh e,e,List.filter_cons_of_neg (by rw[GR k hk];decide)];rfl
  ·rw[Yg e];cases q:pz k w with
   |true=>rw[List.filter_cons_of_pos q,List.filter_cons_of_pos q];rfl
   |false=>rw[List.filter_cons_of_neg (by rw[q];decide),List.filter_cons_of_neg (by rw[q];decide)];rfl
def Dx(ws:List Wt):iG (ws.flatMap gW)=iG ws:=by unfold iG;rw[kr (by decide),kr (by decide),kr (by decide),kr (by decide)]
def MS(k:Nat)(w:Wt):decide (((pj k w:Nat):Int)>0)=pz k w:=by
 unfold pz;cases pj k w with
|zero=>rfl
|succ m=>exact AB m
section
variable{n:Nat}{t l:List (PV×PV)}{f:Nat×Nat×Nat}{el:Int->List El}{d:Dk}{L:List Int}
def yd{tx:List PV}{x:Int}{b:Bool}{ws:List Wt}(hz:ws.length≤1000)(X:List Ent):ar (aH dn [1,2] [1] (ac n) (oh t l f tx X.length x b)) ([0,1,2,3].map eI) [] (sx X (ws.map eW) d)=some ((bp (iG ws)).map eN,sx X (ws.map eW) d):=by
 have t1:∀k∈[0,1,2,3],∀acc,aH dn [1,2] [1] (ac n) (oh t l f tx X.length x b) (eI k) acc (sx X (ws.map eW) d)=if aq (acc++[eN (fJ ws k)])=true then some (acc++[eN (fJ ws k)],sx X (ws.map eW) d) else none:=fun k hk acc=>by
  let' c:=(hJ (f:=uP dn [1,2] [1] (ac n) (oh t l f tx X.length x b++[(465558725996,eI k)])) (g:=eW) (o:=fun w=>eI (pj k w)) (p:=pz k) (s:=Tb X (ws.map eW) d) (l:=ws) (acc:=[]) (Xk (XY (Xz _)) hz) fun w u acc=>(bx ‹[0,1,2,3].map (fun k=>uP dn [1,2] [1] (ac n) (oh t l f tx X.length x b++[(465558725996,eI k)]) (eW w) acc _)=[0,1,2,3].map fun k=>Nw (decide (((pj k w:Nat):Int)>0)) _ (fun s=>if aq (acc++[eI (pj k w)])=true then some (acc++[eI (pj k w)],s) else none) fun s=>some (acc,s)› k hk).trans ((uA ..).trans (by rw[MS])))
  let' e:([]:List PV)++(ws.filter (pz k)).map (fun w=>eI (pj k w))=(fJ ws k).map eI:=(YW (f:=pj k) (g:=eI) (l:=ws.filter (pz k))).symm;rw[e] at c;let' h:=‹aH dn [1,2] [1] (ac n) (oh t l f tx X.length x b) (eI k) acc (sx X (ws.map eW) d)=(((((iB (sx X (ws.map eW) d) (.loc X.length)).bind fun q=>some (q,(aK (sx X (ws.map eW) d) (.loc X.length)).2,(aK (sx X (ws.map eW) d) (.loc X.length)).1)).bind fun y=>(ar (uP dn [1,2] [1] (ac n) (oh t l f tx X.length x b++[(465558725996,eI k)])) y.1 [] y.2.2).bind fun z=>some (z.1,aO z.2 y.2.1)).bind fun y=>some (PV.lst y.1,y.2)).bind some).bind fun y=>if aq (acc++[y.1])=true then some (acc++[y.1],y.2) else none›
  rw[x7,x0] at h;refine h.trans (aB (v:=(eN (fJ ws k),sx X (ws.map eW) d)) (aB (f:=some) (aB (v:=((fJ ws k).map eI,sx X (ws.map eW) d)) ((aB rfl).trans ((aB c).trans ?_)))));rw[tG]
 exact(g7 (f:=aH dn [1,2] [1] (ac n) (oh t l f tx X.length x b)) (g:=eI) (o:=fun k=>eN (fJ ws k)) (s:=sx X (ws.map eW) d) (l:=[0,1,2,3]) (acc:=[]) (by decide) t1)
def Bz(top:Nat)(b:Bool)(E:List El):(ja top b E).length≤E.length:=by
 have h:∀ws:List Wt,(ws.flatMap gW).length≤ws.length:=fun ws=>by
  induction ws with
  |nil=>exact Xx _
  |cons w r ih=>rw[List.flatMap_cons,Xl,XG,XZ];exact XR ih (wO w)
 exact Xk (h _) (XY (fu top E b))
end
section
variable{n:Nat}{t l:List (PV×PV)}{f:Nat×Nat×Nat}{el:Int->List El}{d:Dk}{L:List Int}
def Gs{n:Nat}{tx F:List PV}{j:Nat}{x:Int}{b:Bool}{u:PV}{X:List Ent}(hF:F.length<1000)(h:(((ar (aH dn [1,2] [1] (ac n) (oh t l f tx j x b)) ([0,1,2,3].map eI) [] ⟨⟨.lst F,.mut⟩::X,g1 d⟩).bind fun y=>some (y.1,aO y.2 none)).bind fun y=>some (PV.lst y.1,y.2))=some (u,⟨⟨.lst F,.mut⟩::X,g1 d⟩)):
  run dn [(1,true)] 2 (ac n) (oh t l f tx j x b) ⟨⟨.lst F,.mut⟩::X,g1 d⟩=some (.next,oh t l f tx j x b,⟨⟨.lst (F++[u]),.mut⟩::X,g1 d⟩):=by
 rw[Rl,h];exact aB (‹Zm ⟨⟨.lst F,.mut⟩::X,g1 d⟩ (.loc 0) [u]=if(aq (F++[u])&&true)=true then some (PV.none,⟨⟨.lst (F++[u]),.mut⟩::X,g1 d⟩) else none›.trans (gM (by rw[yv hF];rfl)))
def Ee(T:bU t l f el)(N:bR t l){tx:List PV}{x:Int}(hx:x∈sg)(b:Bool)(F:List Q4)(hF:F.length<1000)(X:List Ent):∃w,ai dn [1] (ac (n+15)) (.int x) (zi t l f tx b) ⟨⟨.lst (F.map fun q=>bK (bp q)),.mut⟩::X,g1 d⟩=
   some (.next,w,⟨⟨.lst ((F++[iG (jg (65535*f.1) b (el x))]).map fun q=>bK (bp q)),.mut⟩::(X++[⟨.lst ((ja (65535*f.1) b (el x)).map eW),.mut⟩]),g1 d⟩)∧aA (zi t l f tx b) w=zi t l f tx (l6 (65535*f.1) b (el x)):=by
 let' hl:(el x).length≤2:=T.len x hx;have fo:=bV (f:=ai dn [1,1] (ac (n+15))) (g:=eE) (V:=fun y:Bool×List Wt=>oh t l f tx (X.length+1) x y.1) (S:=fun y=>sx (⟨.lst (F.map fun q=>bK (bp q)),.mut⟩::X) (y.2.map eW) d) (step:=fun y z=>((us (65535*f.1) y.1 z).1,y.2++gW (us (65535*f.1) y.1 z).2)) (fun y r=>y.2.length+r.length≤1000)
  (fun y z r h=>by
   refine⟨?_,?_⟩
   ·rw[Xl,XS];exact Xk (XA (by rw[XG,XZ];exact XA (wO _) _) _) h
   ·obtain⟨w,e1,e2⟩:=GP (n:=n+15) (tx:=tx) (R:=y.2.map eW) (x:=x) (d:=d) (X:=⟨.lst (F.map fun q=>bK (bp q)),.mut⟩::X) (b:=y.1) (by rw[Xm];exact(fv h:y.2.length<1000)) z;rw[<-XE] at e1;exact⟨w,e1,e2⟩)
  (el x) (b,[]) (Xk (XY (Xz _)) (Xk hl (by decide)))
 rw[y5,List.nil_append] at fo;let' e1:=Dr (n:=n) (d:=d) (L:=[x]) T N (by decide:1≤100) (fun y h=>(Xo.mp h).elim (fun e=>e▸hx) fun h=>nomatch h);rw[List.flatMap_cons,List.flatMap_nil,Xu] at e1;let' lv:=yd (n:=n+15) (t:=t) (l:=l) (f:=f) (d:=d) (tx:=tx) (x:=x) (b:=l6 (65535*f.1) b (el x)) (ws:=ja (65535*f.1) b (el x)) (Xk (Bz ..) (Xk hl (by decide))) (⟨.lst (F.map fun q=>bK (bp q)),.mut⟩::X);rw[show iG (ja (65535*f.1) b (el x))=iG (jg (65535*f.1) b (el x)) from Dx _] at lv;let' lv':(((ar (aH dn [1,2] [1] (ac (n+15)) (oh t l f tx (X.length+1) x (l6 (65535*f.1) b (el x)))) ([0,1,2,3].map eI) [] ⟨⟨.lst (F.map fun q=>bK (bp q)),.mut⟩::(X++[⟨.lst ((ja (65535*f.1) b (el x)).map eW),.mut⟩]),g1 d⟩).bind fun y=>some (y.1,aO y.2 none)).bind fun y=>some (PV.lst y.1,y.2))=some (bK (bp (iG (jg (65535*f.1) b (el x)))),⟨⟨.lst (F.map fun q=>bK (bp q)),.mut⟩::(X++[⟨.lst ((ja (65535*f.1) b (el x)).map eW),.mut⟩]),g1 d⟩):=b9 (u:=none) lv
 let' h13:=Gs (by rw[Xm];exact hF) lv';rw[show(F.map fun q=>bK (bp q))++[bK (bp (iG (jg (65535*f.1) b (el x))))]=(F++[iG (jg (65535*f.1) b (el x))]).map fun q=>bK (bp q) by rw[XE,XM,List.map_nil]] at h13;let' h3:=‹ai dn [1] (ac (n+15)) (.int x) (zi t l f tx b) ⟨⟨.lst (F.map fun q=>bK (bp q)),.mut⟩::X,g1 d⟩=run dn [(1,true)] 0 (ac (n+15)) (zi t l f tx b++[(1668244581,.int x)]) ⟨⟨.lst (F.map fun q=>bK (bp q)),.mut⟩::X,g1 d⟩›
 let' h4:=aa (by rfl') (VO (n+15) t l f tx x ⟨⟨.lst (F.map fun q=>bK (bp q)),.mut⟩::X,g1 d⟩ b);exact⟨_,h3.trans (h4.trans ((aa ‹aN dn [(1,true)] 1=true› (‹ah dn [(1,true)] 1 (ac (n+15)) (oh t l f tx (X.length+1) x b) (sx (⟨.lst (F.map fun q=>bK (bp q)),.mut⟩::X) [] d)=JU (n+15) Pj [bw t l f,.lst [.int x],D0] (sx (⟨.lst (F.map fun q=>bK (bp q)),.mut⟩::X) [] d) (oh t l f tx (X.length+1) x b) (ai dn [1,1] (ac (n+15)))›.trans (xy (aJ N.nl (aJ (Bg x) (aJ cK am))) e1 fo))).trans h13)),rfl⟩
def Hj(top:Nat)(el:Int->List El)(L:List Int):∀(i:Nat) (b:Bool) (F:List Q4) (X:List Ent),∃b' X',L.foldl (fun(y:Bool×List Q4×List Ent) x=>(l6 top y.1 (el x),y.2.1++[iG (jg top y.1 (el x))],y.2.2++[⟨.lst ((ja top y.1 (el x)).map eW),.mut⟩])) (b,F,X)=(b',F++(zO top el b L i).map (·.2),X'):=by
 induction L with
|nil=>intro i b F X;exact⟨b,X,by rw[show zO top el b [] i=[] from rfl,List.map_nil,Xu];rfl⟩
|cons x r ih=>intro i b F X;obtain⟨b',X',h⟩:=ih (i+1) (l6 top b (el x)) (F++[iG (jg top b (el x))]) (X++[⟨.lst ((ja top b (el x)).map eW),.mut⟩]);exact⟨b',X',h.trans (by rw[Xr];rfl)⟩
def lQ(l:List Q4):PV:=.lst (l.map fun q=>bK (bp q))
def OU(l:List Q4):aw (lQ l)=true:=bl (fun q=>gt (bp q)) l
def IY(T:bU t l f el)(N:bR t l)(hz:L.length≤100)(hs:∀y∈L,y∈sg):af (n+16) Hi [.lst (L.map .int),bw t l f,D0] (g1 d)=some (lQ ((p7 f el L).map (·.2)),g1 d):=by
 have fo:=bV (f:=ai dn [1] (ac (n+15))) (g:=PV.int) (V:=fun y:Bool×List Q4×List Ent=>zi t l f (L.map .int) y.1) (S:=fun y=>⟨⟨.lst (y.2.1.map fun q=>bK (bp q)),.mut⟩::y.2.2,g1 d⟩) (step:=fun y x=>(l6 (65535*f.1) y.1 (el x),y.2.1++[iG (jg (65535*f.1) y.1 (el x))],y.2.2++[⟨.lst ((ja (65535*f.1) y.1 (el x)).map eW),.mut⟩])) (fun y r=>y.2.1.length+r.length≤1000∧∀x∈r,x∈sg)
  (fun y x r h=>⟨⟨gV h.1,fun z hz=>h.2 z (.tail _ hz)⟩,Ee T N (h.2 x (.head _)) y.1 y.2.1 (fv h.1) y.2.2⟩)
  L (false,[],[]) ⟨Xk (XY (Xz _)) (Xk hz (by decide)),hs⟩
 obtain⟨b',X',e⟩:=Hj (65535*f.1) el L 0 false [] [];rw[e,List.nil_append] at fo;exact ao (by rfl') (Wu ..) ((aa (by rfl') (by rfl')).trans ((aa ‹aN dn [] 1=true› (‹ah dn [] 1 (ac (n+15)) (zi t l f (L.map .int) false) (s1 [] d)=gC (L.map .int) (zi t l f (L.map .int) false) (s1 [] d) (ai dn [1] (ac (n+15)))›.trans (bJ fo))).trans ((Tg ..).trans (aB (gM (OU _)))))) rfl (ak _)
end
noncomputable def YZ:Q4:=([],[],[],[])
def zn:Nat:=1760250341482968476004
def zg:Nat:=160
def To:Nat:=115359766379432267200292211
def mG:Nat:=161
section
variable(n:Nat)(P F:List PV)(q m w:Q4)(a b:List Nat)(i j:Nat)(d:Dk)
def zh(q:Q4):YA:=[(123597974889843,.lst P),(439956631140,bK (bp q))]
def W2:ah zg [] 0 (ac n) [(123597974889843,.lst P)] (s0 d)=some (.next,zh P YZ,s0 d):=by rfl'
def Wf:ah zg [] 1 (ac n) (zh P q) (s0 d)=gC P (zh P q) (s0 d) (ai zg [1] (ac n)):=by rfl'
def VM:run zg [] 2 (ac n) (zh P q) (s0 d)=(fi (s0 d) (bK (bp q))).bind fun y=>some (.ret y.1,zh P q,y.2):=by rfl'
def E0:YA:=[(131260348654948,bK (bp w)),(123597974889843,.lst P),(1650553445,bK (bp YZ)),(439956631140,.loc 0)]
def oT:YA:=E0 P w++[(439855772532,eI i)]
def lD:YA:=oT P w i++[(1818325876,eI j)]
def WU:ah mG [] 0 (ac n) [(131260348654948,bK (bp w)),(123597974889843,.lst P)] (s0 d)=some (.next,E0 P w,s1 [] d):=by rfl'
def QV:ai mG [1,0] (ac n) (eI j) (oT P w i) (s1 F d)=run mG [(1,true),(0,true)] 0 (ac n) (lD P w i j) (s1 F d):=by rfl'
def Uq:run mG [(1,true),(0,true)] 1 (ac n) (lD P w i j++[(7598521945582170740,.bool false)]) (s1 F d)=some (.next,lD P w i j++[(7598521945582170740,.bool false)],s1 F d):=by rfl'
def V8(c:Bool):run mG [(1,true),(0,true),(1,true)] 0 (ac n) (lD P w i j++[(7598521945582170740,.bool c)]) (s1 F d)=KF F (bc (i,j+1)) d fun y=>some (.next,lD P w i j++[(7598521945582170740,.bool c)],y.2):=by rfl'
def P4:run mG [(1,true),(0,true)] 2=fun C vs s=>some (.next,vs,s):=by rfl'
def SV:run mG [] 2 (ac n) (E0 P w) (s1 F d)=t9 F (E0 P w) d:=by rfl'
end
def xW:aN mG [(1,true),(0,true)] 0=true:=by rfl'
def IT:aN mG [(1,true),(0,true)] 1=true:=by rfl'
def Cf:kK mG [(1,true),(0,true)] 1=true:=by rfl'
def bo(a:Q4)(Q:List Q4):Q4:=Q.foldl aR a
def Zz(q:Q4):PV:=bK (bp q)
section
variable{n:Nat}{d:Dk}
def Gl(P:List PV){q m:Q4}(hq:bP q 500)(hm:bP m 500):∃w,ai zg [1] (ac n) (Zz m) (zh P q) (s0 d)=some (.next,w,s0 d)∧aA (zh P q) w=zh P (aR q m):=by
 have t:∀(a b:List Nat) (acc:List PV),a.length+b.length≤1000->aH zg [1,0] [] (ac n) (zh P q++[(482804589413,bK (bp m))]) (.tup [eN a,eN b]) acc (s0 d)=if aq (acc++[eN (a++b)])=true then some (acc++[eN (a++b)],s0 d) else none:=fun a b acc h=>by let' e:=wi (s:=s0 d) (A:=a.map eI) (B:=b.map eI) (by rw[Xm,Xm];exact h);rw[<-XE] at e;exact‹_=((fP (s0 d) .frozen .Add (eN a) (eN b)).bind some).bind fun x=>if aq (acc++[x.1])=true then some (acc++[x.1],x.2) else none›.trans (aB (v:=(eN (a++b),s0 d)) (aB (f:=some) e))
 have c:ar (aH zg [1,0] [] (ac n) (zh P q++[(482804589413,bK (bp m))])) (oO ((bp q).map eN) ((bp m).map eN)) [] (s0 d)=some ((bp (aR q m)).map eN,s0 d):=
  (bQ (t q.1 m.1 [] (XR hq.1 hm.1)) (by decide:0<1000)).trans ((bQ (t q.2.1 m.2.1 [eN (q.1++m.1)] (XR hq.2 hm.2)) (by decide:1<1000)).trans ((bQ (t q.2.2.1 m.2.2.1 [eN (q.1++m.1),eN (q.2.1++m.2.1)] (XR hq.3 hm.3)) (by decide:2<1000)).trans (bQ (t q.2.2.2 m.2.2.2 [eN (q.1++m.1),eN (q.2.1++m.2.1),eN (q.2.2.1++m.2.2.1)] (XR hq.4 hm.4)) (by decide:3<1000))))
 exact⟨[(123597974889843,.lst P),(439956631140,bK (bp (aR q m))),(482804589413,bK (bp m))],‹_=(((ar (aH zg [1,0] [] (ac n) (zh P q++[(482804589413,bK (bp m))])) (oO ((bp q).map eN) ((bp m).map eN)) [] (s0 d)).bind fun y=>some (y.1,aO y.2 none)).bind fun y=>some (PV.lst y.1,y.2)).bind fun y=>some (.next,[(123597974889843,.lst P),(439956631140,y.1),(482804589413,bK (bp m))],y.2)›.trans (aB (b9 (u:=none) c)),rfl⟩
def m9{q:Q4}{a b:Nat}(h:bP q a)(k:a≤b):bP q b:=⟨Xk h.1 k,Xk h.2 k,Xk h.3 k,Xk h.4 k⟩
def I6{Q:List Q4}(hs:∀q∈Q,bP q 2)(hz:Q.length≤100):af (n+1) zn [.lst (Q.map Zz)] (g1 d)=some (bK (bp (bo YZ Q)),g1 d):=by
 have f:=bV (f:=ai zg [1] (ac n)) (g:=Zz) (V:=fun q:Q4=>zh (Q.map Zz) q) (S:=fun z=>s0 d) (step:=aR) (fun q r=>∃c,bP q c∧c+2*r.length≤500∧∀m∈r,bP m 2)
  (fun q m r h=>by
   obtain⟨c,h1,h2,h3⟩:=h;rw[XG,Nat.mul_add] at h2;have h4:c+2+2*r.length≤500:=by rw[XS,XZ 2];exact h2
   exact⟨⟨c+2,p0 h1 (h3 m (.head _)),h4,fun x hx=>h3 x (.tail _ hx)⟩,Gl _ (m9 h1 (Xk (XH _ _) h2)) (m9 (h3 m (.head _)) (by decide))⟩)
  Q YZ ⟨0,⟨Xx _,Xx _,Xx _,Xx _⟩,by rw[Xz];exact Xk (Nat.mul_le_mul_left 2 hz) (by decide),hs⟩
 exact ao ‹i5 zg zn=true› (by rfl') ((aa ‹aN zg [] 0=true› (W2 ..)).trans ((aa ‹aN zg [] 1=true› ((Wf ..).trans (bJ f))).trans ((VM ..).trans (aB (dP (gt _)))))) rfl (ak _)
def O4(s:St)(a b:Q4):aM s .NotEq (bK (bp a)) (bK (bp b))=some (!decide (a=b)):=ta ((tE s _ _).trans (YH some (Y6.mpr rj)))
def F7(s:St)(a b:Q4):aM s .Eq (bK (bp a)) (bK (bp b))=some (decide (a=b)):=(tE s _ _).trans (YH some (Y6.mpr rj))
noncomputable def rX(w:Q4)(i:Nat)(x:Q4):Q4->List Q4->Nat->List Zv
|_,[],_=>[]
|a,y::r,j=>(if x≠YZ∧(y≠YZ∧aR a y=w) then[(i,j+1)] else[])++rX w i x (aR a y) r (j+1)
noncomputable def Lc(w:Q4):List Q4->Nat->List Zv
|[],_=>[]
|x::r,i=>rX w i x YZ (x::r) i++Lc w r (i+1)
def FY{Q p m r:List Q4}{x y:Q4}{w:Q4}(hs:∀q∈Q,bP q 2)(hz:Q.length≤100)(hx:Q[p.length]?=some x)(hQ:Q=p++(m++y::r))(F:List Zv)(hF:F.length<1000):
  ∃v,ai mG [1,0] (ac (n+1)) (eI (p.length+m.length)) (oT (Q.map Zz) w p.length) (s1 (F.map bc) d)=some (.next,v,s1 ((F++(if x≠YZ∧(y≠YZ∧aR (bo YZ m) y=w) then[(p.length,p.length+m.length+1)] else[])).map bc) d)∧aA (oT (Q.map Zz) w p.length) v=oT (Q.map Zz) w p.length:=by
 let' iy:cC (Q.map Zz) ((p.length+m.length:Nat))=some (Zz y):=mI (by rw[hQ,<-Xr,<-Xl];exact(dz _ _).symm.trans ((by rw[List.map_id]:cC ((p++m)++y::r) _=cC (((p++m)++y::r).map id) _).trans (bS rfl)));let' h6:=‹ah mG [(1,true),(0,true)] 0 (ac (n+1)) (lD (Q.map Zz) w p.length (p.length+m.length)) (s1 (F.map bc) d)=(cC (Q.map Zz) p.length).bind fun y=>(aM (s1 (F.map bc) d) .NotEq y (bK (bp YZ))).bind fun c=>if c=true then(cC (Q.map Zz) (p.length+m.length)).bind fun y=>(aM (s1 (F.map bc) d) .NotEq y (bK (bp YZ))).bind fun c=>some (.next,lD (Q.map Zz) w p.length (p.length+m.length)++[(7598521945582170740,.bool c)],s1 (F.map bc) d) else some (.next,lD (Q.map Zz) w p.length (p.length+m.length)++[(7598521945582170740,.bool c)],s1 (F.map bc) d)›.trans ((aB (mI hx:cC (Q.map Zz) (p.length:Nat)=some (Zz x))).trans (aB (O4 _ x YZ)))
 by_cases q1:x=YZ
 ·rw[Yc q1] at h6;refine⟨lD (Q.map Zz) w p.length (p.length+m.length)++[(7598521945582170740,.bool false)],(QV ..).trans ((aa xW h6).trans ((Uq ..).trans ?_)),rfl⟩;rw[Yg fun h=>h.1 q1,Xu]
 ·rw[Yd q1] at h6;let' h6:=h6.trans ((gM rfl).trans ((aB iy).trans (aB (O4 _ y YZ))));by_cases q2:y=YZ
  ·rw[Yc q2] at h6;refine⟨lD (Q.map Zz) w p.length (p.length+m.length)++[(7598521945582170740,.bool false)],(QV ..).trans ((aa xW h6).trans ((Uq ..).trans ?_)),rfl⟩;rw[Yg fun h=>h.2.1 q2,Xu]
  ·rw[Yd q2] at h6;have cg:gI (Q.map Zz) (some ((p.length:Nat):Int)) (some ((p.length+m.length+1:Nat):Int))=(m++[y]).map Zz:=by
    rw[hQ,show m++y::r=(m++[y])++r by rw[Xr];rfl,XE,XE];exact rA (Xm _).symm (by rw[Xm,Xm,Xl];rfl)
   let' zl:(m++[y]).length≤100:=Xk (by rw[hQ,Xl,Xl,Xl];exact Xk (XA (Yx (Nat.zero_le _)) _) (YK _ _)) hz;let' h8:=‹bn mG [(1,true),(0,true)] 1 (ac (n+1)) (lD (Q.map Zz) w p.length (p.length+m.length)++[(7598521945582170740,.bool true)]) (s1 (F.map bc) d)=ag (n+1) zn [.lst (gI (Q.map Zz) (some (p.length:Nat)) (some (((p.length+m.length)+1:Nat))))] (s1 (F.map bc) d) fun r=>(aM r.2 .Eq r.1 (bK (bp w))).bind fun c=>if c=true then some (true,r.2) else some (false,r.2)›
   rw[cg] at h8;let' k8:=ad (n:=n+1) (k:=zn) (s:=s1 (F.map bc) d) (K:=fun r=>(aM r.2 .Eq r.1 (bK (bp w))).bind fun c=>if c=true then some (true,r.2) else some (false,r.2)) (ae (aJ (dC (bl (fun q=>gt (bp q)) _)) am)) (I6 (n:=n) (d:=d) (Q:=m++[y]) (fun q h=>hs q ((fun q h=>hQ▸YF _ ((Ym.mp h).elim (List.mem_append_left _) fun h=>YF _ ((Xo.mp h).elim (fun e=>e▸.head _) fun h=>nomatch h)):∀q∈m++[y],q∈Q) q h)) zl);let' la:bo YZ (m++[y])=aR (bo YZ m) y:=List.foldl_append;rw[la] at k8;let' h8:=h8.trans (k8.trans (aB (F7 _ _ w)))
   by_cases q3:aR (bo YZ m) y=w
   ·rw[Yc q3] at h8;rw[Yh ⟨q1,q2,q3⟩,XE];exact⟨lD (Q.map Zz) w p.length (p.length+m.length)++[(7598521945582170740,.bool true)],(QV ..).trans ((aa xW h6).trans ((bk IT Cf (h8.trans (gM rfl)) ((V8 ..).trans (lN (by rw[Xm];exact hF)))).trans (YI (YI (YI P4 _) _) _))),rfl⟩
   ·rw[Yd q3] at h8;rw[Yg fun h=>q3 h.2.2,Xu];exact⟨lD (Q.map Zz) w p.length (p.length+m.length)++[(7598521945582170740,.bool true)],(QV ..).trans ((aa xW h6).trans ((bk IT Cf (h8.trans (Wr rfl)) (YI (YI (YI ‹run mG [(1,true),(0,true),(1,false)] 0=fun C vs s=>some (.next,vs,s)› _) _) _)).trans (YI (YI (YI P4 _) _) _))),rfl⟩
end
def Ed(w:Q4)(i:Nat)(x:Q4)(r:List Q4):∀(a:Q4) (j:Nat),(rX w i x a r j).length≤r.length:=by
 induction r with
|nil=>intro _ _;exact Xx _
|cons y r ih=>
  intro a j;unfold rX;rw[Xl,XG,XZ r.length];refine XR ?_ (ih _ _);split
  ·exact Xx _
  ·exact Nat.zero_le _
section
variable{n:Nat}{d:Dk}{Q:List Q4}{w:Q4}
def BW(hs:∀q∈Q,bP q 2)(hz:Q.length≤100){p:List Q4}{x:Q4}(hx:Q[p.length]?=some x)(r:List Q4):∀(m:List Q4) (F:List Zv),Q=p++(m++r)->F.length+r.length≤1000->
  au (ai mG [1,0] (ac (n+1))) ((List.range' (p.length+m.length) r.length).map eI) (oT (Q.map Zz) w p.length) (s1 (F.map bc) d)=some (.next,oT (Q.map Zz) w p.length,s1 ((F++rX w p.length x (bo YZ m) r (p.length+m.length)).map bc) d):=by
 induction r with
|nil=>intro m F _ _;rw[show rX w p.length x (bo YZ m) [] (p.length+m.length)=[] from rfl,Xu];rfl
|cons y r ih=>
  intro m F hQ hF;obtain⟨v,e1,e2⟩:=FY hs hz hx hQ F (fv hF);have ih:=ih (m++[y]) (F++(if x≠YZ∧(y≠YZ∧aR (bo YZ m) y=w) then[(p.length,p.length+m.length+1)] else[])) (by rw[hQ,Xr m];rfl) (by
   rw[Xl,XS,XZ _ r.length];have h1:(if x≠YZ∧(y≠YZ∧aR (bo YZ m) y=w) then[(p.length,p.length+m.length+1)] else[]).length≤1:=by
    split
    ·exact Xx _
    ·exact Nat.zero_le _
   exact Xk (XA (XA h1 _) _) hF)
  rw[show bo YZ (m++[y])=aR (bo YZ m) y from List.foldl_append,Xl,Xr] at ih;exact(be e1 e2).trans ih
def C0(hs:∀q∈Q,bP q 2)(hz:Q.length≤30)(r:List Q4):∀(p:List Q4) (F:List Zv),Q=p++r->F.length+30*r.length≤1000->
  au (ai mG [1] (ac (n+1))) ((List.range' p.length r.length).map eI) (E0 (Q.map Zz) w) (s1 (F.map bc) d)=some (.next,E0 (Q.map Zz) w,s1 ((F++Lc w r p.length).map bc) d):=by
 induction r with
|nil=>intro p F _ _;rw[show Lc w [] p.length=[] from rfl,Xu];rfl
|cons x r ih=>
  intro p F hQ hF;let' zr:(x::r).length≤30:=Xk (by rw[hQ,Xl];exact YK _ _) hz;rw[XG,Nat.mul_add] at hF;let' h4:=‹ah mG [(1,true)] 0 (ac (n+1)) (oT (Q.map Zz) w p.length) (s1 (F.map bc) d)=(cR (p.length:Int) (Q.map Zz).length 1).bind fun q=>gC q (oT (Q.map Zz) w p.length) (s1 (F.map bc) d) (ai mG [1,0] (ac (n+1)))›.trans ((aB (by rw[(by rw[Xm,hQ,Xl]:((Q.map Zz).length:Int)=((p.length+(x::r).length:Nat)))];exact pL (Xk (by rw[<-Xl,<-hQ];exact hz) (by decide)))).trans (bJ (BW hs (Xk hz (by decide)) ((dz Q p.length).symm.trans (by rw[<-List.map_id Q];exact bS hQ):Q[p.length]?=some x) (x::r) [] F hQ (Xk (XA zr _) (Xk (XA (YK _ _) _) hF)))))
  have ih:=ih (p++[x]) (F++rX w p.length x YZ (x::r) p.length) (bE hQ) (by
   rw[Xl,XS,XZ _ (30*r.length)];exact Xk (XA (XA (Xk (Ed ..) zr) _) _) hF)
  rw[Xl,Xr] at ih;exact(be (‹ai mG [1] (ac (n+1)) (eI p.length) (E0 (Q.map Zz) w) (s1 (F.map bc) d)=run mG [(1,true)] 0 (ac (n+1)) (oT (Q.map Zz) w p.length) (s1 (F.map bc) d)›.trans ((aa (by rfl') h4).trans (YI (YI (YI ‹run mG [(1,true)] 1=fun C vs s=>some (.next,vs,s)› _) _) _))) rfl).trans ih
def P2(hs:∀q∈Q,bP q 2)(hz:Q.length≤30):af (n+2) To [bK (bp w),lQ Q] (g1 d)=some (.lst ((Lc w Q 0).map bc),g1 d):=by exact ao (by rfl') (by rfl') ((aa (by rfl') (WU ..)).trans ((aa ‹aN mG [] 1=true› (‹ah mG [] 1 (ac (n+1)) (E0 (Q.map Zz) w) (s1 [] d)=(cR 0 (Q.map Zz).length 1).bind fun q=>gC q (E0 (Q.map Zz) w) (s1 [] d) (ai mG [1] (ac (n+1)))›.trans ((aB (by rw[Xm,dw (Xk hz (by decide)),Zh];rfl)).trans (bJ (C0 hs hz Q [] [] rfl (by rw[show([]:List Zv).length=0 from rfl,Xz];exact Xk (Nat.mul_le_mul_left 30 hz) (by decide))))))).trans ((SV ..).trans (f6 (bl nh _))))) rfl (ak _)
end
def Jj:Nat:=495466423873861712338879994441197684
def iK:Nat:=162
section
variable(n:Nat)(t l:List (PV×PV))(f:Nat×Nat×Nat)(pa tx P F D:List PV)(w:Q4)(a b c:Bool)(i:Int)(d:Dk)(y:Zv)
def JW:YA:=[(31632350188499566,.lst pa),(1952807028,.lst tx),(499850046565,bw t l f),(1684108385,D0)]
def Op:YA:=JW t l f pa tx++[(131260348654948,bK (bp w)),(123597974889843,.lst P)]
def Q5:YA:=Op t l f pa tx P w++[(29681726064259685,.bool a)]
def Py:YA:=Q5 t l f pa tx P w a++[(6583653,.lst D)]
def F8:YA:=Py t l f pa tx P D w a++[(1953459300,.lst F)]
def wT:YA:=F8 t l f pa tx P F D w a++[(7598521885604012396,.bool b)]
def Wx:bn iK [] 4 (ac n) (F8 t l f pa tx P F D w a) (s0 d)=(((ar (aH iK [4] [0] (ac n) (F8 t l f pa tx P F D w a)) F [] (s0 d)).bind fun y=>some (y.1,aO y.2 none)).bind fun y=>some (PV.lst y.1,y.2)).bind fun y=>(aM y.2 .NotEq y.1 (.lst D)).bind fun c=>some (c,y.2):=by rfl'
def U8:run iK [(4,false)] 0=fun C vs s=>some (.next,vs,s):=by rfl'
def Re(n:Nat)(o:PV)(tx:List PV)(s:St)(K:PV×St->Option (Bool×St)):Option (Bool×St):=sG (sw 115944242375788).1 (uR 115944242375788).1 (fun z z z s k=>k (o,s)) 115944242375788 [fun z z z s k=>k (.lst tx,s)] (Bool×St) (ac n) [] s K
def Td:run iK [] 8 (ac n) (wT t l f pa tx P F D w a b++[(7823737,.int i)]) (s0 d)=ag n zn [.lst P] (s0 d) fun r=>(aM r.2 .Eq r.1 (bK (bp w))).bind fun c=>(aM r.2 .Eq (.bool (i==0)) (.bool c)).bind fun c=>some (.ret (.bool c),wT t l f pa tx P F D w a b++[(7823737,.int i)],r.2):=by rfl'
end
def tl(q:Q4):Nat:=q.1.length+(q.2.1.length+(q.2.2.1.length+q.2.2.2.length))
def rc(a b:Q4):tl (aR a b)=tl a+tl b:=by delta tl aR;rw[Xl,Xl,Xl,Xl];simp only[XS,Nat.add_left_comm]
def jW{q:Q4}:tl q=0↔q=YZ:=⟨fun h=>by obtain⟨a,b,c,e⟩:=q;obtain⟨h1,h⟩:=Nat.add_eq_zero_iff.mp h;obtain⟨h2,h⟩:=Nat.add_eq_zero_iff.mp h;obtain⟨h3,h4⟩:=Nat.add_eq_zero_iff.mp h;obtain rfl:a=[]:=Yw.mp h1;obtain rfl:b=[]:=Yw.mp h2;obtain rfl:c=[]:=Yw.mp h3;obtain rfl:e=[]:=Yw.mp h4;rfl,fun h=>by rw[h];rfl⟩
def iJ(a:Q4):aR a YZ=a:=by unfold aR YZ;rw[Xu,Xu,Xu,Xu]
def jn(a b c:Q4):aR (aR a b) c=aR a (aR b c):=by unfold aR;rw[Xr,Xr,Xr,Xr]
theorem g8(a:Q4):∀Q:List Q4,bo a Q=aR a (bo YZ Q)
|[]=>(iJ a).symm
|x::r=>by refine(?_:bo (aR a x) r=aR a (bo (aR YZ x) r));rw[g8 (aR a x) r,g8 (aR YZ x) r,jn];rfl
def fS{a b:List Nat}:bv a b=true↔a<+:b:=by unfold bv;rw[decide_eq_true_eq];exact⟨fun h=>⟨b.drop a.length,(YH (·++b.drop a.length) h).symm.trans (List.take_append_drop _ _)⟩,fun⟨c,h⟩=>by rw[<-h,List.take_left]⟩
def QF(a w:Q4):Prop:=∃c,aR a c=w
def xh{a w:Q4}:oM a w=true↔QF a w:=by unfold oM;rw[Xp,Xp,Xp,fS,fS,fS,fS];exact⟨fun⟨⟨c1,h1⟩,⟨c2,h2⟩,⟨c3,h3⟩,⟨c4,h4⟩⟩=>⟨(c1,c2,c3,c4),by unfold aR;rw[h1,h2,h3,h4]⟩,fun⟨c,h⟩=>⟨⟨c.1,YH (·.1) h⟩,⟨c.2.1,YH (·.2.1) h⟩,⟨c.2.2.1,YH (·.2.2.1) h⟩,⟨c.2.2.2,YH (·.2.2.2) h⟩⟩⟩
def uB{a b w:Q4}(h:QF (aR a b) w):QF a w:=h.elim fun c e=>⟨aR b c,(jn a b c).symm.trans e⟩
def cE{q:Q4}:dj q=true↔q=YZ:=by
 unfold dj;rw[decide_eq_true_eq,List.filter_eq_nil_iff];constructor
 ·intro h;have k:∀l∈bp q,l=[]:=fun l hl=>by
   have:=h l hl;by_cases e:l=[]
   ·exact e
   ·rw[Yd e] at this;exact absurd rfl this
  obtain⟨a,b,c,e⟩:=q;obtain rfl:a=[]:=k a (.head _);obtain rfl:b=[]:=k b (.tail _ (.head _));obtain rfl:c=[]:=k c (.tail _ (.tail _ (.head _)));obtain rfl:e=[]:=k e (.tail _ (.tail _ (.tail _ (.head _))));rfl
 ·rintro rfl l hl;have:l=[]:=by
   rcases Xo.mp hl with e|hl
   ·exact e
   rcases Xo.mp hl with e|hl
   ·exact e
   rcases Xo.mp hl with e|hl
   ·exact e
   rcases Xo.mp hl with e|hl
   ·exact e
   ·cases hl
  rw[Yc this];decide
def yx{w:Q4}{i:Nat}{x:Q4}(l:List Q4):∀(a:Q4) (j:Nat),tl w≤tl a->rX w i x a l j=[]:=by
 induction l with
|nil=>intro _ _ _;exact rfl
|cons y r ih=>intro a j h;unfold rX;rw[Yg fun e=>e.2.1 (jW.mp (Nat.le_zero.mp (Nat.le_of_add_le_add_left (a:=tl a) (by rw[<-rc,e.2.2];exact h)))),ih _ _ (by rw[rc];exact Xk h (XH _ _))];rfl
def zf{w:Q4}{i:Nat}{x:Q4}(l:List Q4):∀(a:Q4) (j:Nat),¬QF a w->rX w i x a l j=[]:=by
 induction l with
|nil=>intro _ _ _;exact rfl
|cons y r ih=>intro a j h;unfold rX;rw[Yg fun e=>h ⟨y,e.2.2⟩,ih _ _ fun k=>h (uB k)];rfl
noncomputable def qo(i:Nat):Option Nat->List Zv
|some e=>[(i,e)]
|none=>[]
def Ji{w:Q4}{i:Nat}{x:Q4}(hx:x≠YZ)(l:List Pc):∀(a:Q4) (j:Nat),a≠w->bL l j->rX w i x a (l.map (·.2)) j=qo i (iR w a l):=by
 induction l with
|nil=>intro _ _ _ _;exact rfl
|cons y r ih=>
  intro a j ha hp;show rX w i x a (y.2::r.map (·.2)) j=_;unfold rX iR;by_cases e:aR a y.2=w
  ·rw[Yh e,Yh ⟨hx,fun z=>ha (by rw[<-e,z,iJ]),e⟩,yx _ _ _ (by rw[e];exact Xx _),hp.1];rfl
  ·rw[Yg e,Yg fun z=>e z.2.2];by_cases q:oM (aR a y.2) w=true
   ·rw[Yh q];exact ih _ (j+1) e hp.2
   ·rw[Yg q,zf _ _ _ fun z=>q (xh.mpr z)];rfl
def BV{w:Q4}{i:Nat}(l:List Q4):∀(a:Q4) (j:Nat),rX w i YZ a l j=[]:=by
 induction l with
|nil=>intro _ _;exact rfl
|cons y r ih=>intro a j;unfold rX;rw[Yg fun e=>e.1 rfl,ih];rfl
noncomputable def Hr(w:Q4):List Pc->List Zv
|[]=>[]
|x::r=>qo x.1 (jA w (x::r))++Hr w r
def C2{w:Q4}(hw:w≠YZ)(l:List Pc):∀(i:Nat),bL l i->Lc w (l.map (·.2)) i=Hr w l:=by
 induction l with
|nil=>intro _ _;exact rfl
|cons x r ih=>
  intro i hp;refine(?_:rX w i x.2 YZ (x.2::r.map (·.2)) i++Lc w (r.map (·.2)) (i+1)=_);rw[ih (i+1) hp.2];refine(?_:_++Hr w r=qo x.1 (jA w (x::r))++Hr w r);refine YH (·++Hr w r) ?_;refine(?_:rX w i x.2 YZ (((x::r:List Pc)).map (·.2)) i=qo x.1 (if dj x.2=true then none else iR w ([],[],[],[]) (x::r)));by_cases q:dj x.2=true
  ·rw[Yh q,cE.mp q,BV];rfl
  ·rw[Yg q,Ji (fun e=>q (cE.mpr e)) (x::r) YZ i (fun e=>hw e.symm) hp,hp.1];rfl
def fH{Q p r:List Pc}{x:Pc}(hp:bL Q 0)(hQ:Q=p++x::r):x.1=p.length∧Q.drop x.1=x::r:=by let' h:=fB p (hQ▸hp);rw[Xz] at h;exact⟨h.1,by rw[h.1,hQ,List.drop_left]⟩
theorem pK{w:Q4}{Q:List Pc}(hp:bL Q 0):∀(r p:List Pc) (fl:List Zv),Q=p++r->(∀z∈fl,z.1<p.length)->r.foldl (eV w false Q) fl=fl++Hr w r
|[],_,fl,_,_=>(Xu fl).symm
|x::r,p,fl,hQ,hf=>by
  obtain⟨h1,h2⟩:=fH hp hQ;have st:eV w false Q fl x=fl++qo x.1 (jA w (x::r)):=by
   delta eV;rw[h2];cases jA w (x::r) with
   |none=>exact(Xu fl).symm
   |some e=>refine(?_:ry fl (x.1,e)=_);exact Yg fun z=>YU _ (h1▸hf _ (List.mem_of_getLast? z))
  refine(?_:r.foldl (eV w false Q) (eV w false Q fl x)=_);rw[st,pK hp r (p++[x]) _ (bE hQ) fun z hz=>?_,Xr]
  ·rfl
  ·rw[Xl];rcases Ym.mp hz with h|h
   ·exact Nat.lt_succ_of_lt (hf z h)
   ·cases q:jA w (x::r) with
    |none=>rw[q] at h;cases h
    |some e=>
     rw[q] at h;rcases Xo.mp h with rfl|h
     ·exact(h1)▸Yq _
     ·cases h
def u5{w:Q4}{Q:List Pc}(hp:bL Q 0):kY w false Q=if w=YZ then[] else Lc w (Q.map (·.2)) 0:=by
 unfold kY;by_cases h:w=YZ
 ·rw[Yh h,Yh (cE.mpr h)]
 ·rw[Yg h,Yg fun e=>h (cE.mp e),C2 h Q 0 hp];exact pK hp Q [] [] rfl fun z hz=>nomatch hz
def fw(l:List Pc):Prop:=∀y∈l,y.2=YZ
def pD:∀q:List Pc,nZ q=0↔fw q:=by
 intro q;induction q with
|nil=>exact⟨fun x y h=>(nomatch h),fun x=>rfl⟩
|cons y q ih=>
  unfold nZ;by_cases e:dj y.2=true
  ·rw[Yh e,ih];exact⟨fun h z hz=>(Xo.mp hz).elim (fun k=>k▸cE.mp e) (h z),fun h z hz=>h z (.tail _ hz)⟩
  ·rw[Yg e];exact⟨fun h=>(by injection h),fun h=>absurd (cE.mpr (h y (.head _))) e⟩
def tN(r:List Pc):∀(k:Nat),n6 k r=k+r.length↔fw r:=by
 induction r with
|nil=>intro k;exact⟨fun x y h=>(nomatch h),fun x=>rfl⟩
|cons y r ih=>
  intro k;unfold n6;by_cases e:dj y.2=true
  ·rw[Yh e,XG,XZ r.length,<-XS,ih (k+1)];exact⟨fun h z hz=>(Xo.mp hz).elim (fun k=>k▸cE.mp e) (h z),fun h z hz=>h z (.tail _ hz)⟩
  ·rw[Yg e];exact⟨fun h=>absurd h (Nat.ne_of_lt (Yi (XT _))),fun h=>absurd (cE.mpr (h y (.head _))) e⟩
def iF{l:List Pc}(h:fw l)(a:Q4):bo a (l.map (·.2))=a:=by
 induction l with
|nil=>rfl
|cons y r ih=>refine(?_:bo (aR a y.2) (r.map (·.2))=a);rw[h y (.head _),iJ];exact ih fun z hz=>h z (.tail _ hz)
def xZ{l:List Pc}{a:Q4}(h:bo a (l.map (·.2))=a):fw l:=by
 have t:∀l:List Pc,bo YZ (l.map (·.2))=YZ->fw l:=fun l=>by
  induction l with
  |nil=>exact fun x y h=>nomatch h
  |cons y r ih=>intro h;let' h:bo (aR YZ y.2) (r.map (·.2))=YZ:=h;rw[g8] at h;let' k:=jW.mpr h;rw[rc] at k;obtain⟨k1,k2⟩:=Nat.add_eq_zero_iff.mp k;exact fun z hz=>(Xo.mp hz).elim (fun e=>e▸jW.mp k1) (ih (jW.mp k2) z)
 rw[g8] at h;refine t l (jW.mp (Nat.add_left_cancel (n:=tl a) ?_));rw[<-rc,h];rfl
theorem kU{w:Q4}:∀(l:List Pc) (a:Q4) (j e:Nat),bL l j->iR w a l=some e->j<e∧bo a ((l.take (e-j)).map (·.2))=w
|y::r,a,j,e,hp,h=>by
  unfold iR at h;by_cases q:aR a y.2=w
  ·rw[Yh q] at h;injection h with h
   rw[<-h,hp.1,Nat.add_sub_cancel_left];exact⟨Yq _,q⟩
  ·rw[Yg q] at h;by_cases q2:oM (aR a y.2) w=true
   ·rw[Yh q2] at h;obtain⟨h1,h2⟩:=kU r _ (j+1) e hp.2 h;refine⟨Nat.lt_of_succ_lt h1,?_⟩;rw[show e-j=e-(j+1)+1 from(Nat.sub_eq_of_eq_add (by rw[XD,XS,YB (XW h1)]))];exact h2
   ·rw[Yg q2] at h;injection h
def v8{w:Q4}(l:List Pc):∀(a:Q4) (j:Nat),bL l j->a≠w->bo a (l.map (·.2))=w->∃e,iR w a l=some e∧fw (l.drop (e-j)):=by
 induction l with
|nil=>intro a j _ ha h;exact absurd h ha
|cons y r ih=>
  intro a j hp ha h;let' h:bo (aR a y.2) (r.map (·.2))=w:=h;unfold iR;by_cases q:aR a y.2=w
  ·rw[Yh q];refine⟨_,rfl,?_⟩;rw[hp.1,Nat.add_sub_cancel_left];exact xZ (a:=w) (by rw[q] at h;exact h)
  ·rw[Yg q,Yh (xh.mpr ⟨_,(g8 _ _).symm.trans h⟩)];obtain⟨e,e1,e2⟩:=ih _ (j+1) hp.2 q h;refine⟨e,e1,?_⟩;rw[show e-j=e-(j+1)+1 from(Nat.sub_eq_of_eq_add (by rw[XD,XS,YB (XW ((kU r _ (j+1) e hp.2 e1).1))]))];exact e2
def AP{fl:List Zv}{z y:Zv}:y∈ry fl z↔y∈fl∨y=z:=by
 unfold ry;by_cases h:fl.getLast?=some z
 ·rw[Yh h];exact⟨.inl,fun k=>k.elim id fun e=>e▸List.mem_of_getLast? h⟩
 ·rw[Yg h,Ym,XU]
def DG{w:Q4}{Q:List Pc}{y:Zv}(r:List Pc):∀(fl:List Zv),y∈r.foldl (eV w true Q) fl↔y∈fl∨∃x∈r,∃e,jA w (Q.drop x.1)=some e∧Qv Q (x.1,e)=y:=by
 induction r with
|nil=>intro fl;exact⟨.inl,fun h=>h.elim id fun q0=>by obtain⟨_,h,_⟩:=q0;exact nomatch h⟩
|cons x r ih=>
  intro fl;refine(?_:y∈r.foldl (eV w true Q) (eV w true Q fl x)↔_);rw[ih];have st:y∈eV w true Q fl x↔y∈fl∨∃e,jA w (Q.drop x.1)=some e∧Qv Q (x.1,e)=y:=by
   delta eV;cases jA w (Q.drop x.1) with
   |none=>exact⟨.inl,fun h=>h.elim id fun q0=>by obtain⟨_,h,_⟩:=q0;exact nomatch h⟩
   |some e=>exact AP.trans ⟨fun h=>h.imp id fun k=>⟨e,rfl,k.symm⟩,fun h=>h.imp id fun q0=>by obtain⟨e',k,k2⟩:=q0;exact by injection k with k;subst k;exact k2.symm⟩
  rw[st];exact⟨fun h=>h.elim (fun h=>h.imp id fun k=>⟨x,.head _,k⟩) fun⟨z,h,k⟩=>.inr ⟨z,.tail _ h,k⟩,fun h=>h.elim (fun h=>.inl (.inl h)) fun⟨z,h,k⟩=>(Xo.mp h).elim (fun e=>.inl (.inr (e▸k))) fun h=>.inr ⟨z,h,k⟩⟩
def u4:∀Q:List Pc,fw Q∨∃p x r,Q=p++x::r∧fw p∧x.2≠YZ:=by
 intro Q;induction Q with
|nil=>exact .inl fun y h=>nomatch h
|cons y r ih=>
  by_cases h:y.2=YZ
  ·rcases ih with k|⟨p,x,s,e,k,kx⟩
   ·exact .inl fun z hz=>(Xo.mp hz).elim (fun e=>e▸h) (k z)
   ·exact .inr ⟨y::p,x,s,YH (y:: ·) e,fun z hz=>(Xo.mp hz).elim (fun e=>e▸h) (k z),kx⟩
  ·exact .inr ⟨[],y,r,rfl,fun z hz=>(nomatch hz),h⟩
def CM{w:Q4}{Q:List Pc}(hp:bL Q 0):(0,Q.length)∈kY w true Q↔w≠YZ∧bo YZ (Q.map (·.2))=w:=by
 delta kY;by_cases hw:w=YZ
 ·rw[Yh (cE.mpr hw)];exact⟨fun h=>(nomatch h),fun h=>absurd hw h.1⟩
 ·rw[Yg fun e=>hw (cE.mp e),DG];constructor
  ·rintro(h|⟨x,hx,e,h1,h2⟩)
   ·cases h
   ·obtain⟨p,r,hQ⟩:=List.append_of_mem hx;obtain⟨s1,s2⟩:=fH hp hQ;let' à:=fB p (hQ▸hp);rw[Xz] at à;rw[s2] at h1;let' le:=xu à h1;let' h1:(if dj x.2=true then none else iR w ([],[],[],[]) (x::r))=some e:=h1;by_cases q:dj x.2=true
    ·rw[Yh q] at h1;injection h1
    rw[Yg q] at h1;obtain⟨l1,l2⟩:=kU (x::r) _ p.length e à h1;let' w2:n6 e (Q.drop e)=Q.length:=YH Prod.snd h2;let' zl:Q.length=p.length+(x::r).length:=(by rw[hQ,Xl])
    let' i1:=(pD _).mp (YH Prod.fst h2);refine⟨hw,?_⟩;have sp:Q=p++((x::r).take (e-p.length)++Q.drop e):=by
     have d:Q.drop e=(x::r).drop (e-p.length):=by
      conv=>lhs;rw[hQ,show e=p.length+(e-p.length) from(Nat.add_sub_cancel' (XW l1)).symm]
      rw[<-List.drop_drop,List.drop_left]
     rw[d,List.take_append_drop];exact hQ
    let' pi:=(fun z hz=>i1 z (List.mem_reverse.mpr (by rw[s1,hQ,List.take_left];exact hz)))
    rw[sp,XE,XE];delta bo;rw[List.foldl_append,List.foldl_append];refine(?_:bo (bo (bo YZ (p.map (·.2))) _) _=w);rw[iF pi,show bo YZ (((x::r).take (e-p.length)).map (·.2))=w from l2];exact iF ((tN (Q.drop e) e).mp (by rw[w2,YN,Nat.add_sub_cancel' ((zl)▸(le.2))])) w
  ·rintro⟨_,h⟩;rcases u4 Q with k|⟨p,x,r,hQ,k,kx⟩
   ·exact absurd ((iF k YZ).symm.trans h).symm hw
   ·obtain⟨s1,s2⟩:=fH hp hQ;let' à:=fB p (hQ▸hp);rw[Xz] at à;have hl:bo YZ ((x::r).map (·.2))=w:=by
     rw[hQ,XE] at h;delta bo at h;rw[List.foldl_append] at h;let' h:bo (bo YZ (p.map (·.2))) ((x::r).map (·.2))=w:=h;rw[iF k] at h;exact h
    obtain⟨e,e1,e2⟩:=v8 (x::r) YZ p.length à (fun z=>hw z.symm) hl;let' le:=qx w (x::r) p.length _ e à e1;refine .inr ⟨x,hQ▸YF _ (.head _),e,?_,?_⟩
    ·rw[s2];refine(?_:(if dj x.2=true then none else _)=_);exact(Yg fun z=>kx (cE.mp z))▸e1
    ·have d:Q.drop e=(x::r).drop (e-p.length):=by
      conv=>lhs;rw[hQ,show e=p.length+(e-p.length) from(Nat.add_sub_cancel' (XW le.1)).symm]
      rw[<-List.drop_drop,List.drop_left]
     refine Prod.ext ((pD _).mpr fun z hz=>k z ?_) ?_
     ·let' hz:=List.mem_reverse.mp hz;rw[show(x.1,e).1=p.length from s1,hQ,List.take_left] at hz;exact hz
     ·refine(?_:n6 e (Q.drop e)=Q.length);rw[(tN (Q.drop e) e).mpr ((d)▸(e2)),YN,Nat.add_sub_cancel' ((by rw[hQ,Xl]:Q.length=p.length+(x::r).length)▸(le.2))]
def mR(a b:List Wt)(k:Nat):fJ (a++b) k=fJ a k++fJ b k:=by unfold fJ;rw[List.filter_append,XE]
def Ft(a b:List Wt):iG (a++b)=aR (iG a) (iG b):=by unfold iG aR;rw[mR,mR,mR,mR]
def Bw{top:Nat}{el:Int->List El}(L:List Int):∀(b:Bool) (i:Nat) (a:Q4),bo a ((zO top el b L i).map (·.2))=aR a (iG (jg top b (L.flatMap el))):=by
 induction L with
|nil=>intro _ _ a;exact(iJ a).symm
|cons x r ih=>intro b i a;refine(?_:bo (aR a (iG (jg top b (el x)))) ((zO top el (l6 top b (el x)) r (i+1)).map (·.2))=_);rw[ih,List.flatMap_cons,qH,Ft,jn]
def uq(f:Nat×Nat×Nat)(el:Int->List El)(L:List Int):bo YZ ((p7 f el L).map (·.2))=uQ f el L:=Bw L false 0 YZ
def FX(w:Q4):∀l:List Pc,(Hr w l).length≤l.length:=by
 intro l;induction l with
|nil=>exact Xx _
|cons x r ih=>
  refine(?_:(qo x.1 (jA w (x::r))++Hr w r).length≤_);rw[Xl,XG,XZ r.length];refine XR ?_ (ih);cases jA w (x::r) with
  |none=>exact Nat.zero_le _
  |some e=>exact Xx _
def Ny(s:St)(a b:Bool):aM s .Eq (.bool a) (.bool b)=some (a==b):=by rfl'
def RI(s:St)(a b:Bool):aM s .NotEq (.bool a) (.bool b)=some (!(a==b)):=ta (Ny s a b)
def IQ:aN iK [] 1=true:=by rfl'
def Hy:aN iK [] 2=true:=by rfl'
def Iw:aN iK [] 3=true:=by rfl'
def Ib:aN iK [] 4=true:=by rfl'
def DW:kK iK [] 4=true:=by rfl'
def IJ:aN iK [] 5=true:=by rfl'
def GQ(b:Bool):aw (.bool b)=true:=by rfl'
def C7{n k:Nat}{A:List PV}{s:St}{b:Bool}{c:Bool}{g:List Ent}{e:PV}(h:aj A=true)(hr:af n k A s.g=some (.bool b,g))(he:∀s,aM s .NotEq (.bool b) e=some c):ag n k A s (fun u=>(aM u.2 .NotEq u.1 e).bind fun c=>some (c,u.2))=some (c,⟨s.l,g⟩):=(ad (ae h) hr).trans (aB (he _))
section
variable{n:Nat}{t l:List (PV×PV)}{f:Nat×Nat×Nat}{el:Int->List El}{d:Dk}{L M:List Int}
def sK(T:bU t l f el)(hs:∀y∈L,y∈sg):∀q∈(p7 f el L).map (·.2),bP q 2:=fun q h=>by obtain⟨x,hx,rfl⟩:=Yt.mp h;exact lb (fun y hy=>T.len y (hs y hy)) x hx
def AV:((p7 f el L).map (·.2)).length=L.length:=by rw[Xm];exact qG L false 0
def NU(T:bU t l f el)(hz:L.length≤30)(hs:∀y∈L,y∈sg):af (n+1) zn [lQ ((p7 f el L).map (·.2))] (g1 d)=some (bK (bp (uQ f el L)),g1 d):=by rw[<-uq];exact I6 (sK T hs) (by exact(AV)▸Xk hz (by decide))
def Cg(n:Nat)(pa tx:List PV)(P:List PV)(F:List Zv)(w:Q4)(a:Bool)(hF:F.length≤1000):bn iK [] 4 (ac n) (F8 t l f pa tx P (F.map bc) (F.map bc) w a) (s0 d)=some (false,s0 d):=by refine(Wx ..).trans ((aB (b9 (u:=none) (g7 (f:=aH iK [4] [0] (ac n) (F8 t l f pa tx P (F.map bc) (F.map bc) w a)) (g:=bc) (o:=bc) (s:=s0 d) (l:=F) (acc:=[]) (Xk (XY (Xz _)) hF) fun y z acc=>‹_=if aq (acc++[bc y])=true then some (acc++[bc y],(s0 d)) else none›))).trans (aB (v:=false) ?_));let' e:=ta (OK rk (fun z=>rfl) (s0 d) F F);rw[Yc rfl] at e;exact e
def Gu{pa tx P:List PV}{qm:PV}{w wL:Q4}{F:List Zv}{c:Int}{b:Bool}(N:bR t l)(n1:aj pa=true)(n2:aj tx=true)(n3:aw qm=true)(n4:aj P=true)(lF:F.length≤1000)
  (a0:af n Hi [.lst pa,bw t l f,D0] (g1 d)=some (qm,g1 d)) (a1:af n zn [qm] (g1 d)=some (bK (bp w),g1 d)) (a2:af n Hi [.lst tx,bw t l f,D0] (g1 d)=some (.lst P,g1 d))
  (a3:w≠YZ->af n To [bK (bp w),.lst P] (g1 d)=some (.lst (F.map bc),g1 d)) (hF:w=YZ->F=[])
  (a4:af n Tc [.lst pa,.lst tx,bw t l f,D0,.int 4,hS,.bool false,.bool false,.bool true] (g1 d)=some (.lst (F.map bc),g1 d)) (a5:af n zn [.lst P] (g1 d)=some (bK (bp wL),g1 d))
  (a6:af n QG [.lst pa,bw t l f,D0,.int 4,hS,.bool false] (g1 d)=some (xI t l f (bK (bp w)),g1 d)) (a7:af n Tq [xI t l f (bK (bp w)),.lst tx] (g1 d)=some (.bool b,g1 d)) (hb:b=true↔w≠YZ∧wL=w)
  (a8:af n QA (GO f) (g1 d)=some (gG f,g1 d)) (a9:af n NT [.lst pa,.lst tx,D0,bw t l f,gG f] (g1 d)=some (.int c,g1 d)) (hc:c=0↔w=wL):af (n+1) Jj [.lst pa,.lst tx,bw t l f,D0] (g1 d)=some (.bool true,g1 d):=by
 have h0:ah iK [] 0 (ac n) (JW t l f pa tx) (s0 d)=some (.next,Op t l f pa tx P w,s0 d):=by
  let' k1:=ad (k:=Hi) (s:=s0 d) (K:=fun r=>ag n zn [r.1] r.2 fun u=>ag n Hi [.lst tx,bw t l f,D0] u.2 fun v=>some (Fl.next,JW t l f pa tx++[(131260348654948,u.1),(123597974889843,v.1)],v.2)) (ae (aJ (dC n1) (aJ N.nl (aJ cK am)))) a0;let' k2:=ad (k:=zn) (s:=s0 d) (K:=fun u=>ag n Hi [.lst tx,bw t l f,D0] u.2 fun v=>some (Fl.next,JW t l f pa tx++[(131260348654948,u.1),(123597974889843,v.1)],v.2)) (ae (aJ n3 am)) a1;exact‹_=ag _ Hi [.lst _,bw _ _ _,D0] (s0 _) fun r=>ag _ zn [r.1] r.2 fun u=>ag _ Hi [.lst _,bw _ _ _,D0] u.2 fun v=>some (.next,JW _ _ _ _ _++[(131260348654948,u.1),(123597974889843,v.1)],v.2)›.trans (k1.trans (k2.trans (ad (k:=Hi) (s:=s0 d) (K:=fun v=>some (Fl.next,JW t l f pa tx++[(131260348654948,bK (bp w)),(123597974889843,v.1)],v.2)) (ae (aJ (dC n2) (aJ N.nl (aJ cK am)))) a2)))
 let' h1:=‹ah iK [] 1 (ac n) (Op t l f pa tx P w) (s0 d)=(aM (s0 d) .Eq (bK (bp w)) (bK (bp YZ))).bind fun c=>some (.next,Op t l f pa tx P w++[(29681726064259685,.bool c)],s0 d)›.trans (aB (F7 (s0 d) w YZ));have h3:∀(D:List PV) (a:Bool),ah iK [] 3 (ac n) (Py t l f pa tx P D w a) (s0 d)=some (.next,F8 t l f pa tx P (F.map bc) D w a,s0 d):=fun D a=>
  ‹ah iK [] 3 (ac n) (Py t l f pa tx P D w a) (s0 d)=ag n Tc [.lst pa,.lst tx,bw t l f,D0,.int 4,hS,.bool false,.bool false,.bool true] (s0 d) fun r=>some (.next,Py t l f pa tx P D w a++[(1953459300,r.1)],r.2)›.trans (ad (ae (aJ (dC n1) (aJ (dC n2) (aJ N.nl (aJ cK (lu (aJ (GQ _) (aJ (GQ _) (aJ (GQ _) am))))))))) a4)
 have mid:∃a,run iK [] 1 (ac n) (Op t l f pa tx P w) (s0 d)=run iK [] 6 (ac n) (wT t l f pa tx P (F.map bc) (F.map bc) w a b) (s0 d):=by
  by_cases e:w=YZ
  ·rw[Yc e] at h1;obtain rfl:=hF e;obtain rfl:b=false:=Bool.eq_false_iff.mpr fun z=>(hb.mp z).1 e
   refine⟨true,(aa IQ h1).trans ((aa Hy ‹ah iK [] 2 (ac _) (Q5 _ _ _ _ _ _ _ true) (s0 _)=some (.next,Py _ _ _ _ _ _ [] _ true,s0 _)›).trans ((aa Iw (h3 [] true)).trans ((bk Ib DW (Cg n pa tx P [] w true lF) (YI (YI (YI U8 _) _) _)).trans (aa IJ ‹ah iK [] 5 (ac _) (F8 _ _ _ _ _ _ _ _ _ true) (s0 _)=some (.next,wT _ _ _ _ _ _ _ _ _ true false,s0 _)›))))⟩
  ·rw[Yd e] at h1;let' k5:=‹ah iK [] 5 (ac n) (F8 t l f pa tx P (F.map bc) (F.map bc) w false) (s0 d)=ag n zn [.lst P] (s0 d) fun r=>(aM r.2 .Eq r.1 (bK (bp w))).bind fun c=>some (.next,F8 t l f pa tx P (F.map bc) (F.map bc) w false++[(7598521885604012396,.bool c)],r.2)›.trans ((ad (ae (aJ (dC n4) am)) a5).trans (aB (F7 (s0 d) wL w)));have eb:decide (wL=w)=b:=by
    cases b with
    |true=>exact Yc (hb.mp rfl).2
    |false=>exact Yd fun z=>nomatch hb.mpr ⟨e,z⟩
   rw[eb] at k5;exact⟨false,(aa IQ h1).trans ((aa Hy (‹ah iK [] 2 (ac n) (Q5 t l f pa tx P w false) (s0 d)=ag n To [bK (bp w),.lst P] (s0 d) fun r=>some (.next,Q5 t l f pa tx P w false++[(6583653,r.1)],r.2)›.trans (ad (ae (aJ (gt _) (aJ (dC n4) am))) (a3 e)))).trans ((aa Iw (h3 (F.map bc) false)).trans ((bk Ib DW (Cg n pa tx P F w false lF) (YI (YI (YI U8 _) _) _)).trans (aa IJ k5))))⟩
 obtain⟨a,hm⟩:=mid;have h6:bn iK [] 6 (ac n) (wT t l f pa tx P (F.map bc) (F.map bc) w a b) (s0 d)=some (false,s0 d):=by
  let' k2:=(C7 (s:=s0 d) (c:=false) (e:=.bool b) (aJ (CH N w) (aJ (dC n2) am)) a7 fun s=>by rw[RI];cases b<;>rfl)
  exact‹bn iK [] 6 (ac _) (wT _ _ _ _ _ _ _ _ _ _ _) (s0 _)=ag _ QG [.lst _,bw _ _ _,D0,.int 4,hS,.bool false] (s0 _) fun r=>Re _ r.1 _ r.2 fun u=>(aM u.2 .NotEq u.1 (.bool _)).bind fun c=>some (c,u.2)›.trans ((ad (k:=QG) (s:=s0 d) (K:=fun r=>Re n r.1 tx r.2 fun u=>(aM u.2 .NotEq u.1 (.bool b)).bind fun c=>some (c,u.2)) (ae (aJ (dC n1) (aJ N.nl (aJ cK (lu (aJ (GQ _) am)))))) a6).trans (‹Re _ (xI _ _ _ _) _ _ _=ag _ Tq [xI _ _ _ _,.lst _] _ _›.trans k2))
 have h7:ah iK [] 7 (ac n) (wT t l f pa tx P (F.map bc) (F.map bc) w a b) (s0 d)=some (.next,wT t l f pa tx P (F.map bc) (F.map bc) w a b++[(7823737,.int c)],s0 d):=by exact‹ah iK [] 7 (ac _) (wT _ _ _ _ _ _ _ _ _ _ _) (s0 _)=ag _ QA (GO _) (s0 _) fun r=>ag _ NT [.lst _,.lst _,D0,bw _ _ _,r.1] r.2 fun u=>some (.next,wT _ _ _ _ _ _ _ _ _ _ _++[(7823737,u.1)],u.2)›.trans ((ad (k:=QA) (s:=s0 d) (K:=fun r=>ag n NT [.lst pa,.lst tx,D0,bw t l f,r.1] r.2 fun u=>some (Fl.next,wT t l f pa tx P (F.map bc) (F.map bc) w a b++[(7823737,u.1)],u.2)) (ae (show aj (GO f)=true by rfl')) a8).trans (ad (k:=NT) (s:=s0 d) (K:=fun u=>some (Fl.next,wT t l f pa tx P (F.map bc) (F.map bc) w a b++[(7823737,u.1)],u.2)) (ae (aJ (dC n1) (aJ (dC n2) (aJ cK (aJ N.nl (aJ (iw f) am)))))) a9))
 have h8:run iK [] 8 (ac n) (wT t l f pa tx P (F.map bc) (F.map bc) w a b++[(7823737,.int c)]) (s0 d)=some (.ret (.bool true),wT t l f pa tx P (F.map bc) (F.map bc) w a b++[(7823737,.int c)],s0 d):=by
  have e:((c==0)==decide (wL=w))=true:=by
   by_cases q:c=0
   ·rw[Yc (hc.mp q).symm,q];rfl
   ·rw[Yd fun z=>q (hc.mpr z.symm),Y4.mpr q];rfl
  let' k:=Ny (s0 d) (c==0) (decide (wL=w));rw[e] at k;exact(Td ..).trans ((ad (ae (aJ (dC n4) am)) a5).trans ((aB (F7 (s0 d) wL w)).trans (aB k)))
 exact ao ‹i5 iK Jj=true› ‹bf iK [.lst _,.lst _,bw _ _ _,D0]=some (JW _ _ _ _ _)› ((aa ‹aN iK [] 0=true› h0).trans (hm.trans ((bk ‹aN iK [] 6=true› ‹kK iK [] 6=true› h6 (YI (YI (YI ‹run iK [(6,false)] 0=fun C vs s=>some (.next,vs,s)› _) _) _)).trans ((aa ‹aN iK [] 7=true› h7).trans h8)))) rfl (ak _)
def C8(T:bU t l f el)(N:bR t l)(hz:L.length≤30)(hs:∀y∈L,y∈sg)(ĉ:M.length≤30)(Z0:∀y∈M,y∈sg):af (n+18) Jj [.lst (M.map .int),.lst (L.map .int),bw t l f,D0] (g1 d)=some (.bool true,g1 d):=by
 let' Ġ:L.length≤100:=Xk hz (by decide);let' Ċ:M.length≤100:=Xk ĉ (by decide);let' hP:bL (p7 f el L) 0:=m7 L false 0;let' pl:(p7 f el L).length=L.length:=qG L false 0;let' hn:=u5 (w:=uQ f el M) hP;have lA:(kY (uQ f el M) false (p7 f el L)).length≤1000:=by
  rw[hn];split
  ·exact Nat.zero_le _
  ·rename_i q;rw[C2 q _ 0 hP];exact Xk (FX _ _) (by exact(pl)▸Xk hz (by decide))
 obtain⟨c,hc,hc2⟩:=Px T N Ġ hs Ċ Z0;let' wide:=CM (w:=uQ f el M) hP;rw[uq,pl] at wide;exact Gu (n:=n+17) (w:=uQ f el M) (wL:=uQ f el L) (F:=kY (uQ f el M) false (p7 f el L)) N (fK M) (fK L) (OU _) (bl (fun q=>gt (bp q)) _) lA (IY (n:=n+1) T N Ċ Z0) (NU (n:=n+16) T ĉ Z0) (IY (n:=n+1) T N Ġ hs)
  (fun e=>by rw[hn,Yg e];exact P2 (n:=n+15) (sK T hs) ((AV)▸(hz))) (fun e=>by rw[hn,Yh e]) (NE T N Ġ hs Ċ Z0) (NU (n:=n+16) T hz hs) (PY T N Ċ Z0) (Qf T N _ Ġ hs) (decide_eq_true_iff.trans wide) (M4 (n+16) f d) hc hc2
end
def zm:Nat:=1760250341482835370359
def lI:Nat:=153
def gx(C:List PV)(m t:Int):List Ent:=[⟨.lst C,.mut⟩,⟨.dct (dk m t),.mut⟩]
def sD(C:List PV)(m t:Int):St:=⟨[],gx C m t⟩
def bI(o:Option Int)(s:St):Option (PV×St):=o.bind fun y=>some (PV.int y,s)
def bO(y:PV×St)(o:Operator)(c:Int):Option (PV×St):=fP y.2 .frozen o y.1 (.int c)
noncomputable def ks:List Nat:=[1,2,3,4,5,6,7,8,9,10]
section
variable(n k:Nat)(C:List PV)(m t x f:Int)(d:Dk)
noncomputable def vD:YA:=[(1684366187,.glob 1),(422608400247,.int (k:Nat))]
def D6:YA:=vD k++[(112602893349477,.int f)]
def LP:YA:=D6 k f++[(1667591276,.int x)]
def TU:bf lI [.glob 1,.int (k:Nat)]=some (vD k):=by rfl'
def Xc:ks.map (fun k=>run lI [(2,true),(1,true)] 0 (ac n) (LP k x f) (sD C m t))=ks.map fun k=>(if(aq (C++[.int (Int.fdiv x (k:Nat))])&&true)=true then some (PV.none,sD (C++[.int (Int.fdiv x (k:Nat))]) m t) else none).bind fun y=>some (.ret (.int (Int.fmod x (k:Nat))),LP k x f,y.2):=by rfl'
def Wh:run lI [(2,true)] 2 (ac n) (LP k x f) (sD C m t)=some (.next,LP k x (f+Int.fmod x 2147483563),sD C m t):=by rfl'
variable(E:YA)
def vE:YA:=vD k++(112602893349477,.int f)::E
end
def GW{x:Int}(h:x.natAbs<2^64):decide (Builtin.Int.intBits x>shortFactorBits)=false:=Yd fun k=>by
 delta Builtin.Int.intBits at k;by_cases e:(x==0)=true
 ·rw[Yh e] at k;exact absurd k (by decide)
 ·rw[Yg e] at k;have:=(Nat.log2_lt (fun z=>e (Y1.mpr (Int.natAbs_eq_zero.mp z)))).mpr h;exact absurd k (Yn.mpr this)
def th{a b:Int}(h:b.natAbs<2^64):iq a b=true:=by unfold iq;rw[GW h,Bool.and_false,Bool.false_and];rfl
def ti{a b x:Int}{s:St}(h:iq a b=true):bI (if iq a b=true then some x else none) s=some (.int x,s):=by rw[Yh h];rfl
def m6{s:St}{i c:Int}(h:c≠0)(k:c.natAbs.log2<9000):bO (.int i,s) .Mod c=some (.int (Int.fmod i c),s):=by refine(?_:(if c=0 then none else if c.natAbs.log2<9000 then some (Int.fmod i c) else none).bind _=_);rw[Yg h,Yh k];rfl
def JE{s:St}{i c:Int}(h:c≠0)(k:c.natAbs.log2<9000):bO (.int i,s) .FloorDiv c=some (.int (Int.fdiv i c),s):=by refine(?_:(if c=0 then none else if c.natAbs.log2<9000 then some (Int.fdiv i c) else none).bind _=_);rw[Yg h,Yh k];rfl
def JQ:i5 lI zm=true:=by rfl'
def Ch:aN lI [] 2=true:=by rfl'
def v6:kK lI [] 2=true:=by rfl'
def IZ:aN lI [(2,true)] 0=true:=by rfl'
def IN:aN lI [(2,true)] 1=true:=by rfl'
def Aj:kK lI [(2,true)] 1=true:=by rfl'
structure dQ(d:Dk)(b:Nat):Prop where
 len:d.1.length≤100
 m0:0≤d.2.1
 t0:0≤d.2.2
 t1:d.2.2≤b
def Bh{x:Int}{c:Nat}(h0:0≤x)(h:x<c)(hc:c≤2^64):x.natAbs<2^64:=by obtain⟨m,rfl⟩:=Int.eq_ofNat_of_zero_le h0;exact XI (Yo.mp h) hc
section
variable{n k:Nat}{C:List PV}{m t f:Int}
def xP(E:YA)(hk:k∈ks):∃v:Int,∃V,run lI [] 3 (ac n) (vE k f E) (sD C m t)=some (.ret (.int v),V,sD C m t)∧0≤v∧v<k:=by
 have kp:0<k:=by revert k;decide
 have k9:((k:Nat):Int).natAbs.log2<9000:=by revert k;decide
 let' h9:=‹ah lI [] 3 (ac n) (vE k f E) (sD C m t)=(bI (if iq (Int.fmod f 2147483629) 40692=true then some (Int.fmod f 2147483629*40692) else none) (sD C m t)).bind fun y=>(bO y .Mod 2147483647).bind fun y=>some (.next,vD k++(112602893349477,y.1)::E,y.2)›.trans ((aB (ti (th (by decide)))).trans (aB (m6 (by decide) (by decide))));let' l1:0≤Int.fmod (Int.fmod f 2147483629*40692) 2147483647:=Int.fmod_nonneg_of_pos _ (by decide);let' l2:Int.fmod (Int.fmod f 2147483629*40692) 2147483647<(2147483647:Nat):=Int.fmod_lt_of_pos _ (by decide);generalize Int.fmod (Int.fmod f 2147483629*40692) 2147483647=f1 at h9 l1 l2
 let' Ŗ:=‹ah lI [] 4 (ac n) (vE k f1 E) (sD C m t)=(bI (if iq f1 f1=true then some (f1*f1) else none) (sD C m t)).bind fun y=>(bO y .Add 437437).bind fun y=>(bO y .Mod 2147483587).bind fun y=>some (.next,vD k++(112602893349477,y.1)::E,y.2)›.trans ((aB (ti (th (Bh l1 l2 (by decide))))).trans ((aB (v:=(PV.int (f1*f1+437437),sD C m t)) rfl).trans (aB (m6 (by decide) (by decide)))));generalize Int.fmod (f1*f1+437437) 2147483587=f2 at Ŗ;exact⟨_,_,(aa ‹aN lI [] 3=true› h9).trans ((aa ‹aN lI [] 4=true› Ŗ).trans ((bx ‹ks.map (fun k=>run lI [] 5 (ac n) (vE k f2 E) (sD C m t))=ks.map fun k=>(bI (if iq f2 39373=true then some (f2*39373) else none) (sD C m t)).bind fun y=>(bO y .Mod 2147483579).bind fun y=>(bO y .FloorDiv 64).bind fun y=>(bO y .Mod (k:Nat)).bind fun y=>(fi y.2 y.1).bind fun z=>some (.ret z.1,vE k f2 E,z.2)› k hk).trans ((aB (ti (th (by decide)))).trans ((aB (m6 (by decide) (by decide))).trans ((aB (JE (by decide) (by decide))).trans ((aB (m6 (Int.ofNat_ne_zero.mpr (Nat.ne_of_gt kp)) k9)).trans (aB (dP (bq _))))))))),Int.fmod_nonneg_of_pos _ (Yo.mpr kp),Int.fmod_lt_of_pos _ (Yo.mpr kp)⟩
end
def IM(s:St)(c:List Int):aM s .NotEq (.lst (c.map .int)) (.lst [])=some (!decide (c=[])):=by exact ta ((yR (show fD (.lst (c.map .int)) 8=true from d9 (n:=7) (fun z=>rfl) c) rfl rfl rfl).trans (YH some (by cases c<;>rfl:oH (.lst (c.map .int)) (.lst [])=decide (c=[]))))
def uk(c:List Int)(m t:Int):sD (c.map .int) m t=s0 (c,m,t):=rfl
def zF(d d':Dk):di (g1 d) (g1 d')=true:=by rfl'
def nN(n:Nat){k b:Nat}{d:Dk}(hk:k∈ks)(hb:b≤1000)(h:dQ d b):∃(v:Int) (d':Dk),af (n+1) zm [.glob 1,.int (k:Nat)] (g1 d)=some (.int v,g1 d')∧0≤v∧v<k∧dQ d' (b+1):=by
 obtain⟨c,m,t⟩:=d;have kp:0<k:=by revert k;decide
 have t0:0≤t+1:=Int.add_nonneg h.t0 (by decide);have t1:t+1≤((b+1:Nat):Int):=Int.add_le_add_right h.t1 1;have h2:ah lI [] 1 (ac n) (vD k) (sD (c.map .int) m (t+1))=some (.next,D6 k (m+60437437*(t+1)*(t+1)),sD (c.map .int) m (t+1)):=‹_=(bI (if iq (60437437*(t+1)) (t+1)=true then some (60437437*(t+1)*(t+1)) else none) (sD (c.map .int) m (t+1))).bind fun y=>((aZ y.1).bind fun i=>some (PV.int (m+i),y.2)).bind fun y=>some (.next,vD k++[(112602893349477,y.1)],y.2)›.trans ((aB (ti (th (Bh t0 (Int.lt_of_le_of_lt t1 (Yo.mpr (Yq _))) (Xk (XJ hb 2) (by decide)))))).trans rfl)
 generalize m+60437437*(t+1)*(t+1)=f at h2;have pre:=(aa ‹aN lI [] 0=true› ‹ah lI [] 0 (ac n) (vD k) (sD (c.map .int) m t)=some (.next,vD k,sD (c.map .int) m (t+1))›).trans (aa ‹aN lI [] 1=true› h2);have h3:=‹bn lI [] 2 (ac n) (D6 k f) (sD (c.map .int) m (t+1))=(aM (sD (c.map .int) m (t+1)) .NotEq (.lst (c.map .int)) (.lst [])).bind fun c9=>some (c9,sD (c.map .int) m (t+1))›.trans (aB (IM _ c));rcases List.eq_nil_or_concat c with e|⟨q,x,e⟩
 ·have h3:bn lI [] 2 (ac n) (D6 k f) (sD (c.map .int) m (t+1))=some (false,sD (c.map .int) m (t+1)):=by rw[h3,Yc e];rfl
  obtain⟨v,V,e,v0,v1⟩:=xP (n:=n) (k:=k) (C:=c.map .int) (m:=m) (t:=t+1) (f:=f) [] hk;have r:=pre.trans ((bk Ch v6 h3 ‹run lI [(2,false)] 0 (ac n) (D6 k f) _=some (.next,D6 k f,_)›).trans e);rw[uk,uk] at r;exact⟨v,(c,m,t+1),ao JQ (TU k) r rfl (zF ..),v0,v1,⟨h.len,h.m0,t0,t1⟩⟩
 ·rw[List.concat_eq_append] at e;have ne:c≠[]:=fun z=>List.append_ne_nil_of_right_ne_nil q (List.cons_ne_nil x []) (e.symm.trans z)
  have h3:bn lI [] 2 (ac n) (D6 k f) (sD (c.map .int) m (t+1))=some (true,sD (c.map .int) m (t+1)):=by rw[h3,Yd ne];rfl
  have h4:=‹ah lI [(2,true)] 0 (ac n) (D6 k f) (sD (c.map .int) m (t+1))=((c.map .int).getLast?.bind fun y=>some (y,sD (c.map .int).dropLast m (t+1))).bind fun y=>some (.next,D6 k f++[(1667591276,y.1)],y.2)›.trans (aB (aB (v:=PV.int x) (by rw[e,XE];exact List.getLast?_concat)));rw[show(c.map PV.int).dropLast=q.map .int by rw[e,XE];exact List.dropLast_concat] at h4;have lq:q.length<100:=XI (by rw[e,Xl];exact Yq _) h.len;have h5:=‹bn lI [(2,true)] 1 (ac n) (LP k x f) (sD (q.map .int) m (t+1))=some (decide (x≥1000000),sD (q.map .int) m (t+1))›
  by_cases big:x≥1000000
  ·rw[Yc big] at h5;have h6:=(bx (Xc n (q.map .int) m (t+1) x f) k hk).trans (aB (gM (by rw[yv (by rw[Xm];exact XI lq (by decide))];rfl)));rw[show q.map PV.int++[PV.int (Int.fdiv x (k:Nat))]=(q++[Int.fdiv x (k:Nat)]).map .int by rw[XE];rfl] at h6;have r:=pre.trans (dG Ch ((bg v6 h3).trans ((aa IZ h4).trans (dG IN ((bg Aj h5).trans h6)))));rw[uk,show(PV.none,sD ((q++[Int.fdiv x (k:Nat)]).map .int) m (t+1)).2=s0 (q++[Int.fdiv x (k:Nat)],m,t+1) from rfl] at r;exact⟨_,(q++[Int.fdiv x (k:Nat)],m,t+1),ao JQ (TU k) r rfl (zF ..),Int.fmod_nonneg_of_pos _ (Yo.mpr kp),Int.fmod_lt_of_pos _ (Yo.mpr kp),⟨by show(q++[_]).length≤100;rw[Xl];exact lq,h.m0,t0,t1⟩⟩
  ·rw[Yd big] at h5;obtain⟨v,V,e2,v0,v1⟩:=xP (n:=n) (k:=k) (C:=q.map .int) (m:=m) (t:=t+1) (f:=f+Int.fmod x 2147483563) [(1667591276,.int x)] hk;have r2:run lI [(2,true)] 0 (ac n) (D6 k f) (sD (c.map .int) m (t+1))=some (.next,LP k x (f+Int.fmod x 2147483563),sD (q.map .int) m (t+1)):=(aa IZ h4).trans ((bk IN Aj h5 (YI (YI (YI ‹run lI [(2,true),(1,false)] 0=fun C vs s=>some (.next,vs,s)› _) _) _)).trans (Wh ..));have r:=pre.trans ((aa Ch ((bg v6 h3).trans r2)).trans e2);rw[uk,uk] at r;exact⟨v,(q,m,t+1),ao JQ (TU k) r rfl (zF ..),v0,v1,⟨XW lq,h.m0,t0,t1⟩⟩
def D5:Nat:=1760250341483036107627
def WS:Nat:=154
section
variable(n:Nat)(A:List PV)(d:Dk)
def SJ:YA:=[(1684366187,.glob 1),(1936682341,.lst A)]
end
def Gj:aw (.glob 1)=true:=by rfl'
def BP(n:Nat){A:List PV}{b:Nat}{d:Dk}(hA:A.length∈ks)(nA:∀x∈A,aw x=true)(hb:b≤1000)(h:dQ d b):∃x∈A,∃d':Dk,af (n+2) D5 [.glob 1,.lst A] (g1 d)=some (x,g1 d')∧dQ d' (b+1):=by
 obtain⟨v,d',e,v0,v1,h'⟩:=nN n hA hb h;obtain⟨i,rfl⟩:=Int.eq_ofNat_of_zero_le v0;let' lt:i<A.length:=Yo.mp v1;let' hx:A[i]∈A:=List.getElem_mem lt;let' r:=‹run WS [] 0 (ac (n+1)) (SJ A) (s0 d)=ag (n+1) zm [.glob 1,.int A.length] (s0 d) fun r=>((aZ r.1).bind fun i=>cC A i).bind fun v=>(fi r.2 v).bind fun z=>some (.ret z.1,SJ A,z.2)›.trans ((ad (n:=n+1) (k:=zm) (s:=s0 d) (K:=fun r=>((aZ r.1).bind fun i=>cC A i).bind fun v=>(fi r.2 v).bind fun z=>some (Fl.ret z.1,SJ A,z.2)) (ae (aJ Gj (aJ (bq _) am))) e).trans ((aB ((aB (v:=(i:Int)) rfl).trans ((dz A i).trans (XK lt)))).trans (aB (dP (nA _ hx)))))
 exact⟨A[i],hx,d',ao (by rfl') (by rfl') r rfl (zF ..),h'⟩
def Sc:Nat:=1760250341482834518891
def yJ:Nat:=152
section
variable(n:Nat)(A B:List PV)(m x:Int)(d:Dk)
noncomputable def Ie:YA:=[(126870958469236,.lst A)]
def nC:YA:=Ie A++[(426903366771,.lst B),(469920933220,.int m)]
end
def K2{s:St}{i c:Int}:bO (.int i,s) .Add c=some (.int (i+c),s):=rfl
def Qd(n:Nat)(l:List Int):∃d:Dk,af (n+1) Sc [.lst (l.map .int)] []=some (.glob 1,g1 d)∧dQ d 0:=by
 let' ct:gI (l.map PV.int) none (some 10)=(l.take 10).map .int:=(tK (l.map PV.int) 10).trans List.map_take.symm;have lt:(l.take 10).length≤10:=by rw[Yr];exact Nat.min_le_left _ _
 let' c:=(g7 (f:=aH yJ [0] [0] (ac n) (Ie (l.map .int))) (g:=PV.int) (o:=PV.int) (s:=⟨[],[]⟩) (l:=l.take 10) (acc:=[]) (Xk (XY (Xz _)) (Xk lt (by decide))) fun x w acc=>(by rfl'))
 let' h0:=‹ah yJ [] 0 (ac n) (Ie (l.map .int)) ⟨[],[]⟩=(((ar (aH yJ [0] [0] (ac n) (Ie (l.map .int))) (gI (l.map .int) none (some 10)) [] ⟨[],[]⟩).bind fun y=>some (y.1,aO y.2 none)).bind fun y=>some (PV.lst y.1,y.2)).bind fun y=>some (.next,Ie (l.map .int)++[(426903366771,y.1),(469920933220,.int 437437)],y.2)›
 rw[ct] at h0;have fo:∀(r:List Int) (m:Int),0≤m->∃m':Int,0≤m'∧au (ai yJ [1] (ac n)) (r.map .int) (nC (l.map .int) ((l.take 10).map .int) m) ⟨[],[]⟩=some (.next,nC (l.map .int) ((l.take 10).map .int) m',⟨[],[]⟩):=fun r=>by
  induction r with
  |nil=>exact fun m hm=>⟨m,hm,rfl⟩
  |cons x r ih=>
   intro m hm;have h4:ai yJ [1] (ac n) (.int x) (nC (l.map .int) ((l.take 10).map .int) m) ⟨[],[]⟩=some (.next,Ie (l.map .int)++[(426903366771,.lst ((l.take 10).map .int)),(469920933220,.int (Int.fmod (m*48271+Int.fmod x 2147483629+437437) 2147483587)),(1667591276,.int x)],⟨[],[]⟩):=
    ‹_=(bI (if iq m 48271=true then some (m*48271) else none) ⟨[],[]⟩).bind fun y=>(fP y.2 .frozen .Add y.1 (.int (Int.fmod x 2147483629))).bind fun y=>(bO y .Add 437437).bind fun y=>(bO y .Mod 2147483587).bind fun y=>some (.next,Ie (l.map .int)++[(426903366771,.lst ((l.take 10).map .int)),(469920933220,y.1),(1667591276,.int x)],y.2)›.trans ((aB (ti (th (by decide)))).trans ((aB (v:=(PV.int (m*48271+Int.fmod x 2147483629),(⟨[],[]⟩:St))) rfl).trans ((aB K2).trans (aB (m6 (by decide) (by decide))))))
   obtain⟨m',ě,e⟩:=ih (Int.fmod (m*48271+Int.fmod x 2147483629+437437) 2147483587) (Int.fmod_nonneg_of_pos _ (by decide));exact⟨m',ě,(be h4 rfl).trans e⟩
 obtain⟨m',ě,e⟩:=fo (l.take 10) 437437 (by decide);let' h1:=‹ah yJ [] 1 (ac n) (nC (l.map .int) ((l.take 10).map .int) (437437:Int)) ⟨[],[]⟩=gC ((l.take 10).map .int) (nC (l.map .int) ((l.take 10).map .int) (437437:Int)) ⟨[],[]⟩ (ai yJ [1] (ac n))›.trans (bJ e);let' h5:=‹run yJ [] 2 (ac n) (nC (l.map .int) ((l.take 10).map .int) m') ⟨[],[]⟩=(((if aj ((l.take 10).map .int).reverse=true then some (PV.glob 0,(⟨[],[⟨.lst ((l.take 10).map .int).reverse,.mut⟩]⟩:St)) else none).bind fun y=>some ([y.1,PV.int m',PV.int 0],y.2)).bind fun y=>(gg (([S "cells",S "mixed",S "turn"].zip y.1).map fun z=>.tup [z.1,z.2]) []).bind fun l9=>alloc y.2 .glob (.dct l9)).bind fun y=>(fi y.2 y.1).bind fun z=>some (.ret z.1,nC (l.map .int) ((l.take 10).map .int) m',z.2)›
 rw[<-List.map_reverse,Yh (fK _)] at h5;let' h6:run yJ [] 2 (ac n) (nC (l.map .int) ((l.take 10).map .int) m') ⟨[],[]⟩=some (.ret (.glob 1),nC (l.map .int) ((l.take 10).map .int) m',s0 ((l.take 10).reverse,m',0)):=h5.trans ‹((((some (PV.glob 0,(⟨[],[⟨.lst _,.mut⟩]⟩:St))).bind fun y=>some ([y.1,PV.int _,PV.int 0],y.2)).bind fun y=>(gg (([S "cells",S "mixed",S "turn"].zip y.1).map fun z=>.tup [z.1,z.2]) []).bind fun l=>alloc y.2 .glob (.dct l)).bind fun y=>(fi y.2 y.1).bind fun z=>some (Fl.ret z.1,nC _ _ _,z.2))=some (.ret (.glob 1),nC _ _ _,⟨[],gx _ _ 0⟩)›;exact⟨((l.take 10).reverse,m',0),ao (g:=[]) ‹i5 yJ Sc=true› ‹bf yJ [.lst _]=some (Ie _)› ((aa ‹aN yJ [] 0=true› (h0.trans (aB (b9 (u:=none) c)))).trans ((aa ‹aN yJ [] 1=true› h1).trans h6)) rfl rfl,⟨by rw[YO];exact Xk lt (by decide),ě,Int.le_refl _,Int.le_refl _⟩⟩
def Ve:Nat:=450624087419666035402099
def D9:Nat:=157
noncomputable def Ig(i s:Nat):List UInt8:=32::(List.replicate s 60++[32,UInt8.ofNat (119+i)])
noncomputable def Kj:List Nat->Nat->List UInt8
|[],_=>[]
|s::r,i=>Ig i s++Kj r (i+1)
def mX(a:Nat)(ss:List Nat):List UInt8:=38::UInt8.ofNat a::Kj ss 0
def k7:List Nat:=[97,98,99]
def nW:List Nat:=[1,1,1,2,3]
noncomputable def LU:YA:=[(1684366187,.glob 1)]
def OR(i:Nat)(y:PV)(z:PV×St):Option R3:=(fP z.2 .frozen .Add y z.1).bind fun u=>(fP u.2 .frozen .Add u.1 (.bytes [32])).bind fun v=>(fP v.2 .frozen .Add v.1 (.bytes [UInt8.ofNat (119+i)])).bind fun w=>some (.next,LU++[(1885431653,w.1),(24948,eI i)],w.2)
section
variable(n i:Nat)(P:List UInt8)(d:Dk)
def o7:YA:=LU++[(1885431653,.bytes P)]
def VR:run D9 [] 2 (ac n) (o7 P) (s0 d)=some (.ret (.bytes P),o7 P,s0 d):=by rfl'
end
def qQ{s:St}{A B:List UInt8}(h:A.length+B.length≤1000):fP s .frozen .Add (.bytes A) (.bytes B)=some (.bytes (A++B),s):=‹_=(if aq (A++B)=true then some (A++B) else none).bind fun l=>some (.bytes l,s)›.trans (aB (gM (RN h)))
def vN:∀s∈nW,s≤3:=by decide
def ES{i s:Nat}(h:s∈nW):(Ig i s).length≤6:=by unfold Ig;rw[XG,Xl,List.length_replicate];exact XJ (XJ (vN s h) 2) 1
def Kf(P:List UInt8)(i s:Nat):P++Ig i s=(((P++[32])++List.replicate s 60)++[32])++[UInt8.ofNat (119+i)]:=by rw[Xr,Xr,Xr];rfl
def He(n:Nat){i b:Nat}{P:List UInt8}{d:Dk}(hi:i∈[0,1,2,3])(hP:P.length≤900)(hb:b≤1000)(h:dQ d b):∃s∈nW,∃d' w,ai D9 [1] (ac (n+2)) (eI i) (o7 P) (s0 d)=some (.next,w,s0 d')∧aA (o7 P) w=o7 (P++Ig i s)∧dQ d' (b+1):=by
 obtain⟨x,hx,d',e,h'⟩:=BP n (A:=nW.map eI) (by decide) (fun x hx=>by obtain⟨k,_,rfl⟩:=Yt.mp hx;exact bq _) hb h;obtain⟨s,hs,rfl⟩:=Yt.mp hx;let' sl:s≤3:=vN s hs;have k:ag (n+2) D5 [.glob 1,.lst (nW.map eI)] (s0 d) (fun r=>(fP r.2 .frozen .Mult (.bytes [60]) r.1).bind (OR i (.bytes (P++[32]))))=OR i (.bytes (P++[32])) (.bytes (List.replicate s 60),s0 d'):=
  (ad (s':=s0 d) (ae (aJ Gj (aJ (dC (bl (fun z=>bq _) nW)) am))) e).trans (aB (v:=(PV.bytes (List.replicate s 60),s0 d')) (bx ‹nW.map (fun k=>fP (s0 d') .frozen .Mult (.bytes [60]) (eI k))=nW.map fun k=>some (.bytes (List.replicate k 60),(s0 d'))› s hs))
 let' z2:((P++[32])++List.replicate s (60:UInt8)).length+1≤1000:=(by rw[Xl,Xl,List.length_replicate];exact Xk (XJ (XR (XJ hP 1) sl) 1) (by decide))
 let' z3:(((P++[32])++List.replicate s (60:UInt8))++[32]).length+1≤1000:=(by rw[Xl,Xl,Xl,List.length_replicate];exact Xk (XJ (XJ (XR (XJ hP 1) sl) 1) 1) (by decide))
 let' r0:=bx ‹[0,1,2,3].map (fun i=>ai D9 [1] (ac (n+2)) (eI i) (o7 P) (s0 d))=[0,1,2,3].map fun i=>((if aq (P++[32])=true then some (P++[32]) else none).bind fun l=>some (PV.bytes l,s0 d)).bind fun y=>ag (n+2) D5 [.glob 1,.lst (nW.map eI)] y.2 fun r=>(fP r.2 .frozen .Mult (.bytes [60]) r.1).bind (OR i y.1)› i hi;let' r1:((if aq (P++[32])=true then some (P++[32]) else none).bind fun l=>some (PV.bytes l,s0 d))=some (PV.bytes (P++[32]),s0 d):=aB (gM (yv (XQ hP (by decide))));let' r3:=aB (f:=fun y:PV×St=>ag (n+2) D5 [.glob 1,.lst (nW.map eI)] y.2 fun r=>(fP r.2 .frozen .Mult (.bytes [60]) r.1).bind (OR i y.1)) r1
 let' r:=r0.trans (r3.trans k);let' r2:OR i (.bytes (P++[32])) (.bytes (List.replicate s 60),s0 d')=some (.next,LU++[(1885431653,.bytes (P++Ig i s)),(24948,eI i)],s0 d'):=(aB (qQ (by rw[Xl,List.length_replicate];exact Xk (XR (XJ hP 1) sl) (by decide):(P++[32]).length+(List.replicate s (60:UInt8)).length≤1000))).trans ((aB (qQ z2)).trans ((aB (qQ z3)).trans (by rw[Kf])));exact⟨s,hs,d',_,r.trans r2,rfl,h'⟩
def Rt:∀i<4,i∈[0,1,2,3]:=by decide
def tV(b:Int):fA [PV.int b]=cR 0 b 1:=rfl
def FJ(n:Nat)(m:Nat):∀(i b:Nat) (P:List UInt8) (d:Dk),i+m≤4->P.length+6*m≤900->b+m≤1000->dQ d b->∃ss:List Nat,ss.length=m∧(∀s∈ss,s∈nW)∧∃d',au (ai D9 [1] (ac (n+2))) ((List.range' i m).map eI) (o7 P) (s0 d)=some (.next,o7 (P++Kj ss i),s0 d')∧dQ d' (b+m):=by
 induction m with
|zero=>intro i b P d _ _ _ h;exact⟨[],rfl,fun z h=>(nomatch h),d,by rw[show Kj [] i=[] from rfl,Xu];rfl,h⟩
|succ m ih=>
  intro i b P d hi hP hb h;rw[Nat.mul_add] at hP;obtain⟨s,hs,d',w,e1,e2,h'⟩:=He n (i:=i) (b:=b) (P:=P) (d:=d) (by
   exact Rt i (XI (Yi (XT m)) hi)) (Xk (XH _ _) hP) (Xk (XH _ _) hb) h
  obtain⟨ss,l1,l2,d2,e3,h2⟩:=ih (i+1) (b+1) (P++Ig i s) d' (by rw[XD];exact hi) (by
   rw[Xl,XS,XZ (Ig i s).length];exact Xk (XA (XA (ES hs) _) _) hP) (by rw[XD];exact hb) h'
  refine⟨s::ss,YH (·+1) l1,fun x hx=>(Xo.mp hx).elim (fun e=>e▸hs) (l2 x),d2,?_,by rw[XD] at h2;exact h2⟩;rw[Xr] at e3;exact(be e1 e2).trans e3
def NZ(n:Nat){b:Nat}{d:Dk}(hb:b≤900)(h:dQ d b):∃a∈k7,∃ss:List Nat,(0<ss.length∧ss.length≤4)∧(∀s∈ss,s∈nW)∧∃d',af (n+3) Ve [.glob 1] (g1 d)=some (.bytes (mX a ss),g1 d')∧dQ d' (b+6):=by
 obtain⟨x,hx,d1,e1,h1⟩:=BP n (A:=k7.map fun a=>.bytes [UInt8.ofNat a]) (by decide) (fun x hx=>by obtain⟨k,_,rfl⟩:=Yt.mp hx;rfl) (Xk hb (by decide)) h;obtain⟨a,ha,rfl⟩:=Yt.mp hx;obtain⟨v,d2,e2,v0,v1,h2⟩:=nN (n+1) (k:=4) (by decide) (Xk (XJ hb 1) (by decide)) h1;obtain⟨m,rfl⟩:=Int.eq_ofNat_of_zero_le v0;let' m4:m<4:=Yo.mp v1;obtain⟨ss,l1,l2,d3,e3,h3⟩:=FJ n (m+1) 0 (b+2) [38,UInt8.ofNat a] d2 (by rw[Xz];exact m4) (Xk (XA (Nat.mul_le_mul_left 6 m4) 2) (by decide)) (Xk (XR (XJ hb 2) m4) (by decide)) h2
 have rg:fA [PV.int (1+(m:Int))]=some ((List.range' 0 (m+1)).map eI):=by rw[tV,show(1:Int)+m=((m+1:Nat)) from Zf 1 m,<-Zh];exact dw (Xk m4 (by decide))
 let' k2:=‹ah D9 [] 1 (ac (n+2)) (o7 [38,UInt8.ofNat a]) (s0 d1)=ag (n+2) zm [.glob 1,.int (4:Nat)] (s0 d1) fun r=>(fP r.2 .frozen .Add (.int 1) r.1).bind fun y=>(fA [y.1]).bind fun l=>(au (ai D9 [1] (ac (n+2))) l (o7 [38,UInt8.ofNat a]) y.2).bind fun z=>some (z.1,z.2.1,aO z.2.2 none)›.trans ((ad (s':=s0 d1) (ae (aJ Gj (aJ (bq _) am))) e2).trans ((aB (v:=(PV.int (1+(m:Int)),s0 d2)) rfl).trans ((aB rg).trans (aB e3))));refine⟨a,ha,ss,⟨by rw[l1];exact XT _,by rw[l1];exact m4⟩,l2,d3,ao (by rfl') ‹bf D9 [.glob 1]=some LU› ((aa ‹aN D9 [] 0=true› (‹ah D9 [] 0 (ac (n+2)) LU (s0 d)=ag (n+2) D5 [.glob 1,.lst (k7.map fun a=>.bytes [UInt8.ofNat a])] (s0 d) fun r=>(fP r.2 .frozen .Add (.bytes [38]) r.1).bind fun y=>some (.next,LU++[(1885431653,y.1)],y.2)›.trans ((ad (s':=s0 d) (ae (aJ Gj (aJ (dC (bl (fun w=>rfl) k7)) am))) e1).trans (aB (v:=(PV.bytes [38,UInt8.ofNat a],s0 d1)) (qQ (A:=[38]) (B:=[UInt8.ofNat a]) (show 1+1≤1000 by decide)))))).trans ((aa ‹aN D9 [] 1=true› k2).trans (VR ..))) rfl (zF ..),⟨h3.len,h3.m0,h3.t0,Yj h3.t1 (Yp.mpr ?_)⟩⟩
 rw[XS b 2];exact XA (XA m4 2) b
def SX:Nat:=450624087419674289138789
noncomputable def eK(x:Int):PV:=.tup [.int x]
def Q2(w:Nat):List (PV×PV):=[(eK 97,lE [(40000,32,2,false)]),(eK 98,lE [(40001,32,2,false)]),(eK 99,lE [(40002,32,2,false)]),(eK 65,lE [(40000,32,8,false)]),(eK 768,lE [(0,33,2,false)]),(eK 45,lE [(w,32,2,true)]),(eK 95,lE [(201,32,2,true)]),(eK 173,lE [])]
noncomputable def OQ:List Int:=[97,98,99,65,768,45,95,173]
def bY:List (PV×PV):=OQ.map fun x=>(.int x,.int 1)
def MO(n w:Nat)(d:Dk):af (n+8) SX [.int (w:Nat)] (g1 d)=some (bw (Q2 w) bY (1,1,1),g1 d):=‹af (n+8) SX [.int (w:Nat)] (gD d.1 d.2.1 d.2.2)=JS d.1 (some (bw (Q2 w) bY (1,1,1),gD d.1 d.2.1 d.2.2))›.trans (nM _ _)
def gR(T:List PV)(a:Int)(d:Dk):List Ent:=g1 d++[⟨.inst 389400131391659048199538 [(1952807028,.lst T),(24948,.int a)],.mut⟩]
def sR(T:List PV)(a:Int)(d:Dk):St:=⟨[],gR T a d⟩
def bH(F T:List PV)(a:Int)(d:Dk):St:=⟨[⟨.lst F,.mut⟩],gR T a d⟩
noncomputable def J6:List Int:=[38,97,98,99,32,60,119,120,121,122]
def Tn:Nat:=(fI 389400131391659048199538 1936024947)
def pd:Nat:=(fI 389400131391659048199538 499850634611)
def wX:Nat:=(fI 389400131391659048199538 1936419184)
def SQ:Nat:=106
def NR:Nat:=107
def ux:Nat:=105
noncomputable def ch(c:Nat):PV:=.str ⟨[c].toArray⟩
section
variable(n c:Nat)(T:List PV)(a:Int)(b:Bool)(d:Dk)
def EZ:YA:=[(1936026726,.glob 2),(1936287598,ch c)]
noncomputable def Z8:YA:=[(1936026726,.glob 2)]
def UN:bf SQ [.glob 2,ch c]=some (EZ c):=by rfl'
def Ua:bf ux [.glob 2]=some Z8:=by rfl'
def Vl:run SQ [] 0 (ac n) (EZ c) (sR T a d)=if decide (a<T.length)=true then(cC T a).bind fun y=>(aM (sR T a d) .Eq y (.int c)).bind fun b=>some (.ret (.bool b),EZ c,sR T a d) else some (.ret (.bool (decide (a<T.length))),EZ c,sR T a d):=by rfl'
def Um:aI ux [0] (ac n) Z8 (sR T a d)=some (decide (a<T.length),sR T a d):=by rfl'
def Ue:ah ux [(0,true)] 0 (ac n) Z8 (sR T a d)=(cC T a).bind fun y=>some (.next,Z8++[(1668244581,y)],sR T a d):=by rfl'
def Uz:J6.map (fun x=>run ux [(0,true)] 1 (ac (n+1)) (Z8++[(1668244581,.int x)]) (sR T a d))=J6.map fun x=>if x=32 then some (.next,Z8++[(1668244581,.int x)],sR T (a+1) d) else some (.ret .none,Z8++[(1668244581,.int x)],sR T a d):=by rfl'
end
def UD:aD ux [0]=run ux [(0,true)] 0:=by rfl'
def q5(T T':List PV)(a a':Int)(d d':Dk):di (gR T a d) (gR T' a' d')=true:=by rfl'
def Mj:i5 SQ Tn=true:=by rfl'
def ML:i5 ux wX=true:=by rfl'
def HK:aN ux [] 0=true:=by rfl'
def HJ:aN ux [(0,true)] 0=true:=by rfl'
noncomputable def hd(r:List Int)(c:Nat):Bool:=match r with
|[]=>false
|x::_=>x==(c:Int)
def gL(L:List Int)(a:Nat)(d:Dk):List Ent:=gR (L.map .int) (a:Nat) d
def uX(r:List Int):Prop:=∀x q,r=x::q->x∈J6∧x≠32
def BX:aw (.glob 2)=true:=by rfl'
def Io(c:Nat):aj [.glob 2,ch c]=true:=aJ BX (aJ ‹_=true› am)
def lR:aj [.glob 2]=true:=aJ BX am
def rG(s:St)(x c:Int):aM s .Eq (.int x) (.int c)=some (x==c):=by rfl'
section
variable{n c:Nat}{L p r:List Int}{d:Dk}
def Nz(hL:L=p++r):af (n+1) Tn [.glob 2,ch c] (gL L p.length d)=some (.bool (hd r c),gL L p.length d):=by
 let' e:=Vl n c (L.map .int) p.length d;cases r with
|nil=>rw[Yd (gT (hL.trans (Xu p)):¬((p.length:Nat):Int)<((L.map PV.int).length:Nat))] at e;exact ao Mj (UN c) e rfl (q5 ..)
|cons x q=>rw[Yc (iu (f:=PV.int) hL)] at e;exact ao Mj (UN c) (e.trans ((aB (bS (f:=PV.int) hL)).trans (aB (rG _ x c)))) rfl (q5 ..)
def Nn(hL:L=p++r):af (n+2) pd [.glob 2,ch c] (gL L p.length d)=some (.bool (hd r c),gL L (p.length+(if hd r c then 1 else 0)) d):=by
 let' e:=ao ‹i5 NR pd=true› ‹bf NR [.glob 2,ch c]=some (EZ c)› ((aa ‹aN NR [] 0=true› (‹ah NR [] 0 (ac (n+1)) (EZ c) (sR (L.map .int) p.length d)=ag (n+1) Tn [.glob 2,ch c] (sR (L.map .int) p.length d) fun r=>some (.next,EZ c++[(7598521949876482661,r.1)],r.2)›.trans (ad (s':=sR (L.map .int) p.length d) (ae (Io c)) (Nz hL)))).trans ‹run NR [] 1 (ac (n+1)) (EZ c++[(7598521949876482661,.bool (hd r c))]) (sR (L.map .int) p.length d)=some (.ret (.bool (hd r c)),EZ c++[(7598521949876482661,.bool (hd r c))],sR (L.map .int) (p.length+(if(hd r c) then 1 else 0)) d)›) rfl (q5 ..)
 refine e.trans ?_;cases hd r c<;>rfl
def HO(K:Nat)(hL:L=p++r)(hr:uX r):∃y ZL,aT (aI ux [0] (ac (n+1))) (aD ux [0] (ac (n+1))) (K+1) Z8 (sR (L.map .int) p.length d)=some (y,ZL,sR (L.map .int) p.length d)∧(y=.next∧ZL=Z8∨y=.ret .none):=by
 let' e:=Um (n+1) (L.map .int) p.length d;cases r with
|nil=>rw[Yd (gT (hL.trans (Xu p)):¬((p.length:Nat):Int)<((L.map PV.int).length:Nat))] at e;exact⟨_,_,cQ e,.inl ⟨rfl,rfl⟩⟩
|cons x q=>obtain⟨h1,h2⟩:=hr x q rfl;rw[Yc (iu (f:=PV.int) hL)] at e;exact⟨_,_,AC e (((YI (YI (YI UD (ac (n+1))) Z8) (sR (L.map .int) p.length d)).trans (aa HJ ((Ue (n+1) (L.map .int) p.length d).trans (aB (bS (f:=PV.int) hL))))).trans ((bx (Uz n (L.map .int) p.length d) x h1).trans (Yg h2))),.inr rfl⟩
def AJ{a:Int}{y:Fl}{ZL:YA}{T:List PV}{s':St}(h:aT (aI ux [0] (ac n)) (aD ux [0] (ac n)) aS Z8 (sR T a d)=some (y,ZL,s'))(hy:y=.next∧ZL=Z8∨y=.ret .none)(hg:di (gR T a d) s'.g=true):af (n+1) wX [.glob 2] (gR T a d)=some (.none,s'.g):=by
 let' e:=‹ah ux [] 0 (ac n) Z8 (sR T a d)=(aT (aI ux [0] (ac n)) (aD ux [0] (ac n)) aS Z8 (sR T a d)).bind some›.trans (aB h);rcases hy with⟨rfl,rfl⟩|rfl
 ·exact ao ML Ua ((aa HK e).trans ‹_=some (.next,Z8,s')›) rfl hg
 ·exact ao ML Ua (dG HK e) rfl hg
def jO(hL:L=p++r)(hr:uX r):af (n+2) wX [.glob 2] (gL L p.length d)=some (.none,gL L p.length d):=by obtain⟨y,ZL,e,h⟩:=HO 99999 hL hr;exact AJ e h (q5 ..)
def AT(hL:L=p++32::r)(hr:uX r):af (n+2) wX [.glob 2] (gL L p.length d)=some (.none,gL L (p.length+1) d):=by obtain⟨y,ZL,e,h⟩:=HO 99998 (bE hL) hr;rw[(Xl:(p++[(32:Int)]).length=p.length+1)] at e;let' t:=Um (n+1) (L.map .int) p.length d;rw[Yc (iu (f:=PV.int) hL)] at t;exact AJ ((gy (n:=99999) t (((YI (YI (YI UD (ac (n+1))) Z8) (sR (L.map .int) p.length d)).trans (aa HJ ((Ue (n+1) (L.map .int) p.length d).trans (aB (bS (f:=PV.int) hL))))).trans ((bx (Uz n (L.map .int) p.length d) 32 (by decide)).trans (Yh rfl))) rfl).trans e) h (q5 ..)
end
def Fe:Nat:=(fI 389400131391659048199538 126943972912743)
def bM:Nat:=110
def gj(n k:Nat)(A:List PV)(s:St):Option (Bool×St):=ag n k A s fun r=>(cX r.1).bind fun b=>some (b,r.2)
section
variable(n:Nat)(F T:List PV)(a b x:Int)(d:Dk)
def pp:YA:=Z8++[(439956631140,.loc 0),(482854658917,.int b)]
def fX:YA:=pp b++[(1668244581,.int x)]
def Vb:aI bM [2] (ac n) (pp b) (bH F T a d)=some (decide (a<T.length),bH F T a d):=by rfl'
def Us:ah bM [(2,true)] 0 (ac n) (pp b) (bH F T a d)=(cC T a).bind fun y=>some (.next,pp b++[(1668244581,y)],bH F T a d):=by rfl'
def U6:bn bM [(2,true)] 1 (ac n) (fX b x) (bH F T a d)=gj n pd [.glob 2,ch 39] (bH F T a d):=by rfl'
def Vc:bn bM [(2,true),(1,false)] 0 (ac n) (fX b x) (bH F T a d)=gj n pd [.glob 2,ch 92] (bH F T a d):=by rfl'
end
def Nc:aD bM [2]=run bM [(2,true)] 0:=by rfl'
def Co:aN bM [(2,true)] 0=true:=by rfl'
def AG:aN bM [(2,true)] 1=true:=by rfl'
def wN:kK bM [(2,true)] 1=true:=by rfl'
def DX:aN bM [(2,true),(1,false)] 0=true:=by rfl'
def xp:kK bM [(2,true),(1,false)] 0=true:=by rfl'
def De:aN bM [(2,true),(1,false),(0,false)] 0=true:=by rfl'
def xv:kK bM [(2,true),(1,false),(0,false)] 0=true:=by rfl'
def cz{k i:Nat}{q:List (Nat×Bool)}{C:Zn}{vs ZL:YA}{s s':St}(ok:aN k q i=true)(e:run k q (i+1)=fun z vs s=>some (.next,vs,s))(h:ah k q i C vs s=some (.next,ZL,s')):run k q i C vs s=some (.next,ZL,s'):=(aa ok h).trans (YI (YI (YI e C) ZL) s')
def ċ:List Int:=[97,98,99,119,120,121,122]
def PQ(r:List Int):Prop:=r=[]∨∃q,r=32::q
def HV{x:Int}(b:Bool)(h:x∈J6)(n:Nat)(F T:List PV)(a c:Int)(d:Dk)(e:decide (x=38∨x=60∨x=32)=b):bn bM [(2,true),(1,false),(0,false)] 0 (ac (n+1)) (fX c x) (bH F T a d)=some (b,bH F T a d):=(bx ‹J6.map (fun x=>bn bM [(2,true),(1,false),(0,false)] 0 (ac (n+1)) (fX c x) (bH F T a d))=J6.map fun x=>some (decide (x=38∨x=60∨x=32),bH F T a d)› x h).trans (by rw[e])
def lm:∀x∈ċ,x∈J6∧(decide (x=38∨x=60∨x=32)=false∧((x==((39:Nat):Int))=false∧((x==((92:Nat):Int))=false∧((x==((38:Nat):Int))=false∧((x==((91:Nat):Int))=false∧x≠32))))):=by decide
section
variable{n:Nat}{L p r F:List Int}{x b:Int}{d:Dk}
def BL{c:Nat}{l:List Ent}(hL:L=p++r):gj (n+2) pd [.glob 2,ch c] ⟨l,gL L p.length d⟩=some (hd r c,⟨l,gL L (p.length+(if hd r c then 1 else 0)) d⟩):=ad (s':=⟨l,gL L p.length d⟩) (ae (Io c)) (Nn hL)
def nI{c:Nat}{l:List Ent}(hL:L=p++r)(h:hd r c=false):gj (n+2) pd [.glob 2,ch c] ⟨l,gL L p.length d⟩=some (false,⟨l,gL L p.length d⟩):=(BL hL).trans (by rw[h];rfl)
def zu{F:List PV}(hL:L=p++x::r)(hx:x∈ċ)(hF:F.length<1000):aD bM [2] (ac (n+2)) (pp b) (bH F (L.map .int) p.length d)=some (.next,fX b x,bH (F++[.int x]) (L.map .int) ((p.length:Int)+1) d):=by
 obtain⟨h1,h2,h3,h4,_⟩:=lm x hx;let' a1:bn bM [(2,true)] 1 (ac (n+2)) (fX b x) (bH F (L.map .int) p.length d)=some (false,bH F (L.map .int) p.length d):=(U6 (n+2) F (L.map .int) p.length b x d).trans (nI hL h3);let' a2:bn bM [(2,true),(1,false)] 0 (ac (n+2)) (fX b x) (bH F (L.map .int) p.length d)=some (false,bH F (L.map .int) p.length d):=(Vc (n+2) F (L.map .int) p.length b x d).trans (nI hL h4);let' a3:=HV false h1 (n+1) F (L.map .int) p.length b d h2;let' a4:ah bM [(2,true),(1,false),(0,false),(0,false)] 0 (ac (n+2)) (fX b x) (bH F (L.map .int) p.length d)=some (.next,fX b x,bH (F++[.int x]) (L.map .int) p.length d):=‹_=(if(aq (F++[.int x])&&true)=true then some (PV.none,bH (F++[.int x]) (L.map .int) p.length d) else none).bind fun y=>some (.next,fX b x,y.2)›.trans (aB (gM (by rw[yv hF];rfl)))
 let' a5:=‹run bM [(2,true),(1,false),(0,false),(0,false)] 1 (ac (n+2)) (fX b x) (bH (F++[.int x]) (L.map .int) p.length d)=some (.next,fX b x,bH (F++[.int x]) (L.map .int) (p.length+1) d)›
 let' a6:=cz De (by rfl') ((bg xv a3).trans ((aa ‹aN bM [(2,true),(1,false),(0,false),(0,false)] 0=true› a4).trans a5));let' a7:=cz DX ‹run bM [(2,true),(1,false)] 1=fun z vs s=>some (.next,vs,s)› ((bg xp a2).trans a6);let' a8:=cz AG ‹run bM [(2,true)] 2=fun z vs s=>some (.next,vs,s)› ((bg wN a1).trans a7);exact(YI (YI (YI Nc (ac (n+2))) (pp b)) _).trans ((aa Co ((Us (n+2) F (L.map .int) p.length b d).trans (aB (bS (f:=PV.int) hL)):ah bM [(2,true)] 0 (ac (n+2)) (pp b) (bH F (L.map .int) p.length d)=some (.next,fX b x,bH F (L.map .int) p.length d))).trans a8)
def AU{F:List PV}(hL:L=p++32::r):aD bM [2] (ac (n+2)) (pp b) (bH F (L.map .int) p.length d)=some (.brk,fX b 32,bH F (L.map .int) p.length d):=by
 let' a1:bn bM [(2,true)] 1 (ac (n+2)) (fX b 32) (bH F (L.map .int) p.length d)=some (false,bH F (L.map .int) p.length d):=(U6 (n+2) F (L.map .int) p.length b 32 d).trans (nI hL rfl);let' a2:bn bM [(2,true),(1,false)] 0 (ac (n+2)) (fX b 32) (bH F (L.map .int) p.length d)=some (false,bH F (L.map .int) p.length d):=(Vc (n+2) F (L.map .int) p.length b 32 d).trans (nI hL rfl);let' a3:=HV true (x:=32) (by decide) (n+1) F (L.map .int) p.length b d (by decide);let' a6:=qU De ((bg xv a3).trans ‹run bM [(2,true),(1,false),(0,false),(0,true)] 0 (ac (n+2)) (fX b (32:Int)) (bH F (L.map .int) p.length d)=some (.brk,fX b (32:Int),bH F (L.map .int) p.length d)›)
 let' a7:=qU DX ((bg xp a2).trans a6);let' a8:=qU AG ((bg wN a1).trans a7);exact(YI (YI (YI Nc (ac (n+2))) (pp b)) _).trans ((aa Co ((Us (n+2) F (L.map .int) p.length b d).trans (aB (bS (f:=PV.int) hL)):ah bM [(2,true)] 0 (ac (n+2)) (pp b) (bH F (L.map .int) p.length d)=some (.next,fX b 32,bH F (L.map .int) p.length d))).trans a8)
end
section
variable{n:Nat}{L p r:List Int}{x b a0:Int}{d:Dk}{T:List PV}
def Gb(hL:L=p++x::r)(hx:x∈ċ)(hr:PQ r):aT (aI bM [2] (ac (n+2))) (aD bM [2] (ac (n+2))) aS (pp b) (bH [] (L.map .int) p.length d)=some (.next,pp b,bH [.int x] (L.map .int) ((p.length:Int)+1) d):=by
 let' t:=Vb (n+2) [] (L.map .int) p.length b d;rw[Yc (iu (f:=PV.int) hL)] at t;let' l1:((p++[x]).length:Int)=(p.length:Int)+1:=YH Int.ofNat Xl;let' t2:=Vb (n+2) [.int x] (L.map .int) ((p++[x]).length:Nat) b d;refine(gy (n:=99999) t (zu (F:=[]) hL hx (by decide)) rfl).trans ?_;let' h2:=bE hL;refine(?_:aT (aI bM [2] (ac (n+2))) (aD bM [2] (ac (n+2))) 99999 (pp b) (bH [.int x] (L.map .int) ((p.length:Int)+1) d)=_);rw[<-l1];rcases hr with rfl|⟨q,rfl⟩
 ·rw[Yd (gT (f:=PV.int) (h2.trans (Xu _)))] at t2;exact cQ (n:=99998) t2
 ·rw[Yc (iu (f:=PV.int) h2)] at t2;exact Bi (n:=99998) t2 (AU h2) rfl
def Ab(hL:L=p++x::r)(hx:x∈ċ)(hr:PQ r)(hs:af (n+2) wX [.glob 2] (gR (L.map .int) a0 d)=some (.none,gL L p.length d)):af (n+3) Fe [.glob 2] (gR (L.map .int) a0 d)=some (.lst [.int x],gL L (p.length+1) d):=by
 exact ao (by rfl') (by rfl') ((aa (by rfl') (‹ah bM [] 0 (ac (n+2)) Z8 (sR (L.map .int) a0 d)=ag (n+2) wX [.glob 2] (sR (L.map .int) a0 d) fun r=>some (.next,Z8,r.2)›.trans (ad (s':=sR (L.map .int) a0 d) (ae lR) hs))).trans ((aa ‹aN bM [] 1=true› ‹ah bM [] 1 (ac (n+2)) Z8 (sR (L.map .int) p.length d)=some (.next,pp p.length,bH [] (L.map .int) p.length d)›).trans ((aa ‹aN bM [] 2=true› (‹ah bM [] 2 (ac (n+2)) (pp p.length) (bH [] (L.map .int) p.length d)=(aT (aI bM [2] (ac (n+2))) (aD bM [2] (ac (n+2))) aS (pp p.length) (bH [] (L.map .int) p.length d)).bind some›.trans (aB (Gb hL hx hr)))).trans ((aa ‹aN bM [] 3=true› ‹ah bM [] 3 (ac (n+2)) (pp p.length) (bH [.int x] (L.map .int) (p.length+1:Nat) d)=some (.next,pp p.length,bH [.int x] (L.map .int) (p.length+1:Nat) d)›).trans ‹run bM [] 4 (ac (n+2)) (pp p.length) (bH [.int x] (L.map .int) (p.length+1:Nat) d)=some (.ret (.lst [.int x]),pp p.length,⟨[⟨.lst [.int x],.ZG⟩],gR (L.map .int) (p.length+1:Nat) d⟩)›)))) rfl (q5 ..)
end
def QL:Nat:=(fI 389400131391659048199538 8319400191629685864)
def uw:Nat:=114
def Ow:Nat:=(fI 389400131391659048199538 8243113858792255342)
def oK:Nat:=116
def TF:Nat:=(fI 389400131391659048199538 491328333172)
def D7:Nat:=113
noncomputable def Dy:PV:=.str ⟨[114,101,115,101,116].toArray⟩
noncomputable def TC:PV:=.str ⟨[114,101,108,97,116,105,111,110].toArray⟩
def mP(s x b:Int):PV:=.tup [TC,.int s,.tup [.int x],.tup [],.tup [],.int b]
def dZ(x b:Int):PV:=.tup [Dy,.tup [.int x],.int 0,.int b]
section
variable(n:Nat)(T:List PV)(a b s x:Int)(d:Dk)
noncomputable def uy:YA:=[(1936026726,.glob 2),(482854658917,.int b)]
def mV:YA:=uy b++[(1835101817,.int s)]
def Vi:aI uw [2] (ac n) (mV b s) (sR T a d)=gj n pd [.glob 2,ch 60] (sR T a d):=by rfl'
def rZ:YA:=uy b++[(8319400191629685864,.int s)]
def lH:YA:=rZ b s++[(27988542884247668,.lst []),(427070612851,.lst [.int x]),(1836020325,.lst [])]
def rE:YA:=uy b++[(108187649798757,.int 0)]
def UZ(r:PV×St):Option R3:=((cN r.2 r.1).bind fun l=>some (PV.tup l,r.2)).bind fun y=>(if(aw y.1&&true)=true then some (PV.tup [Dy,y.1,.int 0,.int b],y.2) else none).bind fun y=>some (.ret y.1,rE b,y.2)
end
section
def Kq{t:YA->St->Option (Bool×St)}{b:YA->St->Option R3}{V V' W:YA}{s s1 s':St}{n:Nat}(h:t V s=some (true,s1))(hb:b V s1=some (.next,W,s'))(e:aA V W=V'):aT t b (n+1) V s=aT t b n V' s':=by subst e;refine(?_:(t V s).bind _=_);rw[h];refine(?_:(b V s1).bind _=_);rw[hb];rfl
variable{n:Nat}{L:List Int}{d:Dk}
def yE{n c:Nat}{p r:List Int}(hL:L=p++r)(h:hd r c=false):gj (n+2) pd [.glob 2,ch c] (sR (L.map .int) p.length d)=some (false,sR (L.map .int) p.length d):=nI hL h
def KD{n c:Nat}{p r:List Int}(hL:L=p++(c:Int)::r):gj (n+2) pd [.glob 2,ch c] (sR (L.map .int) p.length d)=some (true,sR (L.map .int) ((p++[(c:Int)]).length:Nat) d):=by let' e:=BL (n:=n) (l:=[]) (d:=d) (c:=c) hL;rw[show hd ((c:Int)::r) c=true from Y5 (c:Int)] at e;rw[show(p++[(c:Int)]).length=p.length+1 from Xl];exact e
def Fh{b:Int}{r:List Int}(k:Nat):∀(m K:Nat) (p:List Int),L=p++(List.replicate k 60++32::r)->k<K->aT (aI uw [2] (ac (n+2))) (aD uw [2] (ac (n+2))) K (mV b m) (sR (L.map .int) p.length d)=some (.next,mV b ((m+k:Nat)),sR (L.map .int) ((p++List.replicate k 60).length:Nat) d):=by
 induction k with
|zero=>intro m K p hL Ò;obtain⟨K,rfl⟩:=dS Ò;rw[show List.replicate 0 (60:Int)=[] from rfl,Xu];exact cQ ((Vi (n+2) (L.map .int) p.length b m d).trans (yE (r:=32::r) hL rfl))
|succ k ih=>
  intro m K p hL hK;obtain⟨K,rfl⟩:=dS hK;have ξ:L=(p++[60])++(List.replicate k 60++32::r):=by rw[Xr];exact hL
  rw[show p++List.replicate (k+1) (60:Int)=p++[60]++List.replicate k 60 by rw[Xr];rfl,show m+(k+1)=m+1+k from(XD m 1 k).symm▸rfl];let' t:aI uw [2] (ac (n+2)) (mV b m) (sR (L.map .int) p.length d)=some (true,sR (L.map .int) ((p++[(60:Int)]).length:Nat) d):=(Vi (n+2) (L.map .int) p.length b m d).trans (KD (c:=60) hL);exact(Kq t ‹aD uw [2] (ac (n+2)) (mV b m) (sR (L.map .int) ((p++[(60:Int)]).length:Nat) d)=some (.next,mV b (m+1),sR (L.map .int) ((p++[(60:Int)]).length:Nat) d)› rfl).trans (ih (m+1) K (p++[60]) ξ (Yv hK))
def PP{p r:List Int}{s:Nat}{b:Int}(hL:L=p++(List.replicate s 60++32::r))(hs:(s:Int)∈[(1:Int),2,3]):af (n+3) QL [.glob 2,.int b] (gL L p.length d)=some (.int s,gL L (p++List.replicate s 60).length d):=by
 have s3:s<4:=by
  refine Yo.mp ?_;rcases Xo.mp hs with h|h
  ·rw[h];decide
  ·rcases Xo.mp h with h|h
   ·rw[h];decide
   ·rw[XU.mp h];decide
 let' e1:=bk (by rfl') (by rfl') (‹bn uw [] 0 (ac (n+2)) (uy b) (sR (L.map .int) p.length d)=gj (n+2) pd [.glob 2,ch 61] (sR (L.map .int) p.length d)›.trans (yE hL (by cases s<;>rfl:hd (List.replicate s 60++32::r) 61=false))) ‹run uw [(0,false)] 0 (ac (n+2)) (uy b) (sR (L.map .int) p.length d)=some (.next,uy b,sR (L.map .int) p.length d)›;let' e2:=Fh (n:=n) (d:=d) (b:=b) s 0 aS p hL (YQ s3 (by decide));rw[Xz] at e2;exact ao ‹i5 uw QL=true› ‹bf uw [.glob 2,.int b]=some (uy b)› (e1.trans ((aa ‹aN uw [] 1=true› ‹ah uw [] 1 (ac (n+2)) (uy b) (sR (L.map .int) p.length d)=some (.next,mV b 0,sR (L.map .int) p.length d)›).trans ((aa ‹aN uw [] 2=true› (‹ah uw [] 2 (ac (n+2)) (mV b (0:Int)) (sR (L.map .int) p.length d)=(aT (aI uw [2] (ac (n+2))) (aD uw [2] (ac (n+2))) aS (mV b (0:Int)) (sR (L.map .int) p.length d)).bind some›.trans (aB e2))).trans (bx ‹[(1:Int),2,3].map (fun s9=>run uw [] 3 (ac (n+2)) (mV b s9) (sR (L.map .int) ((p++List.replicate s 60).length:Nat) d))=[(1:Int),2,3].map fun s9=>some (.ret (.int s9),mV b s9,sR (L.map .int) ((p++List.replicate s 60).length:Nat) d)› s hs)))) rfl (q5 ..)
def zx(b:Int):aj [.glob 2,.int b]=true:=aJ BX (aJ (bq b) am)
def ET{n s:Nat}{T:List PV}{a1 a2 a3 a4 x b:Int}(hg:af n QL [.glob 2,.int b] (gR T a1 d)=some (.int s,gR T a2 d))(h1:gj n pd [.glob 2,ch 42] (sR T a2 d)=some (false,sR T a2 d))
  (hs:af n Fe [.glob 2] (gR T a2 d)=some (.lst [.int x],gR T a3 d)) (hk:af n wX [.glob 2] (gR T a3 d)=some (.none,gR T a4 d)) (h2:gj n pd [.glob 2,ch 124] (sR T a4 d)=some (false,sR T a4 d)) (h3:gj n pd [.glob 2,ch 47] (sR T a4 d)=some (false,sR T a4 d)):
  af (n+1) Ow [.glob 2,.int b] (gR T a1 d)=some (.lst [mP s x b],gR T a4 d):=by
 let' e2:=bk (by rfl') (by rfl') (‹bn oK [] 1 (ac n) (rZ b s) (sR T a2 d)=gj n pd [.glob 2,ch 42] (sR T a2 d)›.trans h1) ‹run oK [(1,false)] 0 (ac n) (rZ b s) (sR T a2 d)=some (.next,rZ b s,sR T a2 d)›;let' e3:ah oK [] 2 (ac n) (rZ b s) (sR T a2 d)=some (.next,lH b s x,sR T a3 d):=‹ah oK [] 2 (ac n) (rZ b s) (sR T a2 d)=ag n Fe [.glob 2] (sR T a2 d) fun r=>some (.next,rZ b s++[(27988542884247668,.lst []),(427070612851,r.1),(1836020325,.lst [])],r.2)›.trans (ad (s':=sR T a2 d) (ae lR) hs);let' e4:ah oK [] 3 (ac n) (lH b s x) (sR T a3 d)=some (.next,lH b s x,sR T a4 d):=‹ah oK [] 3 (ac n) (lH b s x) (sR T a3 d)=ag n wX [.glob 2] (sR T a3 d) fun r=>some (.next,lH b s x,r.2)›.trans (ad (s':=sR T a3 d) (ae lR) hk)
 let' e5:=bk ‹aN oK [] 4=true› ‹kK oK [] 4=true› (‹bn oK [] 4 (ac n) (lH b s x) (sR T a4 d)=gj n pd [.glob 2,ch 124] (sR T a4 d)›.trans h2) ‹run oK [(4,false)] 0 (ac n) (lH b s x) (sR T a4 d)=some (.next,lH b s x,sR T a4 d)›;let' e6:=bk ‹aN oK [] 5=true› ‹kK oK [] 5=true› (‹bn oK [] 5 (ac n) (lH b s x) (sR T a4 d)=gj n pd [.glob 2,ch 47] (sR T a4 d)›.trans h3) ‹run oK [(5,false)] 0 (ac n) (lH b s x) (sR T a4 d)=some (.next,lH b s x,sR T a4 d)›;exact ao ‹i5 oK Ow=true› ‹bf oK [.glob 2,.int b]=some (uy b)› ((aa ‹aN oK [] 0=true› (‹_=ag n QL [.glob 2,.int b] (sR T a1 d) fun r=>some (.next,uy b++[(8319400191629685864,r.1)],r.2)›.trans (ad (s':=sR T a1 d) (ae (zx b)) hg):ah oK [] 0 (ac n) (uy b) (sR T a1 d)=some (.next,rZ b s,sR T a2 d))).trans (e2.trans ((aa ‹aN oK [] 2=true› e3).trans ((aa ‹aN oK [] 3=true› e4).trans (e5.trans (e6.trans ‹run oK [] 6 (ac n) (lH b s x) (sR T a4 d)=some (.ret (.lst [mP s x b]),lH b s x,sR T a4 d)›)))))) rfl (q5 ..)
def OI{p q r r4:List Int}{s:Nat}{x b:Int}(hL:L=p++(List.replicate s 60++32::x::r))(hs:(s:Int)∈[(1:Int),2,3])(hx:x∈ċ)(hr:PQ r)
  (h4:L=q++r4) (hk:af (n+3) wX [.glob 2] (gL L (p++List.replicate s 60++[32]++[x]).length d)=some (.none,gL L q.length d)) (n1:hd r4 124=false) (n2:hd r4 47=false):
  af (n+4) Ow [.glob 2,.int b] (gL L p.length d)=some (.lst [mP s x b],gL L q.length d):=by
 let' hg:=PP (n:=n) (d:=d) (b:=b) hL hs;have hP:L=p++List.replicate s 60++32::x::r:=by rw[Xr];exact hL
 generalize p++List.replicate s (60:Int)=P at hk hg hP;let' hP2:L=P++[32]++x::r:=bE hP;let' k1:=AT (n:=n) (d:=d) hP (fun y q e=>by injection e with e _;subst e;exact⟨(lm _ hx).1,(lm _ hx).2.2.2.2.2.2⟩:uX (x::r));rw[show P.length+1=(P++[(32:Int)]).length from(Xl (as:=P) (bs:=[(32:Int)])).symm] at k1;generalize P++[(32:Int)]=Q at k1 hk hP2;let' k2:=Ab (n:=n) hP2 hx hr k1;rw[show Q.length+1=(Q++[x]).length from(Xl (as:=Q) (bs:=[x])).symm] at k2;exact ET hg (yE hP rfl) k2 hk (yE h4 n1) (yE h4 n2)
def NA{p r:List Int}{x b:Int}(hL:L=p++x::r)(hx:x∈ċ)(hr:PQ r):af (n+4) TF [.glob 2,.int b] (gL L p.length d)=some (dZ x b,gL L (p.length+1) d):=by
 let' sx:uX (x::r):=(fun y q e=>by injection e with e _;subst e;exact⟨(lm _ hx).1,(lm _ hx).2.2.2.2.2.2⟩)
 let' e1:ah D7 [] 0 (ac (n+3)) (uy b) (sR (L.map .int) p.length d)=some (.next,uy b,sR (L.map .int) p.length d):=‹_=ag (n+3) wX [.glob 2] (sR (L.map .int) p.length d) fun r=>some (.next,uy b,r.2)›.trans (ad (s':=sR (L.map .int) p.length d) (ae lR) (jO (n:=n+1) hL sx));let' e3:=bk (by rfl') (by rfl') (‹bn D7 [] 2 (ac (n+3)) (rE b) (sR (L.map .int) p.length d)=gj (n+3) pd [.glob 2,ch 91] (sR (L.map .int) p.length d)›.trans (yE hL (lm x hx).2.2.2.2.2.1)) ‹run D7 [(2,false)] 0 (ac (n+3)) (rE b) (sR (L.map .int) p.length d)=some (.next,rE b,sR (L.map .int) p.length d)›
 let' e4:run D7 [] 3 (ac (n+3)) (rE b) (sR (L.map .int) p.length d)=some (.ret (dZ x b),rE b,sR (L.map .int) ((p.length+1:Nat)) d):=‹run D7 [] 3 (ac (n+3)) (rE b) (sR (L.map .int) p.length d)=ag (n+3) Fe [.glob 2] (sR (L.map .int) p.length d) (UZ b)›.trans ((ad (s':=sR (L.map .int) p.length d) (ae lR) (Ab hL hx hr (jO hL sx))).trans ‹UZ b (.lst [.int x],sR (L.map .int) ((p.length+1:Nat)) d)=some (.ret (dZ x b),rE b,sR (L.map .int) ((p.length+1:Nat)) d)›);exact ao ‹i5 D7 TF=true› ‹bf D7 [.glob 2,.int b]=some (uy b)› ((aa ‹aN D7 [] 0=true› e1).trans ((aa ‹aN D7 [] 1=true› ‹ah D7 [] 1 (ac (n+3)) (uy b) (sR (L.map .int) p.length d)=some (.next,rE b,sR (L.map .int) p.length d)›).trans (e3.trans e4))) rfl (q5 ..)
end
def U5:Nat:=2166656509962533298532
def TA:Nat:=554664066550425771664229
def PZ:Nat:=100
def Ud:Nat:=121371375230547945430738488
def rW:Nat:=101
def TT(l:List Nat):PV:=.bytes (l.map UInt8.ofNat)
def Č:List Nat:=[38,97,98,99,32,60,119,120,121,122]
noncomputable def TG:PV:=.tup [.int 1,.int 0,.int 0]
noncomputable def nS:PV:=.str ⟨[].toArray⟩
section
variable(n a:Nat)(x:Int)(B:List UInt8)(F:List PV)(d:Dk)
noncomputable def Pi:YA:=[(122472945251443,.bytes B),(24948,.int a)]
def SR:YA:=Pi a B++[(1818583396,TG),(1835101817,.int 1),(7106423,.int 0),(1751738216,.int 0)]
def RE:Option PV:=(cC B (a:Int)).bind fun u=>some (PV.int u.toNat)
noncomputable def zG:YA:=[(122472945251443,.bytes B),(439956631140,.loc 0),(24948,.int a)]
def wb:YA:=zG a B++[(1835101817,.int 1),(1668244581,.int x),(513021013607,nS)]
def WH:ah rW [] 0 (ac n) [(122472945251443,.bytes B)] (s0 d)=some (.next,zG 0 B,s1 [] d):=by rfl'
def Uc:aI rW [1] (ac n) (zG a B) (s1 F d)=some (decide ((a:Int)<B.length),s1 F d):=by rfl'
def W9:run rW [] 2 (ac n) (zG a B) (s1 F d)=t9 F (zG a B) d:=by rfl'
end
def Be:∀x∈Č,((UInt8.ofNat x).toNat:Int)=x:=by decide
section
variable{n:Nat}{L p r:List Nat}{x:Nat}{d:Dk}
def NP(hL:L=p++x::r)(hx:x∈Č):af (n+2) TA [TT L,.int p.length] (g1 d)=some (.tup [.int 1,.int x,nS],g1 d):=by
 let' i:RE p.length (L.map UInt8.ofNat)=some (.int x):=(aB (bS (f:=UInt8.ofNat) hL)).trans (by rw[Be x hx]);let' u:=bx ‹Č.map (fun x=>af (n+1) U5 [.int (UInt8.ofNat x).toNat] (g1 d))=Č.map fun z=>some (TG,g1 d)› x hx;rw[Be x hx] at u;let' e2:=‹run PZ [] 1 (ac (n+1)) (Pi p.length (L.map UInt8.ofNat)++[(1818583396,TG)]) (s0 d)=(RE p.length (L.map UInt8.ofNat)).bind fun y=>(if(aw y&&true)=true then some (PV.tup [.int 1,y,nS],s0 d) else none).bind fun y=>some (.ret y.1,SR p.length (L.map UInt8.ofNat),y.2)›.trans ((aB i).trans rfl);exact ao ‹i5 PZ TA=true› ‹bf PZ [.bytes _,.int _]=some (Pi _ _)› ((aa ‹aN PZ [] 0=true› (‹ah PZ [] 0 (ac (n+1)) (Pi p.length (L.map UInt8.ofNat)) (s0 d)=(RE p.length (L.map UInt8.ofNat)).bind fun y=>ag (n+1) U5 [y] (s0 d) fun r=>some (.next,Pi p.length (L.map UInt8.ofNat)++[(1818583396,r.1)],r.2)›.trans ((aB i).trans (ad (s':=s0 d) (ae (aJ (bq _) am)) u)))).trans e2) rfl (ak _)
def EO(r:List Nat):∀(p:List Nat) (K:Nat),L=p++r->L.length<900->(∀x∈r,x∈Č)->r.length<K->aT (aI rW [1] (ac (n+2))) (aD rW [1] (ac (n+2))) K (zG p.length (L.map UInt8.ofNat)) (s1 (p.map eI) d)=some (.next,zG L.length (L.map UInt8.ofNat),s1 (L.map eI) d):=by
 induction r with
|nil=>intro p K hL _ _ Ò;obtain⟨K,rfl⟩:=dS Ò;let' t:=Uc (n+2) p.length (L.map UInt8.ofNat) (p.map eI) d;let' e:L=p:=hL.trans (Xu p);rw[Yd (gT e)] at t;refine(cQ t).trans ?_;rw[e]
|cons x r ih=>
  intro p K hL hz hs hK;obtain⟨K,rfl⟩:=dS hK;let' t:=Uc (n+2) p.length (L.map UInt8.ofNat) (p.map eI) d;rw[Yc (iu hL)] at t;have hp:(p.map eI).length<1000:=by rw[Xm];refine XQ ?_ (YQ hz (by decide));rw[hL,Xl];exact XH _ _
  let' b2:=‹ah rW [(1,true)] 2 (ac (n+2)) (wb p.length x (L.map UInt8.ofNat)) (s1 (p.map eI) d)=KF (p.map eI) (.int x) d fun y=>some (.next,wb p.length x (L.map UInt8.ofNat),y.2)›.trans (lN hp);let' b:=(YI (YI (YI ‹aD rW [1]=run rW [(1,true)] 0› (ac (n+2))) _) _).trans ((aa ‹aN rW [(1,true)] 0=true› (‹_=ag (n+2) TA [.bytes (L.map UInt8.ofNat),.int p.length] (s1 (p.map eI) d) fun r=>(pT [pV 1835101817,pV 1668244581,pV 513021013607] r.1 (zG p.length (L.map UInt8.ofNat))).bind fun vs=>some (.next,vs,r.2)›.trans (ad (s':=s1 (p.map eI) d) (ae (by rfl')) (NP hL (hs x (.head _)))):ah rW [(1,true)] 0 (ac (n+2)) (zG p.length (L.map UInt8.ofNat)) (s1 (p.map eI) d)=some (.next,wb p.length x (L.map UInt8.ofNat),s1 (p.map eI) d))).trans ((aa ‹aN rW [(1,true)] 1=true› ‹ah rW [(1,true)] 1 (ac _) (wb _ _ _) (s1 _ _)=some (.next,wb _ _ _,s1 _ _)›).trans ((aa ‹aN rW [(1,true)] 2=true› b2).trans ‹run rW [(1,true)] 3 (ac (n+2)) (wb p.length x (L.map UInt8.ofNat)) (s1 (p.map eI++[.int x]) d)=some (.next,wb (p.length+1) x (L.map UInt8.ofNat),s1 (p.map eI++[.int x]) d)›)))
  let' h:=ih (p++[x]) K (bE hL) hz (fun y hy=>hs y (.tail _ hy)) (Yv hK);rw[XE,show(p++[x]).length=p.length+1 from Xl] at h;exact(gy t b rfl).trans h
def Mn(hz:L.length<900)(hs:∀x∈L,x∈Č):af (n+3) Ud [TT L] (g1 d)=some (.lst (L.map eI),g1 d):=by exact ao (by rfl') (by rfl') ((aa (by rfl') (WH ..)).trans ((aa ‹aN rW [] 1=true› (‹ah rW [] 1 (ac (n+2)) (zG (0:Nat) (L.map UInt8.ofNat)) (s1 [] d)=(aT (aI rW [1] (ac (n+2))) (aD rW [1] (ac (n+2))) aS (zG (0:Nat) (L.map UInt8.ofNat)) (s1 [] d)).bind some›.trans (aB (EO (n:=n) (d:=d) L [] aS rfl hz hs (YQ hz (by decide)))))).trans ((W9 ..).trans (f6 (bl (fun z=>rfl) _))))) rfl (ak _)
end
def Ub:Nat:=389400131391659048199538
def UW:Nat:=(fI 389400131391659048199538 6872327479327219551)
def WI:Nat:=104
def QI:Nat:=540219918037648770098547
def jD:Nat:=117
section
variable(n:Nat)(B:List UInt8)(a s x:Int)(d:Dk)(F T:List PV)(pl:PV)(st:Bool)(E:YA)
def Tf:List Ent:=g1 d++[⟨.inst 389400131391659048199538 [],.mut⟩]
def Wm:List Ent:=g1 d++[⟨.inst 389400131391659048199538 [(1952807028,.lst T)],.mut⟩]
def TP:YA:=[(1936026726,.glob 2),(1952807028,.lst T)]
def vA:YA:=[(122472945251443,.bytes B)]
def vB:YA:=[(122472945251443,.bytes B),(439956631140,.loc 0),(115944243553652,.bool false),(108187649798757,.int 0),(482854658917,.none)]
noncomputable def jB:YA:=[(122472945251443,.bytes B),(439956631140,.loc 0),(115944243553652,.bool st),(108187649798757,.int 0),(482854658917,pl),(1952807028,.lst T),(125779751232882,.glob 2)]
def Rh:aI jD [5] (ac n) (jB B T pl st) (bH F T a d)=some (decide (a<T.length),bH F T a d):=by rfl'
def Uy:ah jD [(5,true)] 0 (ac n) (jB B T pl st) (bH F T a d)=some (.next,jB B T (.int a) st,bH F T a d):=by rfl'
def U7:bn jD [(5,true)] 1 (ac n) (jB B T pl st) (bH F T a d)=gj n pd [.glob 2,ch 38] (bH F T a d):=by rfl'
def Pb:YA:=jB B T (.int x) true++[(1919907699,.lst [mP s a x])]
variable(p c:Int)
def PJ:run jD [(5,true)] 2 (ac n) (jB B T pl st++E) (bH F T a d)=ag n wX [.glob 2] (bH F T a d) fun r=>some (.next,jB B T pl st++E,r.2):=by rfl'
end
def PH:aD jD [5]=run jD [(5,true)] 0:=by rfl'
def Ic:aN jD [(5,true)] 0=true:=by rfl'
def I7:aN jD [(5,true)] 1=true:=by rfl'
def CN:kK jD [(5,true)] 1=true:=by rfl'
noncomputable def xo:List Nat->Nat->List Nat
|[],_=>[]
|s::r,i=>32::(List.replicate s 60++32::(119+i)::xo r (i+1))
noncomputable def CP:List Nat->Nat->List Int
|[],_=>[]
|s::r,i=>32::(List.replicate s 60++32::((119+i:Nat):Int)::CP r (i+1))
def LY:List Nat->Nat->List Int
|[],_=>[]
|s::r,i=>List.replicate s 60++32::((119+i:Nat):Int)::CP r (i+1)
noncomputable def i9:List Nat->Nat->List PV->Prop
|[],_,F=>F=[]
|s::r,i,F=>∃(p:Int) (q:List PV),F=mP s ((119+i:Nat):Int) p::q∧i9 r (i+1) q
def S3(ss:List Nat):Prop:=∀s∈ss,(s:Int)∈[(1:Int),2,3]
def vk{ss:List Nat}{i:Nat}(h:S3 ss):ss=[]∨∃q,LY ss i=60::q:=by
 cases ss with
|nil=>exact .inl rfl
|cons s r=>
  cases s with
  |zero=>exact absurd (h 0 (.head _)) (by decide)
  |succ k=>exact .inr ⟨_,rfl⟩
def rp{ss:List Nat}{i c:Nat}(h:S3 ss)(hc:((60:Int)==(c:Int))=false):hd (LY ss i) c=false:=by
 rcases vk h with rfl|⟨q,e⟩
 ·rfl
 ·exact(e)▸hc
def ud{ss:List Nat}{i:Nat}(h:S3 ss):uX (LY ss i):=fun x q e=>by
 rcases vk h with rfl|⟨q,e2⟩
 ·injection e
 ·rw[e2] at e;injection e with e _;subst e;decide
def TR:∀i<4,((119+i:Nat):Int)∈ċ:=by decide
def xm(ss:List Nat):∀(i:Nat),PQ (CP ss i):=by
 induction ss with
|nil=>intro _;exact .inl rfl
|cons _ _ ih=>intro _;exact .inr ⟨_,rfl⟩
section
variable{n s:Nat}{B:List UInt8}{d:Dk}
def xj{L P:List Int}{ss:List Nat}{i:Nat}(h:S3 ss)(hL:L=P++CP ss i):∃Q,L=Q++LY ss i∧af (n+2) wX [.glob 2] (gL L P.length d)=some (.none,gL L Q.length d):=by
 let' st:=ud (i:=i) h;cases ss with
|nil=>exact⟨P,hL,jO hL st⟩
|cons s r=>let' e:=AT (n:=n) (d:=d) hL st;rw[show P.length+1=(P++[(32:Int)]).length from(Xl (as:=P) (bs:=[(32:Int)])).symm] at e;exact⟨P++[32],bE hL,e⟩
def Eb{F T:List PV}{a1 a2 c:Int}{pl:PV}(h1:gj n pd [.glob 2,ch 38] (bH F T a1 d)=some (false,bH F T a1 d))(h2:gj n pd [.glob 2,ch 91] (bH F T a1 d)=some (false,bH F T a1 d))
  (hr:af n Ow [.glob 2,.int a1] (gR T a1 d)=some (.lst [mP s c a1],gR T a2 d)) (hk:af n wX [.glob 2] (gR T a2 d)=some (.none,gR T a2 d)) (hF:F.length<1000):
  aD jD [5] (ac n) (jB B T pl true) (bH F T a1 d)=some (.next,Pb B c s a1 T,bH (F++[mP s c a1]) T a2 d):=by
 let' t1:=(U7 n B a1 d F T (.int a1) true).trans h1;let' t2:=‹bn jD [(5,true),(1,false)] 0 (ac n) (jB B T (.int a1) true) (bH F T a1 d)=gj n pd [.glob 2,ch 91] (bH F T a1 d)›.trans h2;let' t3:=‹bn jD [(5,true),(1,false),(0,false)] 0 (ac n) (jB B T (.int a1) true) (bH F T a1 d)=some (true,bH F T a1 d)›
 let' c0:ah jD [(5,true),(1,false),(0,false),(0,true)] 0 (ac n) (jB B T (.int a1) true) (bH F T a1 d)=some (.next,Pb B c s a1 T,bH F T a2 d):=‹_=ag n Ow [.glob 2,.int a1] (bH F T a1 d) fun r=>some (.next,jB B T (.int a1) true++[(1919907699,r.1)],r.2)›.trans (ad (s':=bH F T a1 d) (ae (zx a1)) hr);let' c2:=‹ah jD [(5,true),(1,false),(0,false),(0,true)] 2 (ac n) (Pb B c s a1 T) (bH F T a2 d)=(if(aq (F++[mP s c a1])&&true)=true then some (PV.none,bH (F++[mP s c a1]) T a2 d) else none).bind fun y=>some (.next,Pb B c s a1 T,y.2)›.trans (aB (gM (by rw[yv hF];rfl)))
 let' k:=(PJ n B a2 d (F++[mP s c a1]) T (.int a1) true [(1919907699,.lst [mP s c a1])]).trans (ad (s':=bH (F++[mP s c a1]) T a2 d) (ae lR) hk);let' r3:=(aa (by rfl') c0).trans ((aa (by rfl') (by rfl')).trans ((aa (by rfl') c2).trans ‹_=some (.next,Pb B c s a1 T,bH (F++[mP s c a1]) T a2 d)›));let' r2:=cz (by rfl') (by rfl') ((bg (by rfl') t3).trans r3);let' r1:=cz (by rfl') (by rfl') ((bg (by rfl') t2).trans r2);exact(YI (YI (YI PH (ac n)) _) _).trans ((aa Ic (Uy n B a1 d F T pl true)).trans ((aa I7 ((bg CN t1).trans r1)).trans k))
def EU{L:List Int}(ss:List Nat):∀(i K:Nat) (P:List Int) (F:List PV) (pl:PV),L=P++LY ss i->S3 ss->i+ss.length≤4->F.length+ss.length<900->ss.length<K->∃Ī q,i9 ss i q∧aT (aI jD [5] (ac (n+4))) (aD jD [5] (ac (n+4))) K (jB B (L.map .int) pl true) (bH F (L.map .int) P.length d)=some (.next,jB B (L.map .int) Ī true,bH (F++q) (L.map .int) L.length d):=by
 induction ss with
|nil=>intro i K P F pl hL _ _ _ Ò;obtain⟨K,rfl⟩:=dS Ò;let' e:L=P:=hL.trans (Xu P);let' t:=Rh (n+4) B P.length d F (L.map .int) pl true;rw[Yd (gT (f:=PV.int) e)] at t;refine⟨pl,[],rfl,(cQ t).trans ?_⟩;rw[Xu,e]
|cons s r ih=>
  intro i K P F pl hL hs hi hF hK;obtain⟨K,rfl⟩:=dS hK;let' ŗ:S3 r:=(fun y hy=>hs y (.tail _ hy))
  obtain⟨q,e60⟩:=(vk hs).resolve_left (fun e=>nomatch e);let' t:=Rh (n+4) B P.length d F (L.map .int) pl true;rw[Yc (iu (f:=PV.int) (hL.trans (by rw[e60])))] at t;have ξ:L=P++List.replicate s 60++[32]++[((119+i:Nat):Int)]++CP r (i+1):=by rw[Xr,Xr,Xr];exact hL
  obtain⟨Q,hQ,hk⟩:=xj (n:=n+1) ŗ ξ;let' l:=OI (d:=d) (b:=P.length) hL (hs s (.head _)) (TR i (XI (Yi (XT _)) hi)) (xm r (i+1)) hQ hk (rp ŗ rfl) (rp ŗ rfl);let' b:=Eb (B:=B) (pl:=pl) (F:=F) (nI (n:=n+2) (l:=[⟨.lst F,.mut⟩]) (d:=d) hL (rp hs rfl)) (nI (n:=n+2) (l:=[⟨.lst F,.mut⟩]) (d:=d) hL (rp hs rfl)) l (jO (n:=n+2) hQ (ud ŗ)) (XQ (XH _ _) (YQ hF (by decide)):F.length<1000);obtain⟨Ī,q',h1,h2⟩:=ih (i+1) K Q (F++[mP s ((119+i:Nat):Int) P.length]) (.int P.length) hQ ŗ (by rw[XD];exact hi) (by rw[Xl,XD];exact hF) (Yv hK)
  rw[Xr] at h2;exact⟨Ī,_,⟨_,q',rfl,h1⟩,(gy t b rfl).trans h2⟩
def AS{L:List Int}{ss:List Nat}{x:Int}(hx:x∈ċ)(h:S3 ss)(hL:L=38::x::CP ss 0):∃Q,L=Q++LY ss 0∧aD jD [5] (ac (n+4)) (jB B (L.map .int) .none false) (bH [] (L.map .int) 0 d)=some (.next,jB B (L.map .int) (.int 0) true,bH [dZ x 0] (L.map .int) Q.length d):=by
 obtain⟨Q,hQ,hk⟩:=xj (n:=n+2) (P:=[38,x]) h hL;refine⟨Q,hQ,?_⟩;let' t1:bn jD [(5,true)] 1 (ac (n+4)) (jB B (L.map .int) (.int 0) false) (bH [] (L.map .int) 0 d)=some (true,bH [] (L.map .int) 1 d):=(U7 (n+4) B 0 d [] (L.map .int) (.int 0) false).trans (BL (n:=n+2) (c:=38) (l:=[⟨.lst [],.mut⟩]) (p:=[]) (r:=38::x::CP ss 0) hL);let' k1:=NA (n:=n) (d:=d) (b:=0) (p:=[38]) (hL:L=[38]++x::CP ss 0) hx (xm ss 0);let' c0:ah jD [(5,true),(1,true)] 0 (ac (n+4)) (jB B (L.map .int) (.int 0) false) (bH [] (L.map .int) 1 d)=some (.next,jB B (L.map .int) (.int 0) false,bH [dZ x 0] (L.map .int) 2 d):=‹_=ag (n+4) TF [.glob 2,.int (0:Int)] (bH [] (L.map .int) (1:Int) d) fun r=>(if(aq ([]++[r.1])&&true)=true then some (PV.none,(⟨[⟨.lst ([]++[r.1]),.mut⟩],r.2.g⟩:St)) else none).bind fun y=>some (.next,jB B (L.map .int) (.int (0:Int)) false,y.2)›.trans ((ad (s':=bH [] (L.map .int) 1 d) (ae (zx 0)) k1).trans rfl)
 let' k:run jD [(5,true)] 2 (ac (n+4)) (jB B (L.map .int) (.int 0) true) (bH [dZ x 0] (L.map .int) 2 d)=some (.next,jB B (L.map .int) (.int 0) true,bH [dZ x 0] (L.map .int) Q.length d):=(PJ (n+4) B 2 d [dZ x 0] (L.map .int) (.int 0) true []).trans (ad (s':=bH [dZ x 0] (L.map .int) 2 d) (ae lR) hk);exact(YI (YI (YI PH (ac (n+4))) _) _).trans ((aa Ic (Uy (n+4) B 0 d [] (L.map .int) .none false)).trans ((aa I7 ((bg CN t1).trans ((aa (by rfl') c0).trans (by rfl')))).trans k))
end
def Au(F T:List PV)(e:Int)(d:Dk):eU (g1 d) (some (.lst F,gR T e d))=(if iA 2 F=true then some (PV.lst F) else none).bind fun v=>JS d.1 (some (v,g1 d)):=by rfl'
def Du(s x p:Int):bF 2 (mP s x p)=true:=by rfl'
def DM(x p:Int):aw (dZ x p)=true:=by rfl'
def Bd(x p:Int):bF 2 (dZ x p)=true:=by rfl'
def vr(ss:List Nat):∀(i:Nat) (q:List PV),i9 ss i q->aj q=true:=by
 induction ss with
|nil=>intro _ _ h;subst h;exact am
|cons s r ih=>intro i _ h;obtain⟨p,q,rfl,h⟩:=h;exact aJ ‹_=true› (ih _ q h)
def lY(v:PV)(q:List PV):iA 2 (v::q)=(bF 2 v&&iA 2 q):=by rfl'
def yq(ss:List Nat):∀(i:Nat) (q:List PV),i9 ss i q->iA 2 q=true:=by
 induction ss with
|nil=>intro _ _ h;subst h;rfl'
|cons s r ih=>intro i _ h;obtain⟨p,q,rfl,h⟩:=h;rw[lY,Du,ih _ q h];rfl
def GN(ss:List Nat):∀(i:Nat),(xo ss i).map Int.ofNat=CP ss i:=by
 induction ss with
|nil=>intro _;exact rfl
|cons s r ih=>intro i;refine(?_:(32:Int)::(List.replicate s 60++32::(119+i)::xo r (i+1)).map Int.ofNat=_);rw[XE,List.map_replicate,XM,XM,ih (i+1)];rfl
def K9(ss:List Nat):∀(i:Nat),Kj ss i=(xo ss i).map UInt8.ofNat:=by
 induction ss with
|nil=>intro _;exact rfl
|cons s r ih=>intro i;refine(?_:(32:UInt8)::(List.replicate s 60++[32,UInt8.ofNat (119+i)])++Kj r (i+1)=UInt8.ofNat 32::(List.replicate s 60++32::(119+i)::xo r (i+1)).map UInt8.ofNat);rw[XE,List.map_replicate,XM,XM,ih (i+1),List.cons_append,Xr];rfl
def Ni:∀i<4,119+i∈Č:=by decide
def Jl(ss:List Nat):∀(i:Nat),i+ss.length≤4->∀x∈xo ss i,x∈Č:=by
 induction ss with
|nil=>intro _ _ _ h;exact(nomatch h)
|cons s r ih=>
  intro i hi x h;rcases Xo.mp h with rfl|h
  ·decide
  rcases Ym.mp h with h|h
  ·rw[List.eq_of_mem_replicate h];decide
  rcases Xo.mp h with rfl|h
  ·decide
  rcases Xo.mp h with rfl|h
  ·exact Ni i (XI (Yi (XT _)) hi)
  exact ih (i+1) (by rw[XD];exact hi) x h
def Hd(ss:List Nat):∀(i:Nat),(∀s∈ss,s∈nW)->(xo ss i).length≤6*ss.length:=by
 induction ss with
|nil=>intro _ _;exact Xx _
|cons s r ih=>
  intro i h;refine(?_:((List.replicate s 60++32::(119+i)::xo r (i+1)).length+1)≤6*(r.length+1));rw[Xl,List.length_replicate,XG,XG,Nat.mul_add];have q:=ih (i+1) fun y hy=>h y (.tail _ hy)
  rw[XZ s];exact Xk (Yx (XR (b:=6*r.length+2) (d:=3) (XJ q 2) (vN s (h s (.head _))))) (Xx (6*r.length+6))
def M7{ss:List Nat}(h:∀s∈ss,s∈nW):S3 ss:=fun s hs=>(show ∀s∈nW,(s:Int)∈[(1:Int),2,3] by decide) s (h s hs)
def ve(B:List UInt8):aw (.bytes B)=true:=by rfl'
def NK(T:List PV)(a:Int)(d:Dk):di (g1 d) (gR T a d)=true:=by rfl'
def O6(n:Nat){T:List PV}(d:Dk)(h:aj T=true):af (n+2) Ub [.lst T] (g1 d)=some (.glob 2,gR T 0 d):=by exact‹_=(af (n+1) UW [.glob 2,.lst T] (Tf d)).bind fun r=>if qV r.1 then some (.glob 2,r.2) else none›.trans (aB (ao (by rfl') (by rfl') ((aa (by rfl') (‹ah WI [] 0 (ac n) (TP T) ⟨[],Tf d⟩=(if(aw (.lst T)&&true&&true)=true then some (⟨[],Wm d T⟩:St) else none).bind fun s=>some (.next,TP T,s)›.trans (aB (gM (by rw[show aw (.lst T)=true from h];rfl))))).trans ‹_=some (.next,TP T,sR T 0 d)›) rfl (by rfl'):af (n+1) UW [.glob 2,.lst T] (Tf d)=some (.none,gR T 0 d)))
def Es:∀a∈k7,((a:Nat):Int)∈ċ∧a∈Č:=by decide
def MT(n:Nat){a:Nat}{ss:List Nat}(d:Dk)(ha:a∈k7)(hs:∀s∈ss,s∈nW)(hl:ss.length≤4):∃q,i9 ss 0 q∧af (n+5) QI [.bytes (mX a ss)] (g1 d)=some (.lst (dZ a 0::q),g1 d):=by
 let' h3:=M7 hs;let' hx:=Es a ha;have eB:mX a ss=(38::a::xo ss 0).map UInt8.ofNat:=by show 38::UInt8.ofNat a::Kj ss 0=_;rw[K9];rfl
 have eL:(38::a::xo ss 0).map eI=((38:Int)::(a:Int)::CP ss 0).map .int:=by rw[<-GN];show _=(List.map Int.ofNat (38::a::xo ss 0)).map PV.int;rw[YW];rfl
 have du:=Mn (n:=n+1) (d:=d) (L:=38::a::xo ss 0) (by
  show(xo ss 0).length+2<900;exact XQ (XJ (Xk (Hd ss 0 hs) (Nat.mul_le_mul_left 6 hl)) 2) (by decide)) (fun x Ï=>(Xo.mp Ï).elim (fun e=>e▸by decide) fun h=>(Xo.mp h).elim (fun e=>e▸hx.2) (Jl ss 0 (by rw[Xz];exact hl) x))
 rw[eB];rw[eL] at du;unfold TT at du;generalize(38::a::xo ss 0).map UInt8.ofNat=B at du;generalize hL:(38:Int)::(a:Int)::CP ss 0=L at du;obtain⟨Q,hQ,b1⟩:=AS (d:=d) hx.1 h3 hL.symm;obtain⟨Ī,q,hq,lp⟩:=EU (n:=n) (B:=B) (d:=d) ss 0 99999 Q [dZ a 0] (.int 0) hQ h3 (by rw[Xz];exact hl) (XQ (XA hl 1) (by decide)) (XQ hl (by decide));refine⟨q,hq,?_⟩;let' Ŭ:aj (L.map PV.int)=true:=fK L;let' e3:ah jD [] 3 (ac (n+4)) (vB B++[(1952807028,.lst (L.map .int))]) (s1 [] d)=some (.next,jB B (L.map .int) .none false,bH [] (L.map .int) 0 d):=‹ah jD [] 3 (ac (n+4)) (vB B++[(1952807028,.lst (L.map .int))]) (s1 [] d)=ag (n+4) Ub [.lst (L.map .int)] (s1 [] d) fun r=>some (.next,vB B++[(1952807028,.lst (L.map .int)),(125779751232882,r.1)],r.2)›.trans (ad (s':=s1 [] d) (ae (aJ Ŭ am)) (O6 (n+2) d Ŭ))
 let' NJ:uX L:=(fun y q e=>by rw[<-hL] at e;injection e with e _;subst e;decide)
 let' e4:ah jD [] 4 (ac (n+4)) (jB B (L.map .int) .none false) (bH [] (L.map .int) 0 d)=some (.next,jB B (L.map .int) .none false,bH [] (L.map .int) 0 d):=‹_=ag (n+4) wX [.glob 2] (bH [] (L.map .int) (0:Int) d) fun r=>some (.next,jB B (L.map .int) .none false,r.2)›.trans (ad (s':=bH [] (L.map .int) 0 d) (ae lR) (jO (n:=n+2) (d:=d) (p:=[]) (r:=L) rfl NJ));let' t:=Rh (n+4) B 0 d [] (L.map .int) .none false;rw[Yc (show(0:Int)<((L.map PV.int).length:Nat) from iu (f:=PV.int) (p:=[]) hL.symm)] at t;let' e5:=‹ah jD [] 5 (ac (n+4)) (jB B (L.map .int) .none false) (bH [] (L.map .int) (0:Int) d)=(aT (aI jD [5] (ac (n+4))) (aD jD [5] (ac (n+4))) aS (jB B (L.map .int) .none false) (bH [] (L.map .int) (0:Int) d)).bind some›.trans (aB ((gy (n:=99999) t b1 rfl).trans lp))
 let' e6:=‹run jD [] 6 (ac (n+4)) (jB B (L.map .int) Ī true) (bH (dZ a 0::q) (L.map .int) L.length d)=(if aj (dZ a 0::q)=true then some (PV.lst (dZ a 0::q),(⟨[⟨.lst (dZ a 0::q),.ZG⟩],gR (L.map .int) L.length d⟩:St)) else none).bind fun y=>some (.ret y.1,jB B (L.map .int) Ī true,y.2)›.trans (aB (gM (aJ (DM a 0) (vr ss 0 q hq))));let' r:=qZ ‹(AQ jD QI&&d8.contains QI)=true› ‹bf jD [.bytes B]=some (vA B)› ((aa (by rfl') (by rfl')).trans ((aa (by rfl') (‹_=ag (n+4) Ud [.bytes B] (s1 [] d) fun r=>some (.next,vB B++[(1952807028,r.1)],r.2)›.trans (ad (s':=s1 [] d) (ae (aJ (ve B) am)) du):ah jD [] 1 (ac (n+4)) (vB B) (s1 [] d)=some (.next,vB B++[(1952807028,.lst (L.map .int))],s1 [] d))).trans ((aa (by rfl') (by rfl')).trans ((aa (by rfl') e3).trans ((aa (by rfl') e4).trans ((aa (by rfl') e5).trans e6)))))) rfl (NK ..)
 refine r.trans ((Au ..).trans ((aB (gM ?_)).trans (nM _ _)));rw[lY,Bd,yq ss 0 q hq];rfl
abbrev Zi:=List (PV×PV)
structure ZF where
 m:Nat
 f:Nat
 b:Zi
 e:Zi
 n:Zi
 c:Zi
 p:Zi
def SP:Nat:=1099511627776
noncomputable def mE(o:Zk):Ent:=⟨o,.mut⟩
def dE(l:Zi):Ent:=mE (.dct l)
def VQ(i:Nat)(f:Nat×Nat×Nat):Zk:=.inst 5002484806629356659 [(499850046565,.glob i),(30521817456538484,.glob (i+1)),(28817527407604339,fV f),(422541747571,BS)]
def Tw(i:Nat)(f:Nat×Nat×Nat)(X Y:Zi):List Ent:=[mE (VQ i f),dE X,dE Y,mE (.lst [qX 0 1114111 64448])]
def RH(wt:List PV)(i:Nat)(l:ZF):List Ent:=[mE (.inst 102009783118184496720405868 [(33607025609438323,.lst wt),(108187682958948,.glob (i+1)),(435610215794,.glob (i+2)),(1701733491,.glob (i+3)),(109330362692723,.glob (i+4)),(1835101817,.int l.m),(112568466435954,.int l.f),(123610792682867,.glob (i+5))]),dE l.b,dE l.e,dE l.n,dE l.c,dE l.p]
def Vq(here:PV):Ent:=mE (.inst 1556545762911752646247 [(1650553701,.glob 2),(1684108385,D0),(499850046565,.glob 9),(119183033855091,.glob 13),(29117745638302835,.glob 32),(1751478885,here),(1751477348,.none),(1953459300,.glob 33)])
noncomputable def NX(x:Nat):List Nat->List Nat
|[]=>[x]
|y::r=>if x≤y then x::y::r else y::NX x r
def Ri(w:Nat):List PV:=(NX w [0,201,40000,40001,40002]).map eI
def ck(f:Nat×Nat×Nat)(w:Nat):Zi:=[(eK 97,lE [(40000*f.1,32*f.2.1,2*f.2.2,false)]),(eK 98,lE [(40001*f.1,32*f.2.1,2*f.2.2,false)]),(eK 99,lE [(40002*f.1,32*f.2.1,2*f.2.2,false)]),(eK 65,lE [(40000*f.1,32*f.2.1,8*f.2.2,false)]),(eK 768,lE [(0*f.1,33*f.2.1,2*f.2.2,false)]),(eK 45,lE [(w*f.1,32*f.2.1,2*f.2.2,true)]),(eK 95,lE [(201*f.1,32*f.2.1,2*f.2.2,true)]),(eK 173,lE [])]
noncomputable def f1:Nat×Nat×Nat:=(1,1,1)
def dM:Nat×Nat×Nat:=(SP,SP,SP)
structure Sk where
 w:Nat
 l0:ZF
 l1:ZF
 l2:ZF
 X:Zi
 Y:Zi
 Z:Zi
 g1:Nat
 g2:Nat
 h:PV
def oV:PV:=match af 9 8829129093482429916687090673011 [] [] with
|some (.glob 0,[⟨.dct l,_⟩])=>.dct l
|z=>.none
def V9:Zi:=match oV with
|.dct l=>l
|z=>[]
def gA(w:Nat)(d:Dk):List Ent:=g1 d++Tw 3 f1 (ck f1 w) bY
def gB(w:Nat)(d:Dk):List Ent:=gA w d++[dE [],dE V9]
def gK(a b:Lk)(w:Nat)(l0 l1 l2:ZF)(X Y Z:Zi)(g1 g2:Nat)(h:PV)(d:Dk):List Ent:=gB w d++(Vq h::(Tw 10 dM X Y++(⟨.lst [.glob 14,.glob 20,.glob 26],a⟩::(RH (Ri w) 14 l0++(RH ([32,33].map eI) 20 l1++(RH ([2,8].map eI) 26 l2++[mE (.lst [.int 0,.int g1,.int g2]),⟨.dct Z,b⟩]))))))
def gX:Nat->ZF->ZF->ZF->Zi->Zi->Zi->Nat->Nat->PV->Dk->List Ent:=gK .mut .mut
def gS(k:Sk)(d:Dk):List Ent:=gX k.w k.l0 k.l1 k.l2 k.X k.Y k.Z k.g1 k.g2 k.h d
def sS(k:Sk)(d:Dk):St:=⟨[],gS k d⟩
noncomputable def uv:ZF:=⟨0,1,[],[],[],[],[]⟩
def k0(w:Nat):Sk:=⟨w,uv,uv,uv,ck dM w,bY,[],32*SP,8*SP,.lst []⟩
noncomputable def ws:List Nat:=[300,65535,21845,16383,13107,10922]
def T5:Nat:=(fI 5002484806629356659 1668247673)
def Vf:Nat:=1556545762911752646247
def Tx:Nat:=2360477272803789654798356695707251
def zP:Nat:=119
def Qa:Nat:=8386099895587726692
def rV:Nat:=139
def Ms(n:Nat)(o:PV)(s:St)(K:PV×St->Option R3):Option R3:=sG (sw 6776180).1 (uR 6776180).1 (fun z z z s k=>k (o,s)) 6776180 [fun z z z s k=>k ((.str ⟨[115,117,112,112,114,101,115,115,67,111,110,116,114,97,99,116,105,111,110,115].toArray⟩),s),fun z z z s k=>k (.tup [],s)] R3 (ac n) [] s K
section
variable(n w:Nat)(d:Dk)(R:List PV)(s x b:Int)(T:PV)
def wZ:YA:=[(491596309875,.lst R),(439956631140,.glob 6),(130160803538291,.glob 7)]
def sA:St:=⟨[],gA w d⟩
def sB:St:=⟨[],gB w d⟩
def WL:ah zP [] 0 (ac (n+4)) [(491596309875,.lst R)] (sA w d)=some (.next,wZ R,sB w d):=by rfl'
def Wa:run zP [] 2 (ac n) (wZ R) (sB w d)=some (.ret (.glob 6),wZ R,sB w d):=by rfl'
def MM:YA:=[(7308327815843050611,T),(491596309875,.lst R),(1684108385,D0)]
def wa:YA:=MM R T++[(1650553701,.glob 2),(108170671449444,.tup [])]
def iU:YA:=wa R T++[(2003792491,.glob 8)]
def eD(w:Nat):PV:=bw (Q2 w) bY (1,1,1)
def Vm(K:PV×St->Option R3):Ms n (.glob 6) (sB w d) K=K (.tup [],sB w d):=by rfl'
end
def On:aN rV [] 2=true:=by rfl'
def Pw:aN rV [] 3=true:=by rfl'
noncomputable def cU(a:Nat):Nat:=40000+(a-97)
noncomputable def yu(x y z:Nat):PV:=.tup [.int ((x+1:Nat)),.int ((y+1:Nat)),.int ((z+1:Nat)),.bool false]
def wt(W j:Nat):Nat:=W*SP+j-1
def kA(a w:Nat):Sk:={k0 w with h:=.lst [yu (wt (cU a) 0) (wt 32 0) (wt 2 0)]}
def wl(l:Zi)(k v:Nat):Zi:=(dJ l (.int k) (.int v)).getD []
def Ru(l:Zi)(k:Nat):Option Nat:=match aC l (.int k) with
|some (some (.int v))=>some v.toNat
|z=>none
def Xh(W:Nat)(l:ZF)(t:Nat):ZF:=
 match Ru l.b t with
|none=>⟨l.m+1,1,wl l.b t (W*SP+(l.m+1)),wl l.e (W*SP+(l.m+1)) t,wl l.n W (W*SP+(l.m+1)),[(.int W,.int ((l.m+1:Nat)))],[]⟩
|some v=>⟨l.m+1,1,wl (wl l.b t (W*SP+(l.m+1))) (W*SP+(l.m+1)) v,wl (wl l.e (W*SP+(l.m+1)) t) v (W*SP+(l.m+1)),l.n,[(.int W,.int ((l.m+1:Nat)))],[]⟩
noncomputable def Dd(c:Bool)(h:List Bool):Nat:=if c then h.length else 0
noncomputable def bN(W:Nat):List Bool->ZF
|[]=>uv
|c::h=>Xh W (bN W h) (W*SP+Dd c h)
noncomputable def yt:List Bool->Bool
|[]=>true
|c::h=>match h with
  |[]=>!c
  |z=>yt h
noncomputable def hx:Nat->List (List Bool)
|0=>[[]]
|n+1=>match n with
  |0=>[[false]]
  |z=>(hx n).flatMap fun h=>[false::h,true::h]
theorem vo:∀(h:List Bool),yt h=true->h∈hx h.length
|[],_=>.head _
|[c],e=>by
  have:c=false:=by cases c with|true=>cases e|false=>rfl
  subst this;exact .head _
|c::b::h,e=>List.mem_flatMap.mpr ⟨b::h,vo (b::h) e,by cases c<;>simp⟩
noncomputable def Di:Nat->List (List Bool)
|0=>hx 0
|n+1=>Di n++hx (n+1)
def ju{h:List Bool}(e:yt h=true):∀n,h.length≤n->h∈Di n:=by
 intro n;induction n with
|zero=>
  intro l;have:=vo h e
  rwa [Nat.le_zero.mp l] at this
|succ n ih=>
  intro l;rcases Nat.lt_or_ge n h.length with k|k
  ·have:=vo h e;rw[YR l k] at this;exact YF _ this
  ·exact List.mem_append_left _ (ih k)
noncomputable def Qp:List Bool->List Nat
|[]=>[]
|c::h=>if c then(Qp h).flatMap fun y=>if y=h.length then[y,h.length+1] else[y] else(h.length+1)::Qp h
noncomputable def fW(h:List Bool):Nat:=if h=[] then 1 else h.length+2
noncomputable def Vd(W:Nat):List Nat->Nat->Zi
|[],_=>[]
|j::r,i=>(.int ((W*SP+j:Nat)),.int i)::Vd W r (i+1)
def aP(W:Nat)(h:List Bool):ZF:={bN W h with f:=fW h,p:=Vd W (Qp h) 0}
def rH(W:Nat)(h:List Bool)(j:Nat):Nat:=W*fW h+(if j=0 then 0 else 2+(Qp h).idxOf j)
def Nl:Nat:=(fI 102009783118184496720405868 418330731890)
def O1:Nat:=(fI 102009783118184496720405868 126879582678117)
def Ky:Nat:=(fI 102009783118184496720405868 439855505772)
def wV(W j:Nat):PV:=.int ((wt W j+1:Nat))
def Kb(n:Nat):List (List Bool):=(Di n).flatMap fun h=>match h with
|[]=>[[false]]
|z=>[false::h,true::h]
noncomputable def Ws:List Nat:=[40000,40001,40002]
def MW(l:List (List Bool)):List (Nat×List Bool):=Ws.flatMap fun W=>l.map fun h=>(W,h)
def wU{l:List (List Bool)}{W:Nat}{h:List Bool}(hW:W∈Ws)(hh:h∈l):(W,h)∈MW l:=List.mem_flatMap.mpr ⟨W,hW,Yt.mpr ⟨h,hh,rfl⟩⟩
def FL(h:List Bool):Bool:=match h with
|[]=>false
|c::_=>c
def y0(h:List Bool):List Bool:=match h with
|[]=>[]
|_::h=>h
noncomputable def d6{α β:Type}(f:α->β):List α->List β
|[]=>[]
|x::r=>f x::d6 f r
theorem aE{α β:Type}{f g:α->β}:∀{l:List α},d6 f l=l.map g->∀x∈l,f x=g x
|y::r,h,x,hx=>by
  injection h with h1 h2
  rcases Xo.mp hx with rfl|hx
  ·exact h1
  ·exact aE h2 x hx
section
variable(n w g1 g2:Nat)(l0 l1 l2:ZF)(X Y Z:Zi)(h:PV)(d:Dk)
end
def KS(n:Nat):List (List Bool×Nat):=(Di n).flatMap fun h=>(List.range (h.length+1)).map fun j=>(h,j)
def rB{n j:Nat}{h:List Bool}(hh:h∈Di n)(hj:j≤h.length):(h,j)∈KS n:=List.mem_flatMap.mpr ⟨h,hh,Yt.mpr ⟨j,List.mem_range.mpr (Nat.lt_succ_of_le hj),rfl⟩⟩
def ĥ:List (Nat×List Bool×Nat):=Ws.flatMap fun W=>(KS 4).map fun x=>(W,x)
def CR{W:Nat}{x:List Bool×Nat}(hW:W∈Ws)(hx:x∈KS 4):(W,x)∈ĥ:=List.mem_flatMap.mpr ⟨W,hW,Yt.mpr ⟨x,hx,rfl⟩⟩
section
variable(n w g1 g2:Nat)(l0 l1 l2:ZF)(X Y Z:Zi)(h:PV)(d:Dk)
def gE(k:Lk)(w:Nat)(l0 l1 l2:ZF)(X Y Z:Zi)(g1 g2:Nat)(h:PV)(f:Nat×Nat×Nat)(X2 Y2:Zi)(d:Dk):List Ent:=gK .mut k w l0 l1 l2 X Y Z g1 g2 h d++Tw 35 f X2 Y2
variable(f:Nat×Nat×Nat)(X2 Y2:Zi)
end
def L8:Nat:=(fI 5002484806629356659 7370100)
def uY:Nat:=84
def DZ(i:Nat)(x:Int)(v:PV):YA:=[(1936026726,.glob i),(427070612851,.tup [.int x]),(7308327815843050611,v),(7038329,.tup [.int x])]
def vz{β:Type}(X:Zi)(k v:PV)(K:Zi->β):Option β:=if(aq X&&true)=true then(dJ X k v).bind fun l=>some (K l) else none
def jT{β:Type}{X X':Zi}{k v:PV}{K:Zi->β}(hz:X.length<1000)(h:dJ X k v=some X'):vz X k v K=some (K X'):=by unfold vz;rw[show aq X=true from Yc (Xk (XW hz) (by decide)),h];rfl
def LQ(V:YA)(o:Option St):Option R3:=(o.bind fun s=>some (Fl.next,V,s)).bind some
def ox{V:YA}{o:Option St}{s:St}(h:o=some s):LQ V o=some (.next,V,s):=by rw[h];rfl
section
variable(n w g1 g2 a b c:Nat)(l0 l1 l2:ZF)(X Y Z:Zi)(h:PV)(d:Dk)(x:Int)(B:Bool)
noncomputable def qc(a b c:Nat)(B:Bool):PV:=.tup [.int a,.int b,.int c,.bool B]
def sX:St:=⟨[],gX w l0 l1 l2 X Y Z g1 g2 h d⟩
def Ui(i:Nat)(v:PV):bf uY [.glob i,.tup [.int x],v]=some [(1936026726,.glob i),(427070612851,.tup [.int x]),(7308327815843050611,v)]:=by rfl'
def Vu:ah uY [] 1 (ac n) (DZ 9 x (.lst [qc a b c B])) (sX w g1 g2 l0 l1 l2 X Y Z h d)=LQ (DZ 9 x (.lst [qc a b c B])) (vz X (eK x) (.lst [qc a b c B]) fun X=>sX w g1 g2 l0 l1 l2 X Y Z h d):=by rfl'
def WX:bn uY [] 2 (ac n) (DZ 9 x (.lst [qc a b c B])) (sX w g1 g2 l0 l1 l2 X Y Z h d)=((i0 Y (sX w g1 g2 l0 l1 l2 X Y Z h d) (.int x) (.int 0)).bind fun y=>(qI (fun a b=>decide (a<b)) y.1 (.int 1)).bind fun r=>some (r,y.2)):=by rfl'
def Xb:ah uY [(2,true)] 0 (ac n) (DZ 9 x (.lst [qc a b c B])) (sX w g1 g2 l0 l1 l2 X Y Z h d)=LQ (DZ 9 x (.lst [qc a b c B])) (vz Y (.int x) (.int 1) fun Y=>sX w g1 g2 l0 l1 l2 X Y Z h d):=by rfl'
variable(f:Nat×Nat×Nat)(X2 Y2:Zi)
def sE:St:=⟨[],gE .Zw w l0 l1 l2 X Y Z g1 g2 h f X2 Y2 d⟩
def W3:ah uY [] 1 (ac n) (DZ 34 x (.lst [qc a b c B])) (sE w g1 g2 l0 l1 l2 X Y Z h d f X2 Y2)=LQ (DZ 34 x (.lst [qc a b c B])) (vz X2 (eK x) (.lst [qc a b c B]) fun X2=>sE w g1 g2 l0 l1 l2 X Y Z h d f X2 Y2):=by rfl'
def Vy:bn uY [] 2 (ac n) (DZ 34 x (.lst [qc a b c B])) (sE w g1 g2 l0 l1 l2 X Y Z h d f X2 Y2)=((i0 Y2 (sE w g1 g2 l0 l1 l2 X Y Z h d f X2 Y2) (.int x) (.int 0)).bind fun y=>(qI (fun a b=>decide (a<b)) y.1 (.int 1)).bind fun r=>some (r,y.2)):=by rfl'
def WV:ah uY [(2,true)] 0 (ac n) (DZ 34 x (.lst [qc a b c B])) (sE w g1 g2 l0 l1 l2 X Y Z h d f X2 Y2)=LQ (DZ 34 x (.lst [qc a b c B])) (vz Y2 (.int x) (.int 1) fun Y2=>sE w g1 g2 l0 l1 l2 X Y Z h d f X2 Y2):=by rfl'
end
def Os:i5 uY L8=true:=by rfl'
def IX:aN uY [] 0=true:=by rfl'
def HW:aN uY [] 1=true:=by rfl'
def HL:aN uY [] 2=true:=by rfl'
def zQ:kK uY [] 2=true:=by rfl'
def UG:run uY [] 3=fun z vs s=>some (.next,vs,s):=by rfl'
def Iu:aN uY [(2,true)] 0=true:=by rfl'
def Pr:run uY [(2,true)] 1=fun z vs s=>some (.next,vs,s):=by rfl'
section
variable{n w g1 g2 a b c:Nat}{l0 l1 l2:ZF}{X X' Y Y' Z:Zi}{h:PV}{d:Dk}{x:Int}{B:Bool}{f:Nat×Nat×Nat}
def Pd(w g1 g2:Nat)(l0 l1 l2:ZF)(X Y Z:Zi)(h:PV)(d:Dk)(w' ZD ZZ:Nat)(ZP ZQ ZR:ZF)(X' Y' Z':Zi)(h':PV):di (gX w l0 l1 l2 X Y Z g1 g2 h d) (gX w' ZP ZQ ZR X' Y' Z' ZD ZZ h' d)=true:=by rfl'
def M9{s:St}(e:aC Y (.int x)=some none):((i0 Y s (.int x) (.int 0)).bind fun y=>(qI (fun a b=>decide (a<b)) y.1 (.int 1)).bind fun r=>some (r,y.2))=some (true,s):=by rw[KQ rfl e];rfl
def PT(hX:X.length<1000)(hY:Y.length<1000)(e1:dJ X (eK x) (.lst [qc a b c B])=some X')(e2:aC Y (.int x)=some none)(e3:dJ Y (.int x) (.int 1)=some Y'):af (n+1) L8 [.glob 9,.tup [.int x],.lst [qc a b c B]] (gX w l0 l1 l2 X Y Z g1 g2 h d)=some (.none,gX w l0 l1 l2 X' Y' Z g1 g2 h d):=by let' s2:=(WX n w g1 g2 a b c l0 l1 l2 X' Y Z h d x B).trans (M9 e2);let' s3:=(Xb n w g1 g2 a b c l0 l1 l2 X' Y Z h d x B).trans (ox (jT hY e3));exact ao Os (Ui ..) ((aa IX (by rfl')).trans ((aa HW ((Vu n w g1 g2 a b c l0 l1 l2 X Y Z h d x B).trans (ox (jT hX e1)))).trans (cz HL UG ((bg zQ s2).trans (cz Iu Pr s3))))) rfl (Pd ..)
def PA(hX:X.length<1000)(hY:Y.length<1000)(e1:dJ X (eK x) (.lst [qc a b c B])=some X')(e2:aC Y (.int x)=some none)(e3:dJ Y (.int x) (.int 1)=some Y'){U V:Zi}:af (n+1) L8 [.glob 34,.tup [.int x],.lst [qc a b c B]] (gE .Zw w l0 l1 l2 U V Z g1 g2 h f X Y d)=some (.none,gE .Zw w l0 l1 l2 U V Z g1 g2 h f X' Y' d):=by let' s2:=(Vy n w g1 g2 a b c l0 l1 l2 U V Z h d x B f X' Y).trans (M9 e2);let' s3:=(WV n w g1 g2 a b c l0 l1 l2 U V Z h d x B f X' Y).trans (ox (jT hY e3));exact ao Os (Ui ..) ((aa IX (by rfl')).trans ((aa HW ((W3 n w g1 g2 a b c l0 l1 l2 U V Z h d x B f X Y).trans (ox (jT hX e1)))).trans (cz HL UG ((bg zQ s2).trans (cz Iu Pr s3))))) rfl (by rfl')
end
def Qt:Nat:=(fI 1556545762911752646247 125779935589477)
def fM:Nat:=135
def Ut:Nat:=(fI 1556545762911752646247 6518132)
def fQ(s a b c:Nat):Nat:=if s=1 then a else if s=2 then b else c
def ZY:List Nat:=[1,2,3]
def x4:List Int:=[119,120,121,122]
section
variable(n w g1 g2 a b c fr:Nat)(l0 l1 l2:ZF)(X Y Z:Zi)(d:Dk)(x p:Int)(lv:Int)(st gr:Int)(s:Nat)
def sV:St:=sX w g1 g2 l0 l1 l2 X Y Z (.lst [yu a b c]) d
def RD:YA:=[(1936026726,.glob 8),(1920298085,mP s x p)]
def zH:YA:=RD x p s++[(8319400191629685864,.int s),(427070612851,.tup [.int x]),(27988542884247668,.tup []),(1836020325,.tup [])]
def C9:YA:=zH x p s++[(1919907699,.lst []),(1818325876,yu a b c),(108187682958948,.lst [])]
def um:YA:=C9 a b c x p s++[(465558725996,.int lv),(495873782388,.int st),(113741193899620,.int gr)]
def gm:YA:=um a b c x p lv st gr s++[(440005915496,.int ((fr+1:Nat)))]
def ME:d6 (fun s:Nat=>af (n+2) Ut [.glob 8,.int s] (sV w g1 g2 a b c l0 l1 l2 X Y Z d).g) ZY=ZY.map fun s:Nat=>some (.tup [.lst [],yu a b c,.lst []],(sV w g1 g2 a b c l0 l1 l2 X Y Z d).g):=by rfl'
def Vx(S:St):ah fM [] 0 (ac n) (RD x p s) S=some (.next,zH x p s,S):=by rfl'
def Vj:d6 (fun s:Nat=>ah fM [(1,true)] 2 (ac n) (C9 a b c x p s++[(465558725996,.int (s-1))]) (sV w g1 g2 a b c l0 l1 l2 X Y Z d)) ZY=ZY.map fun s:Nat=>some (.next,um a b c x p (s-1) ((fQ s (a+1) (b+1) (c+1):Nat)) ((fQ s 0 g1 g2:Nat)) s,sV w g1 g2 a b c l0 l1 l2 X Y Z d):=by rfl'
def WE:ah fM [(1,true)] 4 (ac n) (um a b c x p lv st gr s) (sV w g1 g2 a b c l0 l1 l2 X Y Z d)=some (.next,um a b c x p lv st gr s,sV w g1 g2 a b c l0 l1 l2 X Y Z d):=by rfl'
def W7:d6 (fun s:Nat=>ah fM [(1,true)] 5 (ac n) (um a b c x p (s-1) st gr s) (sV w g1 g2 a b c l0 l1 l2 X Y Z d)) ZY=ZY.map fun s:Nat=>ag n Nl [.glob (fQ s 14 20 26),.int st] (sV w g1 g2 a b c l0 l1 l2 X Y Z d) fun r=>some (.next,um a b c x p (s-1) st gr s++[(440005915496,r.1)],r.2):=by rfl'
def QZ(S S':St):Option R3:=if(st==gr)=true then some (.next,gm a b c fr x p lv st gr s,S') else some (.next,gm a b c fr x p lv st gr s,S)
def Vt(z:Nat):ah fM [(1,true)] 6 (ac (n+2)) (gm a b c fr x p 0 ((z+1:Nat)) ((0:Nat)) 1) (sV w g1 g2 a b c l0 l1 l2 X Y Z d)=some (.next,gm a b c fr x p 0 ((z+1:Nat)) ((0:Nat)) 1,sV w g1 g2 a b c l0 l1 l2 X Y Z d):=by rfl'
def TI:ah fM [(1,true)] 6 (ac (n+2)) (gm a b c fr x p 1 st gr 2) (sV w g1 g2 a b c l0 l1 l2 X Y Z d)=QZ a b c fr x p 1 st gr 2 (sV w g1 g2 a b c l0 l1 l2 X Y Z d) (sV w (fr+1) g2 a b c l0 l1 l2 X Y Z d):=by rfl'
def Su:ah fM [(1,true)] 6 (ac (n+2)) (gm a b c fr x p 2 st gr 3) (sV w g1 g2 a b c l0 l1 l2 X Y Z d)=QZ a b c fr x p 2 st gr 3 (sV w g1 g2 a b c l0 l1 l2 X Y Z d) (sV w g1 (fr+1) a b c l0 l1 l2 X Y Z d):=by rfl'
variable(a' b' c':Nat)
def vp:YA:=gm a b c fr x p lv st gr s++[(1953459300,.lst [yu a' b' c'])]
def AI:YA:=vp a b c fr x p lv st gr s a' b' c'++[(7038329,.tup [.int x])]
def Tk:ah fM [] 7 (ac n) (AI a b c fr x p lv st gr s a' b' c') (sV w g1 g2 a' b' c' l0 l1 l2 X Y Z d)=LQ (AI a b c fr x p lv st gr s a' b' c') (vz Z (eK x) (.lst [yu a' b' c']) fun Z=>sV w g1 g2 a' b' c' l0 l1 l2 X Y Z d):=by rfl'
end
def t6(i:Nat)(x:Int):aj [.glob i,.int x]=true:=by rfl'
def Ol(w g1 g2:Nat)(l0 l1 l2:ZF)(X Y Z:Zi)(h:PV)(d:Dk)(w' ZD ZZ:Nat)(ZP ZQ ZR:ZF)(X' Y' Z':Zi)(h':PV):di (gX w l0 l1 l2 X Y Z g1 g2 h d) (sX w' ZD ZZ ZP ZQ ZR X' Y' Z' h' d).g=true:=Pd ..
section
variable{n w g1 g2 ZD ZZ a b c a' b' c' fr s:Nat}{l0 l1 l2 ZP ZQ ZR:ZF}{X X' Y Y' Z Z':Zi}{d:Dk}{x p:Int}
structure P5(X X' Y Y' Z Z':Zi)(x:Int)(v:PV):Prop where
 zX:X.length<1000
 zY:Y.length<1000
 zZ:Z.length<1000
 eX:dJ X (eK x) v=some X'
 fY:aC Y (.int x)=some none
 eY:dJ Y (.int x) (.int 1)=some Y'
 eZ:dJ Z (eK x) v=some Z'
def qA(hs:s∈ZY)(hx:x∈x4)(A:P5 X X' Y Y' Z Z' x (.lst [yu a' b' c']))
  (Ħ:∃z,fQ s (a+1) (b+1) (c+1)=z+1)
  (fa:af (n+13) Nl [.glob (fQ s 14 20 26),.int ((fQ s (a+1) (b+1) (c+1):Nat))] (sV w g1 g2 a b c l0 l1 l2 X Y Z d).g=some (.int ((fr+1:Nat)),(sV w g1 g2 a b c ZP ZQ ZR X Y Z d).g))
  (h6:ah fM [(1,true)] 6 (ac (n+13)) (gm a b c fr x p (s-1) ((fQ s (a+1) (b+1) (c+1):Nat)) ((fQ s 0 g1 g2:Nat)) s) (sV w g1 g2 a b c ZP ZQ ZR X Y Z d)=some (.next,gm a b c fr x p (s-1) ((fQ s (a+1) (b+1) (c+1):Nat)) ((fQ s 0 g1 g2:Nat)) s,sV w ZD ZZ a b c ZP ZQ ZR X Y Z d))
  (h7:run fM [(1,true)] 7 (ac (n+13)) (gm a b c fr x p (s-1) ((fQ s (a+1) (b+1) (c+1):Nat)) ((fQ s 0 g1 g2:Nat)) s) (sV w ZD ZZ a b c ZP ZQ ZR X Y Z d)=some (.next,gm a b c fr x p (s-1) ((fQ s (a+1) (b+1) (c+1):Nat)) ((fQ s 0 g1 g2:Nat)) s,sV w ZD ZZ a' b' c' ZP ZQ ZR X Y Z d)):
  af (n+14) Qt [.glob 8,mP s x p] (sV w g1 g2 a b c l0 l1 l2 X Y Z d).g=some (.none,(sV w ZD ZZ a' b' c' ZP ZQ ZR X' Y' Z' d).g):=by
 let' ct:=aE (ME (n+11) w g1 g2 a b c l0 l1 l2 X Y Z d) s hs;let' c0:ah fM [(1,true)] 0 (ac (n+13)) (zH x p s) (sV w g1 g2 a b c l0 l1 l2 X Y Z d)=some (.next,C9 a b c x p s,sV w g1 g2 a b c l0 l1 l2 X Y Z d):=‹_=ag (n+13) Ut [.glob 8,.int s] (sV w g1 g2 a b c l0 l1 l2 X Y Z d) fun r=>(pT [pV 1919907699,pV 1818325876,pV 108187682958948] r.1 (zH x p s)).bind fun vs=>some (.next,vs,r.2)›.trans (ad (s':=sV w g1 g2 a b c l0 l1 l2 X Y Z d) (ae (t6 8 s)) ct);let' c2:=aE (Vj (n+13) w g1 g2 a b c l0 l1 l2 X Y Z d x p) s hs;let' c5:=aE (W7 (n+13) w g1 g2 a b c l0 l1 l2 X Y Z d x p ((fQ s (a+1) (b+1) (c+1):Nat)) ((fQ s 0 g1 g2:Nat))) s hs
 let' c5:=c5.trans (ad (s':=sV w g1 g2 a b c l0 l1 l2 X Y Z d) (ae (t6 _ _)) fa);let' ο:=aE ‹d6 (fun x=>ah fM [] 5 (ac (n+13)) (vp a b c fr x p (s-1) ((fQ s (a+1) (b+1) (c+1):Nat)) ((fQ s 0 g1 g2:Nat)) s a' b' c') (sV w ZD ZZ a' b' c' ZP ZQ ZR X Y Z d)) x4=x4.map fun x=>some (.next,AI a b c fr x p (s-1) ((fQ s (a+1) (b+1) (c+1):Nat)) ((fQ s 0 g1 g2:Nat)) s a' b' c',sV w ZD ZZ a' b' c' ZP ZQ ZR X Y Z d)› x hx;let' π:=‹ah fM [] 6 (ac (n+13)) (AI a b c fr x p (s-1) ((fQ s (a+1) (b+1) (c+1):Nat)) ((fQ s 0 g1 g2:Nat)) s a' b' c') (sV w ZD ZZ a' b' c' ZP ZQ ZR X Y Z d)=ag (n+13) L8 [.glob 9,.tup [.int x],.lst [yu a' b' c']] (sV w ZD ZZ a' b' c' ZP ZQ ZR X Y Z d) fun r=>some (.next,AI a b c fr x p (s-1) ((fQ s (a+1) (b+1) (c+1):Nat)) ((fQ s 0 g1 g2:Nat)) s a' b' c',r.2)›.trans (ad (s':=sV w ZD ZZ a' b' c' ZP ZQ ZR X Y Z d) (ae ‹aj [.glob _,.tup [.int _],.lst [yu _ _ _]]=true›) (PT (n:=n+12) (a:=a'+1) (b:=b'+1) (c:=c'+1) A.zX A.zY A.eX A.fY A.eY))
 let' ρ:=(Tk (n+13) w ZD ZZ a b c fr ZP ZQ ZR X' Y' Z d x p (s-1) ((fQ s (a+1) (b+1) (c+1):Nat)) ((fQ s 0 g1 g2:Nat)) s a' b' c').trans (ox (jT A.zZ A.eZ));let' Œ:=‹ah fM [] 2 (ac (n+13)) (gm a b c fr x p (s-1) ((fQ s (a+1) (b+1) (c+1):Nat)) ((fQ s 0 g1 g2:Nat)) s) (sV w ZD ZZ a' b' c' ZP ZQ ZR X Y Z d)=some (.next,vp a b c fr x p (s-1) ((fQ s (a+1) (b+1) (c+1):Nat)) ((fQ s 0 g1 g2:Nat)) s a' b' c',(sV w ZD ZZ a' b' c' ZP ZQ ZR X Y Z d))›
 let' ő:=‹ah fM [] 3 (ac (n+13)) (vp a b c fr x p (s-1) ((fQ s (a+1) (b+1) (c+1):Nat)) ((fQ s 0 g1 g2:Nat)) s a' b' c') (sV w ZD ZZ a' b' c' ZP ZQ ZR X Y Z d)=some (.next,vp a b c fr x p (s-1) ((fQ s (a+1) (b+1) (c+1):Nat)) ((fQ s 0 g1 g2:Nat)) s a' b' c',(sV w ZD ZZ a' b' c' ZP ZQ ZR X Y Z d))›
 let' ς:=‹ah fM [] 4 (ac (n+13)) (vp a b c fr x p (s-1) ((fQ s (a+1) (b+1) (c+1):Nat)) ((fQ s 0 g1 g2:Nat)) s a' b' c') (sV w ZD ZZ a' b' c' ZP ZQ ZR X Y Z d)=some (.next,vp a b c fr x p (s-1) ((fQ s (a+1) (b+1) (c+1):Nat)) ((fQ s 0 g1 g2:Nat)) s a' b' c',(sV w ZD ZZ a' b' c' ZP ZQ ZR X Y Z d))›
 obtain⟨z,hz⟩:=Ħ;rw[hz] at c2 c5 h6 h7 ο π ρ Œ ő ς;generalize((fQ s 0 g1 g2:Nat):Int)=gr at c2 c5 h6 h7 ο π ρ Œ ő ς;let' i1:=(aa ‹aN fM [(1,true)] 0=true› c0).trans ((aa ‹aN fM [(1,true)] 1=true› ‹ah fM [(1,true)] 1 (ac (n+13)) (C9 a b c x p s) _=some (.next,C9 a b c x p s++[(465558725996,.int (s-1))],_)›).trans ((aa ‹aN fM [(1,true)] 2=true› c2).trans ((aa ‹aN fM [(1,true)] 3=true› ‹ah fM [(1,true)] 3 (ac _) (um _ _ _ _ _ _ ((_+1:Nat)) _ _) _=some (.next,um _ _ _ _ _ _ ((_+1:Nat)) _ _,_)›).trans ((aa ‹aN fM [(1,true)] 4=true› (WE ..)).trans ((aa ‹aN fM [(1,true)] 5=true› c5).trans ((aa ‹aN fM [(1,true)] 6=true› h6).trans h7))))))
 let' r:=(aa ‹aN fM [] 0=true› (Vx (n+13) x p s _)).trans ((bk ‹aN fM [] 1=true› ‹kK fM [] 1=true› (aE ‹d6 (fun s=>bn fM [] 1 (ac (n+13)) (zH x p s) (sV w g1 g2 a b c l0 l1 l2 X Y Z d)) ZY=ZY.map fun s:Nat=>some (true,(sV w g1 g2 a b c l0 l1 l2 X Y Z d))› s hs) i1).trans ((aa ‹aN fM [] 2=true› Œ).trans ((aa ‹aN fM [] 3=true› ő).trans ((aa ‹aN fM [] 4=true› ς).trans ((aa ‹aN fM [] 5=true› ο).trans ((aa ‹aN fM [] 6=true› π).trans (cz ‹aN fM [] 7=true› ‹run fM [] 8=fun y vs s=>some (.next,vs,s)› ρ)))))))
 exact ao ‹i5 fM Qt=true› ‹bf fM [.glob 8,mP _ _ _]=some (RD _ _ _)› r rfl (Ol ..)
end
def op{k v:PV}{l:Zi}:aC l k=some none->dJ l k v=some (l++[(k,v)]):=by
 induction l with
|nil=>intro _;exact rfl
|cons y l ih=>
  intro h;let' h:(dU y.1 k).bind (fun b=>if b then some (some y.2) else aC l k)=some none:=h;refine(?_:(dU y.1 k).bind (fun b=>if b then some ((y.1,v)::l) else(dJ l k v).map (y:: ·))=_);cases e:dU y.1 k with
  |none=>rw[e] at h;injection h
  |some b=>
   rw[e] at h;cases b with
   |true=>cases h
   |false=>refine(?_:(dJ l k v).map (y:: ·)=_);rw[ih h];rfl
def ef{k:PV}{r:Zi}{l:Zi}:aC l k=some none->aC (l++r) k=aC r k:=by
 induction l with
|nil=>intro _;exact rfl
|cons y l ih=>
  intro h;let' h:(dU y.1 k).bind (fun b=>if b then some (some y.2) else aC l k)=some none:=h;refine(?_:(dU y.1 k).bind (fun b=>if b then some (some y.2) else aC (l++r) k)=_);cases e:dU y.1 k with
  |none=>rw[e] at h;injection h
  |some b=>
   rw[e] at h;cases b with
   |true=>cases h
   |false=>refine(?_:aC (l++r) k=_);exact ih h
noncomputable def aW{α:Type}(f:α->PV):List α->Nat->Zi
|[],_=>[]
|r::q,i=>(eK ((119+i:Nat)),f r)::aW f q (i+1)
noncomputable def cr:Nat->Nat->Zi
|0,_=>[]
|k+1,i=>(.int ((119+i:Nat)),.int 1)::cr k (i+1)
def Br{i m:Nat}(h:i<m):(((119+i:Nat):Int)==((119+m:Nat):Int))=false:=by
 refine(Y4).mpr fun e=>?_
 exact absurd (Nat.add_left_cancel (Int.ofNat_inj.mp e)) (Nat.ne_of_lt h)
def qN{α:Type}(f:α->PV)(q:List α):∀(i m:Nat),i+q.length≤m->aC (aW f q i) (eK ((119+m:Nat)))=some none:=by
 induction q with
|nil=>intro _ _ _;exact rfl
|cons r q ih=>
  intro i m h;have h2:i+1+q.length≤m:=by rw[XD];exact h
  refine(?_:(if(((119+i:Nat):Int)==((119+m:Nat):Int)&&true)=true then some (some (f r)) else aC (aW f q (i+1)) (eK ((119+m:Nat))))=_);rw[Br (XI (XI (Yq i) (XH _ _)) h2)];exact ih (i+1) m h2
def xD(k:Nat):∀(i m:Nat),i+k≤m->aC (cr k i) (.int ((119+m:Nat)))=some none:=by
 induction k with
|zero=>intro _ _ _;exact rfl
|succ k ih=>
  intro i m h;have h2:i+1+k≤m:=by rw[XD];exact h
  refine(?_:(if(((119+i:Nat):Int)==((119+m:Nat):Int))=true then some (some (PV.int 1)) else aC (cr k (i+1)) (.int ((119+m:Nat))))=_);rw[Br (XI (XI (Yq i) (XH _ _)) h2)];exact ih (i+1) m h2
def r9{α:Type}(f:α->PV)(r:α)(q:List α):∀(i:Nat),aW f q i++[(eK ((119+(i+q.length):Nat)),f r)]=aW f (q++[r]) i:=by
 induction q with
|nil=>intro i;exact rfl
|cons y q ih=>intro i;exact YH (_:: ·) (by have:=ih (i+1);rw[XD i 1] at this;exact this)
def Ai(k:Nat):∀(i:Nat),cr k i++[(.int ((119+(i+k):Nat)),.int 1)]=cr (k+1) i:=by
 induction k with
|zero=>intro i;exact rfl
|succ k ih=>intro i;exact YH (_:: ·) (by have:=ih (i+1);rw[XD i 1] at this;exact this)
def w7{α:Type}(f:α->PV)(q:List α):∀(i:Nat),(aW f q i).length=q.length:=by
 induction q with
|nil=>intro _;exact rfl
|cons _ q ih=>intro i;exact YH (·+1) (ih (i+1))
def Fd(k:Nat):∀(i:Nat),(cr k i).length=k:=by
 induction k with
|zero=>intro _;exact rfl
|succ k ih=>intro i;exact YH (·+1) (ih (i+1))
def m4:List Nat:=[0,1,2,3]
def jY(f:Nat×Nat×Nat)(w:Nat):d6 (fun m:Nat=>(aC (ck f w) (eK ((119+m:Nat))),aC bY (.int ((119+m:Nat))))) m4=m4.map fun m=>(some none,some none):=by rfl'
def uE{m:Nat}(h:m<4):m∈m4:=(show ∀m<4,m∈m4 by decide) m h
section
variable{α:Type}{f:Nat×Nat×Nat}{w:Nat}{g:α->PV}{q:List α}
def KK(h:q.length<4):aC (ck f w++aW g q 0) (eK ((119+q.length:Nat)))=some none:=
 (ef (YH Prod.fst (aE (jY f w) _ (uE h)))).trans (qN g q 0 _ (XY (Xz _)))
def vX{k:Nat}(h:k<4):aC (bY++cr k 0) (.int ((119+k:Nat)))=some none:=
 (ef (YH Prod.snd (aE (jY (1,1,1) 0) _ (uE h)))).trans (xD k 0 _ (XY (Xz _)))
def BE(h:q.length<4)(r:α):dJ (ck f w++aW g q 0) (eK ((119+q.length:Nat))) (g r)=some (ck f w++aW g (q++[r]) 0):=by rw[op (KK h),Xr,show aW g q 0++[(eK ((119+q.length:Nat)),g r)]=aW g (q++[r]) 0 by have:=r9 g r q 0;rw[Xz] at this;exact this]
def OH(r:α):dJ (aW g q 0) (eK ((119+q.length:Nat))) (g r)=some (aW g (q++[r]) 0):=by rw[op (qN g q 0 _ (XY (Xz _))),show aW g q 0++[(eK ((119+q.length:Nat)),g r)]=aW g (q++[r]) 0 by have:=r9 g r q 0;rw[Xz] at this;exact this]
def Dt{k:Nat}(h:k<4):dJ (bY++cr k 0) (.int ((119+k:Nat))) (.int 1)=some (bY++cr (k+1) 0):=by rw[op (vX h),Xr,show cr k 0++[(PV.int ((119+k:Nat)),PV.int 1)]=cr (k+1) 0 by have:=Ai k 0;rw[Xz] at this;exact this]
def AD(h:q.length≤4):(ck f w++aW g q 0).length<1000:=by rw[Xl,w7];exact XQ (XA h _) (show 8+4<1000 by decide)
def DL{k:Nat}(h:k≤4):(bY++cr k 0).length<1000:=by rw[Xl,Fd];exact XQ (XA h _) (show 8+4<1000 by decide)
end
abbrev Rw:=Nat×Nat×Nat
structure Ts where
 h0:List Bool
 h1:List Bool
 h2:List Bool
 c0:Bool
 c1:Bool
 c2:Bool
 q:List Rw
 g1:Nat
 g2:Nat
def aY(W:Nat)(r:Rw):PV:=.lst [yu (wt W r.1) (wt 32 r.2.1) (wt 2 r.2.2)]
def Ts.now(t:Ts):Rw:=(Dd t.c0 t.h0,Dd t.c1 t.h1,Dd t.c2 t.h2)
def Gi(W w:Nat)(t:Ts)(d:Dk):List Ent:=gX w (bN W t.h0) (bN 32 t.h1) (bN 2 t.h2) (ck dM w++aW (aY W) t.q 0) (bY++cr t.q.length 0) (aW (aY W) t.q 0) t.g1 t.g2 (aY W t.now) d
structure mj(t:Ts):Prop where
 o0:yt (t.c0::t.h0)=true
 o1:yt (t.c1::t.h1)=true
 o2:yt (t.c2::t.h2)=true
 l0:t.h0.length≤t.q.length
 l1:t.h1.length≤t.q.length
 l2:t.h2.length≤t.q.length
 rs:∀r∈t.q,r.1≤t.h0.length∧r.2.1≤t.h1.length∧r.2.2≤t.h2.length
def jq{c:Bool}{h:List Bool}(e:yt (c::h)=true):yt h=true:=by
 cases h with
|nil=>rfl
|cons b h=>exact e
def wq{c:Bool}{h:List Bool}(e:yt (c::h)=true):yt (false::h)=true:=by
 cases h with
|nil=>rfl
|cons b h=>exact e
def qF{c:Bool}{h:List Bool}(e:yt (c::h)=true):yt (true::c::h)=true:=e
def rq{n:Nat}{c:Bool}{h:List Bool}(e:yt (c::h)=true)(l:h.length≤n):(c::h)∈Kb n:=List.mem_flatMap.mpr ⟨h,ju (jq e) n l,by
 cases h with
|nil=>
  have:c=false:=by cases c with|true=>injection e|false=>rfl
  subst this;exact .head _
|cons b h=>cases c<;>first|exact .head _|exact .tail _ (.head _)⟩
def uS(c:Bool)(h:List Bool):Dd c h≤h.length:=match c with|true=>Xx _|false=>Nat.zero_le _
def B1{m:Nat}(h:m<4):(((119+m:Nat):Int))∈x4:=(show ∀m<4,(((119+m:Nat):Int))∈x4 by decide) m h
section
variable{n W w s:Nat}{t:Ts}{d:Dk}{p:Int}
def rR(h:t.q.length<4)(r:Rw):P5 (ck dM w++aW (aY W) t.q 0) (ck dM w++aW (aY W) (t.q++[r]) 0) (bY++cr t.q.length 0) (bY++cr (t.q++[r]).length 0) (aW (aY W) t.q 0) (aW (aY W) (t.q++[r]) 0) ((119+t.q.length:Nat)) (aY W r):=
 ⟨AD (XW h),DL (XW h),by rw[w7];exact YQ h (by decide),BE h r,vX h,by rw[Xl];exact Dt h,OH r⟩
def m5{q:List Rw}{r:Rw}{P:Rw->Prop}(h1:∀r∈q,P r)(h2:P r):∀y∈q++[r],P y:=fun y hy=>(Ym.mp hy).elim (h1 y) fun e=>XU.mp e▸h2
def CX(S:Nat->St)(g g' a b c fr:Nat)(x p lv st gr:Int)(s:Nat):∃k,QZ a b c fr x p lv st gr s (S g) (S g')=some (.next,gm a b c fr x p lv st gr s,S k):=by unfold QZ;cases(st==gr)<;>exact⟨_,rfl⟩
def b8{q:List Rw}{r:Rw}:(q++[r]).length=q.length+1:=Xl
def FO(hW:W∈Ws)(G:mj t)(h:t.q.length<4)(hs:s∈ZY):∃t',mj t'∧t'.q.length=t.q.length+1∧af (n+14) Qt [.glob 8,mP s ((119+t.q.length:Nat)) p] (Gi W w t d)=some (.none,Gi W w t' d):=by
 let' h3:=Nat.le_of_lt_succ h;rcases Xo.mp hs with rfl|hs
 ·let r:Rw:=(t.h0.length+1,0,0)
  let' fa:=aE ‹d6 (fun x=>af ((n+12)+1) Nl [.glob 14,wV x.1 (Dd (FL x.2) (y0 x.2))] (gX w (bN x.1 (y0 x.2)) (bN 32 t.h1) (bN 2 t.h2) (ck dM w++aW (aY W) t.q 0) (bY++cr t.q.length 0) (aW (aY W) t.q 0) t.g1 t.g2 (aY W t.now) d)) (MW (Kb 3))=(MW (Kb 3)).map fun x=>some (wV x.1 x.2.length,gX w (bN x.1 x.2) (bN 32 t.h1) (bN 2 t.h2) (ck dM w++aW (aY W) t.q 0) (bY++cr t.q.length 0) (aW (aY W) t.q 0) t.g1 t.g2 (aY W t.now) d)› (W,t.c0::t.h0) (wU hW (rq G.o0 (Xk G.l0 h3)));let' h6:=Vt (n+11) w t.g1 t.g2 (wt W t.now.1) (wt 32 t.now.2.1) (wt 2 t.now.2.2) (wt W (t.h0.length+1)) (bN W (t.c0::t.h0)) (bN 32 t.h1) (bN 2 t.h2) (ck dM w++aW (aY W) t.q 0) (bY++cr t.q.length 0) (aW (aY W) t.q 0) d ((119+t.q.length:Nat)) p (wt W t.now.1)
  let' h7:=‹run fM [(1,true)] 7 (ac ((n+11)+2)) (gm (wt W t.now.1) (wt 32 t.now.2.1) (wt 2 t.now.2.2) (wt W (t.h0.length+1)) ((119+t.q.length:Nat)) p 0 ((wt W t.now.1+1:Nat)) ((0:Nat)) (1:Nat)) (sV w t.g1 t.g2 (wt W t.now.1) (wt 32 t.now.2.1) (wt 2 t.now.2.2) (bN W (t.c0::t.h0)) (bN 32 t.h1) (bN 2 t.h2) (ck dM w++aW (aY W) t.q 0) (bY++cr t.q.length 0) (aW (aY W) t.q 0) d)=some (.next,gm (wt W t.now.1) (wt 32 t.now.2.1) (wt 2 t.now.2.2) (wt W (t.h0.length+1)) ((119+t.q.length:Nat)) p 0 ((wt W t.now.1+1:Nat)) ((0:Nat)) (1:Nat),sV w t.g1 t.g2 (wt W (t.h0.length+1)) (wt 32 0) (wt 2 0) (bN W (t.c0::t.h0)) (bN 32 t.h1) (bN 2 t.h2) (ck dM w++aW (aY W) t.q 0) (bY++cr t.q.length 0) (aW (aY W) t.q 0) d)›
  let' e:=qA (s:=1) (by decide) (B1 h) (rR h r) ⟨_,rfl⟩ fa h6 h7;exact⟨⟨t.c0::t.h0,t.h1,t.h2,true,false,false,t.q++[r],t.g1,t.g2⟩,⟨qF G.o0,wq G.o1,wq G.o2,(b8)▸(Yx G.l0),(b8)▸(XX G.l1),(b8)▸(XX G.l2),m5 (fun y hy=>⟨XX (G.rs y hy).1,(G.rs y hy).2,(G.rs y hy).3⟩) ⟨Xx _,Nat.zero_le _,Nat.zero_le _⟩⟩,b8,e⟩
 rcases Xo.mp hs with rfl|hs
 ·let r:Rw:=(Dd t.c0 t.h0,t.h1.length+1,0)
  let' fa:=aE ‹d6 (fun x=>af ((n+12)+1) Nl [.glob 20,wV 32 (Dd (FL x) (y0 x))] (gX w (bN W t.h0) (bN 32 (y0 x)) (bN 2 t.h2) (ck dM w++aW (aY W) t.q 0) (bY++cr t.q.length 0) (aW (aY W) t.q 0) t.g1 t.g2 (aY W t.now) d)) (Kb 3)=(Kb 3).map fun x=>some (wV 32 x.length,gX w (bN W t.h0) (bN 32 x) (bN 2 t.h2) (ck dM w++aW (aY W) t.q 0) (bY++cr t.q.length 0) (aW (aY W) t.q 0) t.g1 t.g2 (aY W t.now) d)› (t.c1::t.h1) (rq G.o1 (Xk G.l1 h3));let' h6:=TI (n+11) w t.g1 t.g2 (wt W t.now.1) (wt 32 t.now.2.1) (wt 2 t.now.2.2) (wt 32 (t.h1.length+1)) (bN W t.h0) (bN 32 (t.c1::t.h1)) (bN 2 t.h2) (ck dM w++aW (aY W) t.q 0) (bY++cr t.q.length 0) (aW (aY W) t.q 0) d ((119+t.q.length:Nat)) p ((wt 32 t.now.2.1+1:Nat)) t.g1
  obtain⟨ZD,hk⟩:=CX (fun k=>sV w k t.g2 (wt W t.now.1) (wt 32 t.now.2.1) (wt 2 t.now.2.2) (bN W t.h0) (bN 32 (t.c1::t.h1)) (bN 2 t.h2) (ck dM w++aW (aY W) t.q 0) (bY++cr t.q.length 0) (aW (aY W) t.q 0) d) t.g1 (wt 32 (t.h1.length+1)+1) (wt W t.now.1) (wt 32 t.now.2.1) (wt 2 t.now.2.2) (wt 32 (t.h1.length+1)) ((119+t.q.length:Nat)) p 1 ((wt 32 t.now.2.1+1:Nat)) t.g1 2;let' h6:=h6.trans hk;let' h7:=‹run fM [(1,true)] 7 (ac ((n+11)+2)) (gm (wt W t.now.1) (wt 32 t.now.2.1) (wt 2 t.now.2.2) (wt 32 (t.h1.length+1)) ((119+t.q.length:Nat)) p 1 ((wt 32 t.now.2.1+1:Nat)) t.g1 (2:Nat)) (sV w ZD t.g2 (wt W t.now.1) (wt 32 t.now.2.1) (wt 2 t.now.2.2) (bN W t.h0) (bN 32 (t.c1::t.h1)) (bN 2 t.h2) (ck dM w++aW (aY W) t.q 0) (bY++cr t.q.length 0) (aW (aY W) t.q 0) d)=some (.next,gm (wt W t.now.1) (wt 32 t.now.2.1) (wt 2 t.now.2.2) (wt 32 (t.h1.length+1)) ((119+t.q.length:Nat)) p 1 ((wt 32 t.now.2.1+1:Nat)) t.g1 (2:Nat),sV w ZD t.g2 (wt W t.now.1) (wt 32 (t.h1.length+1)) (wt 2 0) (bN W t.h0) (bN 32 (t.c1::t.h1)) (bN 2 t.h2) (ck dM w++aW (aY W) t.q 0) (bY++cr t.q.length 0) (aW (aY W) t.q 0) d)›
  let' e:=qA (s:=2) (by decide) (B1 h) (rR h r) ⟨_,rfl⟩ fa h6 h7;exact⟨⟨t.h0,t.c1::t.h1,t.h2,t.c0,true,false,t.q++[r],ZD,t.g2⟩,⟨G.o0,qF G.o1,wq G.o2,(b8)▸(XX G.l0),(b8)▸(Yx G.l1),(b8)▸(XX G.l2),m5 (fun y hy=>⟨(G.rs y hy).1,XX (G.rs y hy).2,(G.rs y hy).3⟩) ⟨uS _ _,Xx _,Nat.zero_le _⟩⟩,b8,e⟩
 ·obtain rfl:=XU.mp hs
  let r:Rw:=(Dd t.c0 t.h0,Dd t.c1 t.h1,t.h2.length+1)
  let' h6:=Su (n+11) w t.g1 t.g2 (wt W t.now.1) (wt 32 t.now.2.1) (wt 2 t.now.2.2) (wt 2 (t.h2.length+1)) (bN W t.h0) (bN 32 t.h1) (bN 2 (t.c2::t.h2)) (ck dM w++aW (aY W) t.q 0) (bY++cr t.q.length 0) (aW (aY W) t.q 0) d ((119+t.q.length:Nat)) p ((wt 2 t.now.2.2+1:Nat)) t.g2;obtain⟨ZZ,hk⟩:=CX (fun k=>sV w t.g1 k (wt W t.now.1) (wt 32 t.now.2.1) (wt 2 t.now.2.2) (bN W t.h0) (bN 32 t.h1) (bN 2 (t.c2::t.h2)) (ck dM w++aW (aY W) t.q 0) (bY++cr t.q.length 0) (aW (aY W) t.q 0) d) t.g2 (wt 2 (t.h2.length+1)+1) (wt W t.now.1) (wt 32 t.now.2.1) (wt 2 t.now.2.2) (wt 2 (t.h2.length+1)) ((119+t.q.length:Nat)) p 2 ((wt 2 t.now.2.2+1:Nat)) t.g2 3
  let' h6:=h6.trans hk;let' h7:=‹run fM [(1,true)] 7 (ac ((n+11)+2)) (gm (wt W t.now.1) (wt 32 t.now.2.1) (wt 2 t.now.2.2) (wt 2 (t.h2.length+1)) ((119+t.q.length:Nat)) p 2 ((wt 2 t.now.2.2+1:Nat)) t.g2 (3:Nat)) (sV w t.g1 ZZ (wt W t.now.1) (wt 32 t.now.2.1) (wt 2 t.now.2.2) (bN W t.h0) (bN 32 t.h1) (bN 2 (t.c2::t.h2)) (ck dM w++aW (aY W) t.q 0) (bY++cr t.q.length 0) (aW (aY W) t.q 0) d)=some (.next,gm (wt W t.now.1) (wt 32 t.now.2.1) (wt 2 t.now.2.2) (wt 2 (t.h2.length+1)) ((119+t.q.length:Nat)) p 2 ((wt 2 t.now.2.2+1:Nat)) t.g2 (3:Nat),sV w t.g1 ZZ (wt W t.now.1) (wt 32 t.now.2.1) (wt 2 (t.h2.length+1)) (bN W t.h0) (bN 32 t.h1) (bN 2 (t.c2::t.h2)) (ck dM w++aW (aY W) t.q 0) (bY++cr t.q.length 0) (aW (aY W) t.q 0) d)›
  let' e:=qA (s:=3) (by decide) (B1 h) (rR h r) ⟨_,rfl⟩ (aE ‹d6 (fun x=>af ((n+12)+1) Nl [.glob 26,wV 2 (Dd (FL x) (y0 x))] (gX w (bN W t.h0) (bN 32 t.h1) (bN 2 (y0 x)) (ck dM w++aW (aY W) t.q 0) (bY++cr t.q.length 0) (aW (aY W) t.q 0) t.g1 t.g2 (aY W t.now) d)) (Kb 3)=(Kb 3).map fun x=>some (wV 2 x.length,gX w (bN W t.h0) (bN 32 t.h1) (bN 2 x) (ck dM w++aW (aY W) t.q 0) (bY++cr t.q.length 0) (aW (aY W) t.q 0) t.g1 t.g2 (aY W t.now) d)› (t.c2::t.h2) (rq G.o2 (Xk G.l2 h3))) h6 h7;exact⟨⟨t.h0,t.h1,t.c2::t.h2,t.c0,t.c1,true,t.q++[r],t.g1,ZZ⟩,⟨G.o0,G.o1,qF G.o2,(b8)▸(XX G.l0),(b8)▸(XX G.l1),(b8)▸(Yx G.l2),m5 (fun y hy=>⟨(G.rs y hy).1,(G.rs y hy).2,XX (G.rs y hy).3⟩) ⟨uS _ _,uS _ _,Xx _⟩⟩,b8,e⟩
end
def TO:Nat:=(fI 1556545762911752646247 7379550863610111332)
def fR:Nat:=136
def T8:Nat:=(fI 1556545762911752646247 427021005669)
def QC:Nat:=137
def Ur:Nat:=(fI 5002484806629356659 126870673450340)
def Ly(l:List PV)(V:YA)(s:St)(u:PV)(f:PV->YA->St->Option R3):Option R3:=(au f l V s).bind fun z=>some (z.1,z.2.1,aO z.2.2 (some u))
def MD(v:PV)(s:St)(V:YA)(f:PV->YA->St->Option R3):Option R3:=(iB s v).bind fun l=>(au f l V (aK s v).1).bind fun z=>some (z.1,z.2.1,aO z.2.2 (aK s v).2)
section
variable(n w g1 g2 a b c:Nat)(l0 l1 l2:ZF)(X Y Z:Zi)(h:PV)(d:Dk)(x:Int)(f:Nat×Nat×Nat)(X2 Y2:Zi)
def vF:YA:=[(1936026726,.glob 8)]
noncomputable def ZT:YA:=[(1936026726,.glob 8),(439956631140,.glob 34)]
def T2:YA:=ZT++[(7038329,.tup [.int x])]
def Hh(j:Nat):YA:=T2 x++[(7499639,.loc j)]
def sL:St:=⟨[],gK .Zw .mut w l0 l1 l2 X Y Z g1 g2 h d⟩
def sM:St:=⟨[],gE .mut w l0 l1 l2 X Y Z g1 g2 h f X2 Y2 d⟩
def gJ(K:List Ent):St:=⟨K,gE .Zw w l0 l1 l2 X Y Z g1 g2 h f X2 Y2 d⟩
variable(K:List Ent)(j:Nat)
def LL:YA:=Hh x j++[(28548155530636916,yu a b c)]
def KI(acc:List PV):d6 (fun i:Nat=>aH fR [2,1,0] [] (ac n) (LL a b c x j) (.int i) acc (gJ w g1 g2 l0 l1 l2 X Y Z h d f X2 Y2 K)) [0,1,2]=[0,1,2].map fun i:Nat=>(ag n Ky [.glob (14+6*i),.int ((fQ (i+1) (a+1) (b+1) (c+1):Nat))] (gJ w g1 g2 l0 l1 l2 X Y Z h d f X2 Y2 K) some).bind fun r=>if aq (acc++[r.1])=true then some (acc++[r.1],r.2) else none:=by rfl'
variable(a' b' c':Nat)(e0 e1 e2:Ent)
def UE:YA:=LL a b c x j++[(33607025609438323,.lst [.int a',.int b',.int c'])]
def Kx(e0 e1 e2:Ent)(j:Nat):List Ent:=[e0,e1,e2].take j
def H6(a b c:Nat):Zk:=.lst [qc a b c false]
def RW:St:=⟨K,gE .mut w l0 l1 l2 X Y Z g1 g2 h f X2 Y2 d⟩
def Rn(S:St):run fR [] 4 (ac n) ZT S=some (.ret (.glob 34),ZT,S):=by rfl'
end
def O0:aN fR [] 2=true:=by rfl'
def Po:aN fR [] 3=true:=by rfl'
def gF(W:Nat)(t:Ts)(r:Rw):PV:=.lst [qc (rH W t.h0 r.1) (rH 32 t.h1 r.2.1) (rH 2 t.h2 r.2.2) false]
def om(t:Ts):Nat×Nat×Nat:=(fW t.h0,fW t.h1,fW t.h2)
def dH(t:Ts):Nat×Nat×Nat:=(1*fW t.h0,1*fW t.h1,1*fW t.h2)
def xe(k:Lk)(W w:Nat)(t:Ts)(q:List Rw)(d:Dk):List Ent:=gE k w (aP W t.h0) (aP 32 t.h1) (aP 2 t.h2) (ck dM w++aW (aY W) t.q 0) (bY++cr t.q.length 0) (aW (aY W) t.q 0) t.g1 t.g2 (aY W t.now) (dH t) (ck (om t) w++aW (gF W t) q 0) (bY++cr q.length 0) d
def EY{α:Type}{f:α->PV}{r:α}{q2:List α}(q1:List α):∀(i:Nat),aC (aW f (q1++r::q2) i) (eK ((119+(i+q1.length):Nat)))=some (some (f r)):=by
 induction q1 with
|nil=>intro i;refine(?_:(if(((119+i:Nat):Int)==((119+i:Nat):Int)&&true)=true then some (some (f r)) else _)=_);rw[Y5];rfl
|cons y q1 ih=>intro i;let' e:=ih (i+1);rw[XD i 1] at e;refine(?_:(if(((119+i:Nat):Int)==((119+(i+(q1.length+1)):Nat):Int)&&true)=true then _ else aC (aW f (q1++r::q2) (i+1)) (eK ((119+(i+(q1.length+1)):Nat))))=_);rw[Br (Yi (XT _))];exact e
def Gd{l:List PV}{V W:YA}{f:PV->YA->St->Option R3}{y:Fl}{s s':St}(hf:au f l V s=some (y,W,s')):MD (.lst l) s V f=some (y,W,s'):=aB (f:=fun z:R3=>some (z.1,z.2.1,aO z.2.2 none)) hf
def Sm{k:PV}{Z:Zi}{v:PV}{K:PV->Option R3}(h:aC Z k=some (some v)):((aC Z k).bind fun r=>r).bind K=K v:=by rw[h];rfl
def OC:∀K:List Ent,K.length≤3->∃e0 e1 e2,K=Kx e0 e1 e2 K.length
|[],_=>⟨mE (.lst []),mE (.lst []),mE (.lst []),rfl⟩
|[a],_=>⟨a,mE (.lst []),mE (.lst []),rfl⟩
|[a,b],_=>⟨a,b,mE (.lst []),rfl⟩
|[a,b,c],_=>⟨a,b,c,rfl⟩
|_::_::_::_::_,h=>absurd h (by simp)
section
variable{n w g1 g2 a b c a' b' c':Nat}{l0 l1 l2:ZF}{X Y Z:Zi}{h:PV}{d:Dk}{x:Int}{f:Nat×Nat×Nat}{X2 Y2 X3 Y3:Zi}{K:List Ent}
def GL(hK:K.length≤3)(f0:af n Ky [.glob 14,.int ((a+1:Nat))] (gJ w g1 g2 l0 l1 l2 X Y Z h d f X2 Y2 []).g=some (.int a',(gJ w g1 g2 l0 l1 l2 X Y Z h d f X2 Y2 []).g))(f1:af n Ky [.glob 20,.int ((b+1:Nat))] (gJ w g1 g2 l0 l1 l2 X Y Z h d f X2 Y2 []).g=some (.int b',(gJ w g1 g2 l0 l1 l2 X Y Z h d f X2 Y2 []).g))(f2:af n Ky [.glob 26,.int ((c+1:Nat))] (gJ w g1 g2 l0 l1 l2 X Y Z h d f X2 Y2 []).g=some (.int c',(gJ w g1 g2 l0 l1 l2 X Y Z h d f X2 Y2 []).g))
  (fz:aC Z (eK x)=some (some (.lst [yu a b c]))) (pv:af n L8 [.glob 34,.tup [.int x],.lst [qc a' b' c' false]] (gJ w g1 g2 l0 l1 l2 X Y Z h d f X2 Y2 []).g=some (.none,(gJ w g1 g2 l0 l1 l2 X Y Z h d f X3 Y3 []).g)):
  ai fR [2] (ac n) (eK x) ZT (gJ w g1 g2 l0 l1 l2 X Y Z h d f X2 Y2 K)=some (.next,Hh x K.length,gJ w g1 g2 l0 l1 l2 X Y Z h d f X3 Y3 (K++[⟨H6 a' b' c',.ZG⟩])):=by
 obtain⟨e0,e1,e2,hKx⟩:=OC K hK;let' hj:K.length∈m4:=uE (Nat.lt_succ_of_le hK);let' h6:=‹ah fR [(2,true)] 0 (ac n) (T2 x) (gJ w g1 g2 l0 l1 l2 X Y Z h d f X2 Y2 K)=some (.next,Hh x K.length,gJ w g1 g2 l0 l1 l2 X Y Z h d f X2 Y2 (K++[mE (.lst [])]))›
 rw[show K++[mE (.lst [])]=Kx e0 e1 e2 K.length++[mE (.lst [])] by rw[<-hKx]] at h6;rw[show K++[⟨H6 a' b' c',.ZG⟩]=Kx e0 e1 e2 K.length++[⟨H6 a' b' c',.ZG⟩] by rw[<-hKx]];let' h5:=‹ai fR [2] (ac n) (.tup [.int x]) ZT (gJ w g1 g2 l0 l1 l2 X Y Z h d f X2 Y2 K)=run fR [(2,true)] 0 (ac n) (T2 x) (gJ w g1 g2 l0 l1 l2 X Y Z h d f X2 Y2 K)›
 generalize K.length=j at hj h6 h5 ⊢;generalize hK0:Kx e0 e1 e2 j++[mE (.lst [])]=K0 at h6;let' k1:=(aE (KI n w g1 g2 a b c l0 l1 l2 X Y Z h d x f X2 Y2 K0 j [.int a']) 1 (by decide)).trans (aB (ad (s':=gJ w g1 g2 l0 l1 l2 X Y Z h d f X2 Y2 K0) (ae (t6 _ _)) f1));let' k2:=(aE (KI n w g1 g2 a b c l0 l1 l2 X Y Z h d x f X2 Y2 K0 j [.int a',.int b']) 2 (by decide)).trans (aB (ad (s':=gJ w g1 g2 l0 l1 l2 X Y Z h d f X2 Y2 K0) (ae (t6 _ _)) f2));let' cm:ar (aH fR [2,1,0] [] (ac n) (LL a b c x j)) [.int 0,.int 1,.int 2] [] (gJ w g1 g2 l0 l1 l2 X Y Z h d f X2 Y2 K0)=some ([.int a',.int b',.int c'],gJ w g1 g2 l0 l1 l2 X Y Z h d f X2 Y2 K0):=(bQ ((aE (KI n w g1 g2 a b c l0 l1 l2 X Y Z h d x f X2 Y2 K0 j []) 0 (by decide)).trans (aB (ad (s':=gJ w g1 g2 l0 l1 l2 X Y Z h d f X2 Y2 K0) (ae (t6 _ _)) f0))) (by decide)).trans ((bQ k1 (by show 1<1000;decide)).trans ((bQ k2 (by show 2<1000;decide)).trans rfl))
 let' i11:=aE ‹d6 (fun j=>run fR [(2,true),(1,true)] 1 (ac n) (UE a b c x j a' b' c') (gJ w g1 g2 l0 l1 l2 X Y Z h d f X2 Y2 (Kx e0 e1 e2 j++[mE (.lst [])]))) m4=m4.map fun j=>some (.next,UE a b c x j a' b' c',gJ w g1 g2 l0 l1 l2 X Y Z h d f X2 Y2 (Kx e0 e1 e2 j++[mE (H6 a' b' c')]))› j hj;rw[hK0] at i11;let' i8:=‹ai fR [2,1] (ac n) (yu a b c) (Hh x j) (gJ w g1 g2 l0 l1 l2 X Y Z h d f X2 Y2 K0)=run fR [(2,true),(1,true)] 0 (ac n) (LL a b c x j) (gJ w g1 g2 l0 l1 l2 X Y Z h d f X2 Y2 K0)›.trans ((aa ‹aN fR [(2,true),(1,true)] 0=true› (‹ah fR [(2,true),(1,true)] 0 (ac n) (LL a b c x j) (gJ w g1 g2 l0 l1 l2 X Y Z h d f X2 Y2 K0)=(((ar (aH fR [2,1,0] [] (ac n) (LL a b c x j)) [.int 0,.int 1,.int 2] [] (gJ w g1 g2 l0 l1 l2 X Y Z h d f X2 Y2 K0)).bind fun y=>some (y.1,aO y.2 none)).bind fun y=>some (PV.lst y.1,y.2)).bind fun y=>some (.next,LL a b c x j++[(33607025609438323,y.1)],y.2)›.trans (aB (b9 cm)))).trans i11)
 let' i7:=‹ah fR [(2,true)] 1 (ac n) (Hh x j) (gJ w g1 g2 l0 l1 l2 X Y Z h d f X2 Y2 K0)=((aC Z (eK x)).bind fun r=>r).bind fun v=>MD v (gJ w g1 g2 l0 l1 l2 X Y Z h d f X2 Y2 K0) (Hh x j) (ai fR [2,1] (ac n))›.trans ((Sm fz).trans (Gd ((be (V':=Hh x j) (r:=[]) i8 rfl).trans rfl)));exact h5.trans ((aa ‹aN fR [(2,true)] 0=true› h6).trans ((aa ‹aN fR [(2,true)] 1=true› i7).trans (cz ‹aN fR [(2,true)] 2=true› ‹run fR [(2,true)] 3=fun z vs s=>some (.next,vs,s)› (‹ah fR [(2,true)] 2 (ac n) (Hh x j) (gJ w g1 g2 l0 l1 l2 X Y Z h d f X2 Y2 (Kx e0 e1 e2 j++[mE (H6 a' b' c')]))=ag n L8 [.glob 34,.tup [.int x],.loc j] (gJ w g1 g2 l0 l1 l2 X Y Z h d f X2 Y2 (Kx e0 e1 e2 j++[mE (H6 a' b' c')])) fun r=>some (.next,Hh x j,r.2)›.trans (ad (aE ‹d6 (fun j=>jJ (gJ w g1 g2 l0 l1 l2 X Y Z h d f X2 Y2 (Kx e0 e1 e2 j++[mE (H6 a' b' c')])) [.glob 34,.tup [.int x],.loc j]) m4=m4.map fun j=>some ([.glob 34,.tup [.int x],.lst [qc a' b' c' false]],gJ w g1 g2 l0 l1 l2 X Y Z h d f X2 Y2 (Kx e0 e1 e2 j++[⟨H6 a' b' c',.ZG⟩]))› j hj) pv)))))
end
section
variable{n W w:Nat}{t:Ts}{d:Dk}
def Kk(hW:W∈Ws)(G:mj t)(hq:t.q.length≤4){q1 q2:List Rw}{r:Rw}(e:t.q=q1++r::q2){K:List Ent}(hK:K.length=q1.length):∃V' e',ai fR [2] (ac (n+1)) (eK ((119+q1.length:Nat))) ZT ⟨K,xe .Zw W w t q1 d⟩=some (.next,ZT++V',⟨K++[e'],xe .Zw W w t (q1++[r]) d⟩):=by
 have lt:q1.length<4:=by rw[e,Xl] at hq;exact XI (Yi (XT _)) hq
 obtain⟨r0,r1,r2⟩:=G.rs r (e▸YF _ (.head _));let' f1:=aE ‹d6 (fun x=>af (n+1) Ky [.glob 20,wV 32 x.2] (gE .Zw w (aP W t.h0) (aP 32 x.1) (aP 2 t.h2) (ck dM w++aW (aY W) t.q 0) (bY++cr t.q.length 0) (aW (aY W) t.q 0) t.g1 t.g2 (aY W t.now) (dH t) (ck (om t) w++aW (gF W t) q1 0) (bY++cr q1.length 0) d)) (KS 4)=(KS 4).map fun x=>some (.int (rH 32 x.1 x.2),gE .Zw w (aP W t.h0) (aP 32 x.1) (aP 2 t.h2) (ck dM w++aW (aY W) t.q 0) (bY++cr t.q.length 0) (aW (aY W) t.q 0) t.g1 t.g2 (aY W t.now) (dH t) (ck (om t) w++aW (gF W t) q1 0) (bY++cr q1.length 0) d)› (t.h1,r.2.1) (rB (ju (jq G.o1) 4 (Xk G.l1 hq)) r1)
 let' f2:=aE ‹d6 (fun x=>af (n+1) Ky [.glob 26,wV 2 x.2] (gE .Zw w (aP W t.h0) (aP 32 t.h1) (aP 2 x.1) (ck dM w++aW (aY W) t.q 0) (bY++cr t.q.length 0) (aW (aY W) t.q 0) t.g1 t.g2 (aY W t.now) (dH t) (ck (om t) w++aW (gF W t) q1 0) (bY++cr q1.length 0) d)) (KS 4)=(KS 4).map fun x=>some (.int (rH 2 x.1 x.2),gE .Zw w (aP W t.h0) (aP 32 t.h1) (aP 2 x.1) (ck dM w++aW (aY W) t.q 0) (bY++cr t.q.length 0) (aW (aY W) t.q 0) t.g1 t.g2 (aY W t.now) (dH t) (ck (om t) w++aW (gF W t) q1 0) (bY++cr q1.length 0) d)› (t.h2,r.2.2) (rB (ju (jq G.o2) 4 (Xk G.l2 hq)) r2)
 have fz:aC (aW (aY W) t.q 0) (eK ((119+q1.length:Nat)))=some (some (aY W r)):=by have:=EY (f:=aY W) (r:=r) (q2:=q2) q1 0;rw[Xz] at this;exact(e)▸this
 let' pv:=PA (n:=n) (w:=w) (g1:=t.g1) (g2:=t.g2) (l0:=aP W t.h0) (l1:=aP 32 t.h1) (l2:=aP 2 t.h2) (Z:=aW (aY W) t.q 0) (h:=aY W t.now) (d:=d) (f:=dH t) (U:=ck dM w++aW (aY W) t.q 0) (V:=bY++cr t.q.length 0) (AD (f:=om t) (w:=w) (g:=gF W t) (XW lt)) (DL (XW lt)) (BE lt r) (vX lt) (Dt lt);rw[show cr (q1.length+1) 0=cr (q1++[r]).length 0 by rw[Xl];rfl] at pv;exact⟨_,_,GL (hK▸Nat.le_of_lt_succ lt) (aE ‹d6 (fun x=>af (n+1) Ky [.glob 14,wV x.1 x.2.2] (gE .Zw w (aP x.1 x.2.1) (aP 32 t.h1) (aP 2 t.h2) (ck dM w++aW (aY W) t.q 0) (bY++cr t.q.length 0) (aW (aY W) t.q 0) t.g1 t.g2 (aY W t.now) (dH t) (ck (om t) w++aW (gF W t) q1 0) (bY++cr q1.length 0) d)) ĥ=ĥ.map fun x=>some (.int (rH x.1 x.2.1 x.2.2),gE .Zw w (aP x.1 x.2.1) (aP 32 t.h1) (aP 2 t.h2) (ck dM w++aW (aY W) t.q 0) (bY++cr t.q.length 0) (aW (aY W) t.q 0) t.g1 t.g2 (aY W t.now) (dH t) (ck (om t) w++aW (gF W t) q1 0) (bY++cr q1.length 0) d)› (W,(t.h0,r.1)) (CR hW (rB (ju (jq G.o0) 4 (Xk G.l0 hq)) r0))) f1 f2 fz pv⟩
def wM(V':YA):aA ZT (ZT++V')=ZT:=by rfl'
def EA(hW:W∈Ws)(G:mj t)(hq:t.q.length≤4)(q2:List Rw):∀(q1:List Rw) (K:List Ent),t.q=q1++q2->K.length=q1.length->∃K',au (ai fR [2] (ac (n+1))) ((aW (aY W) q2 q1.length).map (·.1)) ZT ⟨K,xe .Zw W w t q1 d⟩=some (.next,ZT,⟨K',xe .Zw W w t t.q d⟩):=by
 induction q2 with
|nil=>intro q1 K e _;exact⟨K,by rw[e,Xu];rfl⟩
|cons r q2 ih=>intro q1 K e hK;obtain⟨V',e',s⟩:=Kk (n:=n) (w:=w) (d:=d) hW G hq e hK;obtain⟨K',h⟩:=ih (q1++[r]) (K++[e']) (by rw[Xr];exact e) (by rw[Xl,Xl,hK];rfl);rw[show(q1++[r]).length=q1.length+1 from Xl] at h;exact⟨K',(be s (wM V')).trans h⟩
end
section
variable(n w g1 g2:Nat)(l0 l1 l2:ZF)(X Y:Zi)(h:PV)(d:Dk)(f:Nat×Nat×Nat)(X2 Y2:Zi)(K:List Ent)
def HD(Z:Zi):aO (gJ w g1 g2 l0 l1 l2 X Y Z h d f X2 Y2 K) (some (.glob 33))=RW w g1 g2 l0 l1 l2 X Y Z h d f X2 Y2 K:=by rfl'
def Ob(Z:Zi):aO (sL w g1 g2 l0 l1 l2 X Y Z h d) (some (.glob 13))=sX w g1 g2 l0 l1 l2 X Y Z h d:=by rfl'
def GE{α:Type}(g:α->PV)(Z:Zi)(q:List α):∀(i:Nat),au (ai QC [0] (ac n)) ((aW g q i).map (·.1)) ZT (gJ w g1 g2 l0 l1 l2 X Y Z h d f X2 Y2 [])=some (.next,ZT,gJ w g1 g2 l0 l1 l2 X Y Z h d f X2 Y2 []):=by
 induction q with
|nil=>intro _;exact rfl
|cons r q ih=>intro i;exact(be (by rfl') (wM [(7038329,.tup [.int ((119+i:Nat))])])).trans (ih (i+1))
def OJ{α:Type}(g:α->PV)(q:List α):af (n+1) T8 [.glob 8,.glob 34] (gE .mut w l0 l1 l2 X Y (aW g q 0) g1 g2 h f X2 Y2 d)=some (.none,gE .mut w l0 l1 l2 X Y (aW g q 0) g1 g2 h f X2 Y2 d):=by exact ao (by rfl') (by rfl') (cz (by rfl') ‹run QC [] 1=fun y vs s=>some (.next,vs,s)› (‹ah QC [] 0 (ac n) ZT (sM w g1 g2 l0 l1 l2 X Y (aW g q 0) h d f X2 Y2)=Ly ((aW g q 0).map (·.1)) ZT (sE w g1 g2 l0 l1 l2 X Y (aW g q 0) h d f X2 Y2) (.glob 33) (ai QC [0] (ac n))›.trans ((aB (f:=fun z:R3=>some (z.1,z.2.1,aO z.2.2 (some (.glob 33)))) (GE n w g1 g2 l0 l1 l2 X Y h d f X2 Y2 g (aW g q 0) q 0)).trans (by rw[HD])))) rfl ‹di (gE .mut _ _ _ _ _ _ _ _ _ _ _ _ _ _) (gE .mut _ _ _ _ _ _ _ _ _ _ _ _ _ _)=true›
end
section
variable{n W w:Nat}{t:Ts}{d:Dk}
def Pf(w g1 g2:Nat)(l0 l1 l2:ZF)(X Y Z:Zi)(h:PV)(d:Dk)(f:Nat×Nat×Nat)(X2 Y2:Zi)(ZP ZQ ZR:ZF):di (gX w l0 l1 l2 X Y Z g1 g2 h d) (gE .mut w ZP ZQ ZR X Y Z g1 g2 h f X2 Y2 d)=true:=by rfl'
def rM{i:Nat}{l0 l1 l2 ZP ZQ ZR:ZF}{X Y Z:Zi}{h:PV}{g1 g2:Nat}(hi:i∈[14,20,26])(e:af n O1 [.glob i] (sL w g1 g2 l0 l1 l2 X Y Z h d).g=some (.none,(sL w g1 g2 ZP ZQ ZR X Y Z h d).g)){r:List PV}:au (ai fR [0] (ac n)) (.glob i::r) vF (sL w g1 g2 l0 l1 l2 X Y Z h d)=au (ai fR [0] (ac n)) r vF (sL w g1 g2 ZP ZQ ZR X Y Z h d):=
 be ((aE ‹d6 (fun i=>ai fR [0] (ac n) (.glob i) vF (sL w g1 g2 l0 l1 l2 X Y Z h d)) [14,20,26]=[14,20,26].map fun i=>ag n O1 [.glob i] (sL w g1 g2 l0 l1 l2 X Y Z h d) fun r=>some (.next,vF++[(465558725996,.glob i)],r.2)› i hi).trans (ad (s':=sL w g1 g2 l0 l1 l2 X Y Z h d) (ae (by rfl')) e)) (by rfl')
def KX(hW:W∈Ws)(G:mj t)(hq:t.q.length≤4){X Y Z:Zi}{h:PV}:ah fR [] 0 (ac (n+1)) vF (sX w t.g1 t.g2 (bN W t.h0) (bN 32 t.h1) (bN 2 t.h2) X Y Z h d)=some (.next,vF,sX w t.g1 t.g2 (aP W t.h0) (aP 32 t.h1) (aP 2 t.h2) X Y Z h d):=by
 let' e1:=aE ‹d6 (fun x=>af (n+1) O1 [.glob 20] (gK .Zw .mut w (aP W t.h0) (bN 32 x) (bN 2 t.h2) X Y Z t.g1 t.g2 h d)) (Di 4)=(Di 4).map fun x=>some (.none,gK .Zw .mut w (aP W t.h0) (aP 32 x) (bN 2 t.h2) X Y Z t.g1 t.g2 h d)› t.h1 (ju (jq G.o1) 4 (Xk G.l1 hq));let' e2:=aE ‹d6 (fun x=>af (n+1) O1 [.glob 26] (gK .Zw .mut w (aP W t.h0) (aP 32 t.h1) (bN 2 x) X Y Z t.g1 t.g2 h d)) (Di 4)=(Di 4).map fun x=>some (.none,gK .Zw .mut w (aP W t.h0) (aP 32 t.h1) (aP 2 x) X Y Z t.g1 t.g2 h d)› t.h2 (ju (jq G.o2) 4 (Xk G.l2 hq))
 let' lp:=(rM (n:=n+1) (by decide) (aE ‹d6 (fun x=>af (n+1) O1 [.glob 14] (gK .Zw .mut w (bN x.1 x.2) (bN 32 t.h1) (bN 2 t.h2) X Y Z t.g1 t.g2 h d)) (MW (Di 4))=(MW (Di 4)).map fun x=>some (.none,gK .Zw .mut w (aP x.1 x.2) (bN 32 t.h1) (bN 2 t.h2) X Y Z t.g1 t.g2 h d)› (W,t.h0) (wU hW (ju (jq G.o0) 4 (Xk G.l0 hq)))) (r:=[.glob 20,.glob 26])).trans ((rM (n:=n+1) (by decide) e1 (r:=[.glob 26])).trans ((rM (n:=n+1) (by decide) e2 (r:=[])).trans rfl));exact‹ah fR [] 0 (ac (n+1)) vF (sX w t.g1 t.g2 (bN W t.h0) (bN 32 t.h1) (bN 2 t.h2) X Y Z h d)=Ly [.glob 14,.glob 20,.glob 26] vF (sL w t.g1 t.g2 (bN W t.h0) (bN 32 t.h1) (bN 2 t.h2) X Y Z h d) (.glob 13) (ai fR [0] (ac (n+1)))›.trans ((aB (f:=fun z:R3=>some (z.1,z.2.1,aO z.2.2 (some (.glob 13)))) lp).trans (by rw[Ob]))
end
section
variable{n W w:Nat}{t:Ts}{d:Dk}
def Hk:gE .mut w (aP W t.h0) (aP 32 t.h1) (aP 2 t.h2) (ck dM w++aW (aY W) t.q 0) (bY++cr t.q.length 0) (aW (aY W) t.q 0) t.g1 t.g2 (aY W t.now) (dH t) (ck (om t) w) bY d=xe .mut W w t [] d:=by refine(?_:_=gE .mut w (aP W t.h0) (aP 32 t.h1) (aP 2 t.h2) (ck dM w++aW (aY W) t.q 0) (bY++cr t.q.length 0) (aW (aY W) t.q 0) t.g1 t.g2 (aY W t.now) (dH t) (ck (om t) w++[]) (bY++[]) d);rw[Xu,Xu]
def LA(hW:W∈Ws)(hw:w∈ws)(G:mj t)(hq:t.q.length≤4):af (n+6) TO [.glob 8] (Gi W w t d)=some (.glob 34,xe .mut W w t t.q d):=by
 let' sd:=aE ‹d6 (fun w9=>af (n+5) Ur [.glob 2,.int (fW t.h0),.int (fW t.h1),.int (fW t.h2)] (gX w9 (aP W t.h0) (aP 32 t.h1) (aP 2 t.h2) (ck dM w++aW (aY W) t.q 0) (bY++cr t.q.length 0) (aW (aY W) t.q 0) t.g1 t.g2 (aY W t.now) d)) ws=ws.map fun w9=>some (.glob 34,gE .mut w9 (aP W t.h0) (aP 32 t.h1) (aP 2 t.h2) (ck dM w++aW (aY W) t.q 0) (bY++cr t.q.length 0) (aW (aY W) t.q 0) t.g1 t.g2 (aY W t.now) (1*(fW t.h0),1*(fW t.h1),1*(fW t.h2)) (ck ((fW t.h0),(fW t.h1),(fW t.h2)) w9) bY d)› w hw;let' sd:=sd.trans (YH (fun g=>some (PV.glob 34,g)) (Hk))
 let' e1:ah fR [] 1 (ac (n+5)) vF (sX w t.g1 t.g2 (aP W t.h0) (aP 32 t.h1) (aP 2 t.h2) (ck dM w++aW (aY W) t.q 0) (bY++cr t.q.length 0) (aW (aY W) t.q 0) (aY W t.now) d)=some (.next,ZT,⟨[],xe .mut W w t [] d⟩):=‹_=ag (n+5) Ur [.glob 2,.int (aP W t.h0).f,.int (aP 32 t.h1).f,.int (aP 2 t.h2).f] (sX w t.g1 t.g2 (aP W t.h0) (aP 32 t.h1) (aP 2 t.h2) (ck dM w++aW (aY W) t.q 0) (bY++cr t.q.length 0) (aW (aY W) t.q 0) (aY W t.now) d) fun r=>some (.next,vF++[(439956631140,r.1)],r.2)›.trans (ad (s':=sX w t.g1 t.g2 (aP W t.h0) (aP 32 t.h1) (aP 2 t.h2) (ck dM w++aW (aY W) t.q 0) (bY++cr t.q.length 0) (aW (aY W) t.q 0) (aY W t.now) d) (ae (by rfl')) sd)
 obtain⟨K',lp⟩:=EA (n:=n+4) hW G hq t.q [] [] rfl rfl;let' e2:ah fR [] 2 (ac (n+5)) ZT ⟨[],xe .mut W w t [] d⟩=some (.next,ZT,⟨K',xe .mut W w t t.q d⟩):=‹ah fR [] 2 (ac (n+5)) ZT (sM w t.g1 t.g2 (aP W t.h0) (aP 32 t.h1) (aP 2 t.h2) (ck dM w++aW (aY W) t.q 0) (bY++cr t.q.length 0) (aW (aY W) t.q 0) (aY W t.now) d (dH t) (ck (om t) w++[]) (bY++[]))=Ly ((aW (aY W) t.q 0).map (·.1)) ZT (sE w t.g1 t.g2 (aP W t.h0) (aP 32 t.h1) (aP 2 t.h2) (ck dM w++aW (aY W) t.q 0) (bY++cr t.q.length 0) (aW (aY W) t.q 0) (aY W t.now) d (dH t) (ck (om t) w++[]) (bY++[])) (.glob 33) (ai fR [2] (ac (n+5)))›.trans ((aB (f:=fun z:R3=>some (z.1,z.2.1,aO z.2.2 (some (.glob 33)))) lp).trans (YH (fun s=>some (Fl.next,ZT,s)) (HD w t.g1 t.g2 (aP W t.h0) (aP 32 t.h1) (aP 2 t.h2) (ck dM w++aW (aY W) t.q 0) (bY++cr t.q.length 0) (aY W t.now) d (dH t) (ck (om t) w++aW (gF W t) t.q 0) (bY++cr t.q.length 0) K' (aW (aY W) t.q 0))))
 let' e3:ah fR [] 3 (ac (n+5)) ZT ⟨K',xe .mut W w t t.q d⟩=some (.next,ZT,⟨K',xe .mut W w t t.q d⟩):=‹ah fR [] 3 (ac (n+5)) ZT (RW w t.g1 t.g2 (aP W t.h0) (aP 32 t.h1) (aP 2 t.h2) (ck dM w++aW (aY W) t.q 0) (bY++cr t.q.length 0) (aW (aY W) t.q 0) (aY W t.now) d (dH t) (ck (om t) w++aW (gF W t) t.q 0) (bY++cr t.q.length 0) K')=ag (n+5) T8 [.glob 8,.glob 34] (RW w t.g1 t.g2 (aP W t.h0) (aP 32 t.h1) (aP 2 t.h2) (ck dM w++aW (aY W) t.q 0) (bY++cr t.q.length 0) (aW (aY W) t.q 0) (aY W t.now) d (dH t) (ck (om t) w++aW (gF W t) t.q 0) (bY++cr t.q.length 0) K') fun r=>some (.next,ZT,r.2)›.trans (ad (s':=⟨K',xe .mut W w t t.q d⟩) (ae ‹aj [.glob 8,.glob 34]=true›) (OJ (n+4) w t.g1 t.g2 (aP W t.h0) (aP 32 t.h1) (aP 2 t.h2) (ck dM w++aW (aY W) t.q 0) (bY++cr t.q.length 0) (aY W t.now) d (dH t) (ck (om t) w++aW (gF W t) t.q 0) (bY++cr t.q.length 0) (aY W) t.q))
 exact ao ‹i5 fR TO=true› ‹bf fR [.glob 8]=some vF› ((aa ‹aN fR [] 0=true› (KX (n:=n+4) hW G hq (X:=ck dM w++aW (aY W) t.q 0) (Y:=bY++cr t.q.length 0) (Z:=aW (aY W) t.q 0) (h:=aY W t.now))).trans ((aa ‹aN fR [] 1=true› e1).trans ((aa O0 e2).trans ((aa Po e3).trans (Rn (n+5) _))))) rfl (Pf ..)
end
section
variable(n w g1 g2:Nat)(l0 l1 l2:ZF)(X Y Z:Zi)(h:PV)(d:Dk)(s x b:Int)(R:List PV)(T:PV)
def CY(E:YA):aA (iU R T) (iU R T++E)=iU R T:=by rfl'
def wW(E:YA):aA (wZ R) (wZ R++E)=wZ R:=by rfl'
end
section
variable{n W w:Nat}{d:Dk}
def Ha{s:Nat}(h:s∈nW):s∈ZY:=(show ∀s∈nW,s∈ZY by decide) s h
def zI(hW:W∈Ws)(R:List PV)(T:PV)(ss:List Nat):∀(i:Nat) (q:List PV) (t:Ts),i9 ss i q->(∀s∈ss,s∈nW)->t.q.length=i->i+ss.length≤4->mj t->∃t',mj t'∧t'.q.length=i+ss.length∧au (ai rV [3] (ac (n+14))) q (iU R T) ⟨[],Gi W w t d⟩=some (.next,iU R T,⟨[],Gi W w t' d⟩):=by
 induction ss with
|nil=>intro i _ t h _ hi _ G;subst h;exact⟨t,G,hi,rfl⟩
|cons s ss ih=>
  intro i _ t h hs hi hl G;obtain⟨p,q,rfl,h⟩:=h;subst hi;obtain⟨t',G',l',e⟩:=FO hW G (XI (Yi (XT _)) hl:t.q.length<4) (Ha (hs s (.head _)));obtain⟨t2,G2,lg2,e2⟩:=ih (t.q.length+1) q t' h (fun y hy=>hs y (.tail _ hy)) l' (by rw[XD];exact hl) G';exact⟨t2,G2,by rw[lg2,XD];rfl,(be (‹ai rV [3] (ac (n+14)) (mP s ((119+t.q.length:Nat)) p) (iU R T) (sX w t.g1 t.g2 (bN W t.h0) (bN 32 t.h1) (bN 2 t.h2) (ck dM w++aW (aY W) t.q 0) (bY++cr t.q.length 0) (aW (aY W) t.q 0) (aY W t.now) d)=ag (n+14) Qt [.glob 8,mP s ((119+t.q.length:Nat)) p] (sX w t.g1 t.g2 (bN W t.h0) (bN 32 t.h1) (bN 2 t.h2) (ck dM w++aW (aY W) t.q 0) (bY++cr t.q.length 0) (aW (aY W) t.q 0) (aY W t.now) d) fun r=>some (.next,iU R T++[(1920298085,mP s ((119+t.q.length:Nat)) p)],r.2)›.trans (ad (s':=⟨[],Gi W w t d⟩) (ae (by rfl')) e)) (CY R T _)).trans e2⟩
end
def F6(n w:Nat)(d:Dk)(R:List PV)(ss:List Nat):∀(i:Nat) (q:List PV),i9 ss i q->au (ai zP [1] (ac n)) q (wZ R) (sB w d)=some (.next,wZ R,sB w d):=by
 induction ss with
|nil=>intro _ _ h;subst h;rfl
|cons s ss ih=>intro i _ h;obtain⟨p,q,rfl,h⟩:=h;exact(tU ‹ai zP [1] (ac n) (mP s ((119+i:Nat)) p) (wZ R) (sB w d)=some (.cont,wZ R++[(1920298085,mP s ((119+i:Nat)) p)],sB w d)› (wW R _)).trans (ih (i+1) q h)
def PF(n w:Nat)(d:Dk){ss:List Nat}{q:List PV}(h:i9 ss 0 q)(x:Int):af (n+5) Tx [.lst (dZ x 0::q)] (gA w d)=some (.glob 6,gB w d):=by exact ao ‹i5 zP Tx=true› ‹bf zP [.lst _]=some [(491596309875,.lst _)]› ((aa ‹aN zP [] 0=true› (WL n w d _)).trans ((aa ‹aN zP [] 1=true› (‹ah zP [] 1 (ac (n+4)) (wZ (dZ x 0::q)) (sB w d)=gC (dZ x 0::q) (wZ (dZ x 0::q)) (sB w d) (ai zP [1] (ac (n+4)))›.trans (bJ ((tU ‹ai zP [1] (ac (n+4)) (dZ x (0:Int)) (wZ (dZ x 0::q)) (sB w d)=some (.cont,wZ (dZ x 0::q)++[(1920298085,dZ x (0:Int))],sB w d)› (wW _ _)).trans (F6 (n+4) w d _ ss 0 q h))))).trans (Wa (n+4) w d _))) rfl ‹di (gA w d) (gB w d)=true›
def t0:Ts:=⟨[],[],[],false,false,false,[],32*SP,8*SP⟩
def Gy:mj t0:=⟨rfl,rfl,rfl,Xx _,Xx _,Xx _,fun z h=>nomatch h⟩
def M8(a w:Nat)(d:Dk):sS (kA a w) d=⟨[],Gi (cU a) w t0 d⟩:=by refine(?_:(⟨[],gX w uv uv uv (ck dM w) bY [] (32*SP) (8*SP) (aY (cU a) t0.now) d⟩:St)=⟨[],gX w uv uv uv (ck dM w++[]) (bY++[]) [] (32*SP) (8*SP) (aY (cU a) t0.now) d⟩);rw[Xu,Xu]
def Fc:∀a∈k7,cU a∈Ws:=by decide
def xN(w:Nat):aw (eD w)=true:=by rfl'
def Mr(w ZD g2:Nat)(l0 l1 l2:ZF)(X Y Z:Zi)(h:PV)(d:Dk)(f:Nat×Nat×Nat)(X2 Y2:Zi):di (g1 d) (gE .mut w l0 l1 l2 X Y Z ZD g2 h f X2 Y2 d)=true:=by rfl'
def P7(n:Nat){a w:Nat}{ss:List Nat}{q:List PV}(d:Dk)(ha:a∈k7)(hw:w∈ws)(hs:∀s∈ss,s∈nW)(hl:ss.length≤4)(h:i9 ss 0 q):∃t,mj t∧t.q.length=ss.length∧af (n+19) Qa [eD w,.lst (dZ a 0::q),D0] (g1 d)=eU (g1 d) (some (.glob 34,xe .mut (cU a) w t t.q d)):=by
 let' hW:=Fc a ha;obtain⟨t,G,lq,lp⟩:=zI (n:=n+4) (w:=w) (d:=d) hW (dZ a 0::q) (eD w) ss 0 q t0 h hs rfl (by rw[Xz];exact hl) Gy;rw[Xz] at lq;refine⟨t,G,lq,?_⟩;let' e0:ah rV [] 0 (ac (n+18)) (MM (dZ a 0::q) (eD w)) (s0 d)=some (.next,wa (dZ a 0::q) (eD w),sB w d):=‹ah rV [] 0 (ac (n+18)) (MM (dZ a 0::q) (eD w)) (s0 d)=ag (n+18) T5 [eD w] (s0 d) fun r=>ag (n+18) Tx [.lst (dZ a 0::q)] r.2 fun q9=>Ms (n+18) q9.1 q9.2 fun y=>some (.next,MM (dZ a 0::q) (eD w)++[(1650553701,r.1),(108170671449444,y.1)],y.2)›.trans ((ad (s':=s0 d) (ae (aJ (xN w) am)) (bx ‹ws.map (fun w=>af ((n+10)+8) T5 [bw (Q2 w) bY (1,1,1)] (g1 d))=ws.map fun w=>some (.glob 2,gA w d)› w hw)).trans ((ad (s':=sA w d) (ae (aJ (dC (aJ (DM a 0) (vr ss 0 q h))) am:aj [.lst (dZ (a:Int) 0::q)]=true)) (PF (n+13) w d h a)).trans (Vm (n+18) w d _)))
 let' k5:=bx ‹k7.map (fun a9=>ai rV [3] (ac (n+18)) (dZ (a9:Nat) (0:Int)) (iU (dZ a 0::q) (eD w)) (sS (k0 w) d))=k7.map fun a9=>some (.next,iU (dZ a 0::q) (eD w)++[(1920298085,dZ (a9:Nat) (0:Int))],sS (kA a9 w) d)› a ha;rw[M8] at k5;let' e3:=‹ah rV [] 3 (ac (n+18)) (iU (dZ a 0::q) (eD w)) (sX w (32*SP) (8*SP) uv uv uv (ck dM w) bY [] (.lst []) d)=gC (dZ a 0::q) (iU (dZ a 0::q) (eD w)) (sX w (32*SP) (8*SP) uv uv uv (ck dM w) bY [] (.lst []) d) (ai rV [3] (ac (n+18)))›.trans (bJ ((be k5 (CY _ _ _)).trans lp))
 let' e4:run rV [] 4 (ac (n+18)) (iU (dZ a 0::q) (eD w)) ⟨[],Gi (cU a) w t d⟩=some (.ret (.glob 34),iU (dZ a 0::q) (eD w),⟨[],xe .mut (cU a) w t t.q d⟩):=‹run rV [] 4 (ac (n+18)) (iU (dZ a 0::q) (eD w)) (sX w t.g1 t.g2 (bN (cU a) t.h0) (bN 32 t.h1) (bN 2 t.h2) (ck dM w++aW (aY (cU a)) t.q 0) (bY++cr t.q.length 0) (aW (aY (cU a)) t.q 0) (aY (cU a) t.now) d)=ag (n+18) TO [.glob 8] (sX w t.g1 t.g2 (bN (cU a) t.h0) (bN 32 t.h1) (bN 2 t.h2) (ck dM w++aW (aY (cU a)) t.q 0) (bY++cr t.q.length 0) (aW (aY (cU a)) t.q 0) (aY (cU a) t.now) d) fun r=>(fi r.2 r.1).bind fun y=>some (.ret y.1,iU (dZ a 0::q) (eD w),y.2)›.trans ((ad (s':=⟨[],Gi (cU a) w t d⟩) (ae ‹aj [.glob 8]=true›) (LA (n:=n+12) hW hw G (by rw[lq];exact hl))).trans (aB (dP ‹aw (.glob 34)=true›)))
 exact qZ ‹(AQ rV Qa&&d8.contains Qa)=true› ‹bf rV [_,.lst _,D0]=some (MM _ _)› ((aa ‹aN rV [] 0=true› e0).trans ((aa ‹aN rV [] 1=true› ‹ah rV [] 1 (ac ((n+14)+4)) (wa _ (eD w)) (sB w d)=some (.next,wa _ (eD w),sB w d)›).trans ((aa On (‹ah rV [] 2 (ac (n+18)) (wa (dZ a 0::q) (eD w)) (sB w d)=ag (n+18) Vf [.glob 2,D0] (sB w d) fun r=>some (.next,wa (dZ a 0::q) (eD w)++[(2003792491,r.1)],r.2)›.trans (ad (s':=sB w d) (ae ‹aj [.glob 2,D0]=true›) (bx ‹ws.map (fun w=>af ((n+6)+12) Vf [.glob 2,D0] (gB w d))=ws.map fun w=>some (.glob 8,gS (k0 w) d)› w hw)):ah rV [] 2 (ac (n+18)) (wa (dZ a 0::q) (eD w)) (sB w d)=some (.next,iU (dZ a 0::q) (eD w),sS (k0 w) d))).trans ((aa Pw e3).trans e4)))) rfl (Mr ..)
noncomputable def Oh:PV->Bool
|.glob _=>false
|z=>true
def ur(X:Zi):Bool:=X.all fun x=>aw x.1&&aw x.2&&(bF 2 x.1&&bF 2 x.2&&Oh x.2)
def xd{X Y:Zi}(h1:ur X=true)(h2:ur Y=true):ur (X++Y)=true:=by unfold ur at*;rw[List.all_append,h1,h2];rfl
def JI(W:Nat)(t:Ts)(q:List Rw):∀(i:Nat),ur (aW (gF W t) q i)=true:=by
 induction q with
|nil=>intro _;exact rfl
|cons r q ih=>intro i;exact(Xp _ _).mpr ⟨‹(aw (eK ((119+i:Nat)))&&aw (gF W t r)&&(bF 2 (eK ((119+i:Nat)))&&bF 2 (gF W t r)&&Oh (gF W t r)))=true›,ih (i+1)⟩
def J1(k:Nat):∀(i:Nat),ur (cr k i)=true:=by
 induction k with
|zero=>intro _;exact rfl
|succ k ih=>intro i;exact(Xp _ _).mpr ⟨‹(aw (.int ((119+i:Nat)))&&aw (.int 1)&&(bF 2 (.int ((119+i:Nat)))&&bF 2 (.int 1)&&Oh (.int 1)))=true›,ih (i+1)⟩
def rz(x:PV×PV)(r:Zi):cJ (x::r)=(aw x.1&&aw x.2&&cJ r):=by rfl'
def rQ(x:PV×PV)(r:Zi):fx 2 (x::r)=(bF 2 x.1&&bF 2 x.2&&fx 2 r):=by rfl'
def vZ{x:PV×PV}{r:Zi}(h:ur (x::r)=true):(aw x.1&&aw x.2)=true∧(bF 2 x.1&&bF 2 x.2)=true∧Oh x.2=true∧ur r=true:=by obtain⟨h,hr⟩:=(Xp _ _).mp h;obtain⟨h1,h⟩:=(Xp _ _).mp h;obtain⟨h2,h3⟩:=(Xp _ _).mp h;exact⟨h1,h2,h3,hr⟩
def CC{X:Zi}:ur X=true->cJ X=true:=by
 induction X with
|nil=>
  intro _
  rfl'
|cons x r ih=>intro h;obtain⟨h1,_,_,hr⟩:=vZ h;rw[rz,h1,ih hr];rfl
def AW{X:Zi}:ur X=true->fx 2 X=true:=by
 induction X with
|nil=>
  intro _
  rfl'
|cons x r ih=>intro h;obtain⟨_,h1,_,hr⟩:=vZ h;rw[rQ,h1,ih hr];rfl
def J9(g:List Ent)(n:Nat){v:PV}(h:bF 2 v=true)(hg:Oh v=true):dO 2 g (n+1) v=some v:=by
 cases v with
|glob i=>injection hg
|none=>rfl'
|bool _=>rfl'
|int _=>rfl'
|str _=>rfl'
|bytes _=>rfl'
|_=>exact Yh h
def Hf(g:List Ent)(n:Nat){X:Zi}:ur X=true->dm (fun(x:PV×PV)=>if bF 2 x.1 then(dO 2 g (n+1) x.2).bind fun v=>some (x.1,v) else none) X=some X:=by
 induction X with
|nil=>intro _;exact rfl
|cons x r ih=>intro h;obtain⟨_,h1,h2,hr⟩:=vZ h;obtain⟨b1,b2⟩:=(Xp _ _).mp h1;refine(?_:((if bF 2 x.1=true then(dO 2 g (n+1) x.2).bind fun v=>some (x.1,v) else none).bind fun v=>(dm _ r).bind fun l=>some (v::l))=_);rw[Yh b1,J9 g n b2 h2];refine(?_:(dm _ r).bind _=_);rw[ih hr];rfl
def CT(g:List Ent)(n i:Nat){X:Zi}{k:Lk}(hi:¬i<2)(e:g[i]?=some ⟨.dct X,k⟩)(h:ur X=true):dO 2 g (n+2) (.glob i)=some (.dct X):=by refine(?_:(if i<2 then none else(g[i]?).bind _)=_);rw[Yg hi,e];refine(?_:(dm _ X).bind _=_);rw[Hf g n h];rfl
section
variable(w ZD g2:Nat)(l0 l1 l2:ZF)(X Y Z:Zi)(h:PV)(d:Dk)(f:Nat×Nat×Nat)(X2 Y2:Zi)
def Lm:eU (g1 d) (some (.glob 34,gE .mut w l0 l1 l2 X Y Z ZD g2 h f X2 Y2 d))=(dO 2 (gE .mut w l0 l1 l2 X Y Z ZD g2 h f X2 Y2 d) 8 (.glob 34)).bind fun v=>JS d.1 (some (v,g1 d)):=by rfl'
def JM(hX:ur X2=true)(hY:ur Y2=true):eU (g1 d) (some (.glob 34,gE .mut w l0 l1 l2 X Y Z ZD g2 h f X2 Y2 d))=some (bw X2 Y2 f,g1 d):=by
 let' e2:=CT (gE .mut w l0 l1 l2 X Y Z ZD g2 h f X2 Y2 d) 5 36 (by decide) ‹_=some (dE _)› hY;let' e:dO 2 (gE .mut w l0 l1 l2 X Y Z ZD g2 h f X2 Y2 d) 8 (.glob 34)=some (bw X2 Y2 f):=‹_=(((dO 2 (gE .mut w l0 l1 l2 X Y Z ZD g2 h f X2 Y2 d) 7 (.glob 35)).bind fun v=>some (499850046565,v)).bind fun a=>(((dO 2 (gE .mut w l0 l1 l2 X Y Z ZD g2 h f X2 Y2 d) 7 (.glob 36)).bind fun v=>some (30521817456538484,v)).bind fun b=>some [b,(28817527407604339,fV f),(422541747571,BS)]).bind fun l=>some (a::l)).bind fun l=>some (PV.inst 5002484806629356659 l)›.trans (by rw[(CT (gE .mut w l0 l1 l2 X Y Z ZD g2 h f X2 Y2 d) 5 35 (by decide) ‹_=some (dE _)› hX),e2];rfl)
 exact(Lm ..).trans ((aB e).trans (nM _ _))
end
noncomputable def QK(f:Nat×Nat×Nat)(w:Nat)(x:Int):List El:=
 if x=97 then[(40000*f.1,32*f.2.1,2*f.2.2,false)] else if x=98 then[(40001*f.1,32*f.2.1,2*f.2.2,false)] else if x=99 then[(40002*f.1,32*f.2.1,2*f.2.2,false)] else if x=65 then[(40000*f.1,32*f.2.1,8*f.2.2,false)]
 else if x=768 then[(0*f.1,33*f.2.1,2*f.2.2,false)] else if x=45 then[(w*f.1,32*f.2.1,2*f.2.2,true)] else if x=95 then[(201*f.1,32*f.2.1,2*f.2.2,true)] else[]
def wh(f:Nat×Nat×Nat)(w:Nat):d6 (fun x=>(aC (ck f w) (eK x),aC bY (.int x),decide ((QK f w x).length≤2))) OQ=OQ.map fun x=>(some (some (lE (QK f w x))),some (some (.int 1)),true):=by rfl'
def pZ{k v:PV}{r:Zi}{l:Zi}:aC l k=some (some v)->aC (l++r) k=some (some v):=by
 induction l with
|nil=>intro h;exact nomatch h
|cons y l ih=>
  intro h;let' h:(dU y.1 k).bind (fun b=>if b then some (some y.2) else aC l k)=some (some v):=h;refine(?_:(dU y.1 k).bind (fun b=>if b then some (some y.2) else aC (l++r) k)=_);cases e:dU y.1 k with
  |none=>rw[e] at h;injection h
  |some b=>
   rw[e] at h;cases b with
   |true=>exact h
   |false=>refine(?_:aC (l++r) k=_);exact ih h
theorem Bp{α:Type}(f:α->PV){r:α}:∀(q:List α) (i m:Nat),q[m]?=some r->aC (aW f q i) (eK ((119+(i+m):Nat)))=some (some (f r))
|y::q,i,0,h=>by obtain rfl:y=r:=Xn h;refine(?_:(if(((119+i:Nat):Int)==((119+i:Nat):Int)&&true)=true then some (some (f y)) else _)=_);rw[Y5];rfl
|y::q,i,m+1,h=>by let' e:=Bp f q (i+1) m h;rw[XD i 1] at e;refine(?_:(if(((119+i:Nat):Int)==((119+(i+(m+1)):Nat):Int)&&true)=true then _ else aC (aW f q (i+1)) (eK ((119+(i+(m+1)):Nat))))=_);rw[Br (Yi (XT _))];exact e
theorem Bn:∀(k i m:Nat),m<k->aC (cr k i) (.int ((119+(i+m):Nat)))=some (some (.int 1))
|k+1,i,0,h=>by refine(?_:(if(((119+i:Nat):Int)==((119+i:Nat):Int))=true then some (some (PV.int 1)) else _)=_);rw[Y5];rfl
|k+1,i,m+1,h=>by let' e:=Bn k (i+1) m (Yv h);rw[XD i 1] at e;refine(?_:(if(((119+i:Nat):Int)==((119+(i+(m+1)):Nat):Int))=true then _ else aC (cr k (i+1)) (.int ((119+(i+(m+1)):Nat))))=_);rw[Br (Yi (XT _))];exact e
noncomputable def vy:Zi->Prop
|[]=>True
|x::r=>(∃i,x.1=eK i)∧vy r
def Az(x y:Int){X:Zi}:vy X->aC X (.tup [.int x,.int y])=some none:=by
 induction X with
|nil=>intro _;exact rfl
|cons q0 r ih=>obtain⟨k,v⟩:=q0;rintro⟨⟨i,e⟩,h⟩;obtain rfl:k=eK i:=e;refine(?_:(if((i==x)&&false)=true then some (some v) else aC r _)=_);rw[Bool.and_false];exact(ih h)
def GF{X:Zi}:∀{Y:Zi},vy X->vy Y->vy (X++Y):=by
 induction X with
|nil=>intro _ _ h;exact h
|cons _ _ ih=>intro _ h1 h2;exact⟨h1.1,ih h1.2 h2⟩
def JN(f:Nat×Nat×Nat)(w:Nat):vy (ck f w):=⟨⟨_,rfl⟩,⟨_,rfl⟩,⟨_,rfl⟩,⟨_,rfl⟩,⟨_,rfl⟩,⟨_,rfl⟩,⟨_,rfl⟩,⟨_,rfl⟩,trivial⟩
def Js{α:Type}(f:α->PV)(q:List α):∀(i:Nat),vy (aW f q i):=by
 induction q with
|nil=>intro _;exact trivial
|cons r q ih=>intro i;exact⟨⟨_,rfl⟩,ih (i+1)⟩
def ON(W:Nat)(t:Ts)(r:Rw):El:=(rH W t.h0 r.1,rH 32 t.h1 r.2.1,rH 2 t.h2 r.2.2,false)
def Q0(W w:Nat)(t:Ts)(x:Int):List El:=if 119≤x∧x<123 then(match t.q[(x-119).toNat]? with
|some r=>[ON W t r]
|none=>OO (dH t) (x.toNat+32768)) else QK (om t) w x
def Mf(W w:Nat)(t:Ts):Zi:=ck (om t) w++aW (gF W t) t.q 0
def LV(t:Ts):Zi:=bY++cr t.q.length 0
def Am:∀x∈sg,x∈OQ∧¬(119≤x∧x<123)∨∃m,(m∈m4∧x=((119+m:Nat):Int)):=by
 intro x hx;have:∀x∈sg,(x∈OQ∧¬(119≤x∧x<123))∨(∃m,(m∈m4∧x=((119+m:Nat):Int))):=by decide
 exact this x hx
def Ot:∀m∈m4,m<4∧((119≤((119+m:Nat):Int)∧((119+m:Nat):Int)<123)∧((((119+m:Nat):Int)-119).toNat=m∧(119+m)∈Pm)):=by decide
def H9{W w:Nat}{t:Ts}{x:Int}(h:¬(119≤x∧x<123)):Q0 W w t x=QK (om t) w x:=Yg h
def Ix{W w:Nat}{t:Ts}{m:Nat}(h:m∈m4):Q0 W w t ((119+m:Nat))=(match t.q[m]? with
|some r=>[ON W t r]
|none=>OO (dH t) (119+m+32768)):=by
 obtain⟨_,h1,h2,_⟩:=Ot m h;unfold Q0;rw[Yh h1,h2];rfl
def LK(W w:Nat)(t:Ts):bU (Mf W w t) (LV t) (dH t) (Q0 W w t) where
 lg x hx:=by
  rcases Am x hx with⟨hb,_⟩|⟨m,hm,rfl⟩
  ·exact .inr (pZ (YH (·.2.1) (aE (wh (om t) w) x hb)))
  ·let' b:=YH Prod.snd (aE (jY (1,1,1) 0) m hm);rcases Nat.lt_or_ge m t.q.length with l|l
   ·have:=Bn t.q.length 0 m l;rw[Xz] at this;exact .inr ((ef b).trans this)
   ·exact .inl ((ef b).trans (xD _ 0 m (by rw[Xz];exact l)))
 one x hx:=by
  rcases Am x hx with⟨hb,hn⟩|⟨m,hm,rfl⟩
  ·rw[H9 hn];exact .inl (pZ (YH (·.1) (aE (wh (om t) w) x hb)))
  ·let' b:=YH Prod.fst (aE (jY (om t) w) m hm);rw[Ix hm];cases e:t.q[m]? with
   |some r=>have:=Bp (gF W t) t.q 0 m e;rw[Xz] at this;exact .inl ((ef b).trans this)
   |none=>exact .inr ⟨(ef b).trans (qN _ _ 0 m (by rw[Xz];exact List.getElem?_eq_none_iff.mp e)),119+m,(Ot m hm).2.2.2,rfl,rfl⟩
 two x y:=Az x y (GF (JN _ _) (Js _ _ _))
 len x hx:=by
  rcases Am x hx with⟨hb,hn⟩|⟨m,hm,rfl⟩
  ·rw[H9 hn];exact Ye (YH (·.2.2) (aE (wh (om t) w) x hb))
  ·rw[Ix hm];cases t.q[m]? with
   |some r=>exact Nat.le_succ 1
   |none=>exact Xx 2
def zM(W w:Nat)(t:Ts):ur (Mf W w t)=true:=xd (by rfl') (JI ..)
def zA(t:Ts):ur (LV t)=true:=xd (by rfl') (J1 ..)
def B3(W w:Nat)(t:Ts):bR (Mf W w t) (LV t):=⟨CC (zM W w t),CC (zA t)⟩
def JK(n:Nat){a w:Nat}{ss:List Nat}{q:List PV}(d:Dk)(ha:a∈k7)(hw:w∈ws)(hs:∀s∈ss,s∈nW)(hl:ss.length≤4)(h:i9 ss 0 q):∃t,mj t∧t.q.length≤4∧af (n+19) Qa [eD w,.lst (dZ a 0::q),D0] (g1 d)=some (bw (Mf (cU a) w t) (LV t) (dH t),g1 d):=by obtain⟨t,G,e,k⟩:=P7 n d ha hw hs hl h;exact⟨t,G,e▸hl,k.trans (JM _ _ _ _ _ _ _ _ _ _ _ _ _ _ (zM ..) (zA t))⟩
def TW:Nat:=1760250341482985251941
def UX:Nat:=158
def ī:List Nat:=[1,3,4,5,6]
section
variable(n:Nat)(P:PV)(d:Dk)(k:Int)(t l:Zi)(f:Nat×Nat×Nat)
def RY:YA:=[(1885431653,P),(1684108385,D0)]
def JF:YA:=RY P++[(1836409704,.int k)]
def zC(n:Nat)(P:PV)(w:Int)(d:Dk)(K:PV×St->Option R3):Option R3:=ag n SX [.int w] (s0 d) fun r=>ag n QI [P] r.2 fun q=>ag n Qa [r.1,q.1,D0] q.2 K
def Uv(n:Nat)(P:PV)(y:PV×St):Option R3:=oq n y.1 28817527407604339 y.2 fun z=>(item z.2 z.1 (.int 0)).bind fun v=>some (.next,RY P++[(1836409704,v)],z.2)
def VF:Uv n P (bw t l f,s0 d)=some (.next,JF P f.1,s0 d):=by rfl'
def Wn(B:List UInt8):d6 (fun k:Nat=>run UX [] 1 (ac n) (JF (.bytes B) k) (s0 d)) ī=ī.map fun k:Nat=>zC n (.bytes B) ((65535/k:Nat)) d fun y=>(fi y.2 y.1).bind fun y=>some (.ret y.1,JF (.bytes B) k,y.2):=by rfl'
def VV:eU (g1 d) (some (bw t l f,g1 d))=(if(fx 2 t&&(fx 2 l&&true))=true then some (bw t l f) else none).bind fun v=>JS d.1 (some (v,g1 d)):=by rfl'
end
def uo(n:Nat){a w:Nat}{ss:List Nat}(d:Dk)(ha:a∈k7)(hw:w∈ws)(hs:∀s∈ss,s∈nW)(hl:ss.length≤4):∃t,mj t∧t.q.length≤4∧∀K,zC (n+19) (.bytes (mX a ss)) (w:Nat) d K=K (bw (Mf (cU a) w t) (LV t) (dH t),s0 d):=by obtain⟨q,hq,rd⟩:=MT (n+14) d ha hs hl;obtain⟨t,G,l,k⟩:=JK n d ha hw hs hl hq;refine⟨t,G,l,fun K=>?_⟩;exact(ad (s':=s0 d) (ae ‹_=true›) (MO (n+11) w d)).trans ((ad (s':=s0 d) (ae ‹_=true›) rd).trans (ad (s':=s0 d) (ae (aJ (xN w) (aJ (dC (aJ (DM a 0) (vr ss 0 q hq))) (aJ cK am)))) k))
def Fm:∀n≤4,(if n=0 then 1 else n+2)∈ī:=by decide
def Fz(h:List Bool):fW h=if h.length=0 then 1 else h.length+2:=by cases h<;>rfl
def Lf:∀k∈ī,65535/k∈ws:=by decide
def xQ(n:Nat){a:Nat}{ss:List Nat}(d:Dk)(ha:a∈k7)(hs:∀s∈ss,s∈nW)(hl:ss.length≤4):∃t l f el,bU t l f el∧bR t l∧af (n+20) TW [.bytes (mX a ss),D0] (g1 d)=some (bw t l f,g1 d):=by
 obtain⟨t1,G1,l1,k1⟩:=uo n (w:=300) d ha (by decide) hs hl;have hk:(dH t1).1∈ī:=by refine(?_:1*fW t1.h0∈ī);rw[Nat.one_mul,Fz];exact Fm _ (Xk G1.l0 l1)
 obtain⟨t,G,l,k⟩:=uo n (w:=65535/(dH t1).1) d ha (Lf _ hk) hs hl;let' Ŭ:aw (bw (Mf (cU a) (65535/(dH t1).1) t) (LV t) (dH t))=true:=(B3 _ _ _).nl;let' e2:=(aE (Wn (n+19) d (mX a ss)) _ hk).trans ((k _).trans (aB (dP Ŭ)));refine⟨_,_,_,_,LK (cU a) (65535/(dH t1).1) t,B3 _ _ _,(qZ (by rfl') (by rfl') ((aa (by rfl') (‹ah UX [] 0 (ac (n+19)) (RY (.bytes (mX a ss))) (s0 d)=zC (n+19) (.bytes (mX a ss)) 300 d (Uv (n+19) (.bytes (mX a ss)))›.trans ((k1 _).trans (VF (n+19) (.bytes (mX a ss)) d _ _ _)))).trans e2) rfl (ak _)).trans ((VV ..).trans ((aB (gM ?_)).trans (nM _ _)))⟩
 rw[AW (zM ..),AW (zA t)];rfl
def Vh:Nat:=7102839
def fe:Nat:=163
noncomputable def T1:List Nat:=[97,98,65,119,120,45,45,95,768,173]
def yF:PV:=.lst (T1.map eI)
def F1(n:Nat)(k:Int)(f:PV->List PV->St->Option (List PV×St))(s:St):Option (PV×St):=((((ag n zm [.glob 1,.int k] s some).bind fun y=>some ([y.1],y.2)).bind fun y=>(fA y.1).bind fun l=>some (l,(none:Option PV),y.2)).bind fun y=>(ar f y.1 [] y.2.2).bind fun z=>some (z.1,aO z.2 y.2.1)).bind fun y=>some (PV.lst y.1,y.2)
def y7(r:PV×St)(K:St->Option (Bool×St)):Option (Bool×St):=(cX r.1).bind fun b=>if(!b)=true then some (true,r.2) else K r.2
section
variable(n:Nat)(d:Dk)(SC T:PV)(tx pt:List PV)(i at_:Int)
noncomputable def FN:YA:=[(126870958469236,SC)]
def Ek:YA:=FN SC++[(1684366187,.glob 1),(1684108385,D0)]
def wo:YA:=Ek SC++[(499850046565,T),(495689625203,yF)]
def lL:YA:=wo SC T++[(1952807028,.lst tx)]
def x9:YA:=lL SC T tx++[(1953854062,.int i)]
def og:YA:=lL SC T tx++[(1953854062,.int i),(31632350188499566,.lst pt)]
def yA:YA:=og SC T tx pt i++[(24948,.int at_)]
def MZ:run fe [(4,true),(1,false)] 0=fun z vs s=>some (.next,vs,s):=by rfl'
def Rj:ah fe [(4,true),(1,true)] 0 (ac n) (og SC T tx pt i) (s0 d)=ag n zm [.glob 1,.int tx.length] (s0 d) fun r=>some (.next,og SC T tx pt i++[(24948,r.1)],r.2):=by rfl'
def xS(E:YA):aA (lL SC T tx) (lL SC T tx++E)=lL SC T tx:=by rfl'
end
def Dl:aN fe [(4,true)] 1=true:=by rfl'
def vq:kK fe [(4,true)] 1=true:=by rfl'
def Ki:∀k∈T1,(k:Int)∈sg:=by decide
def E4(n:Nat){b:Nat}{d:Dk}(hb:b≤1000)(h:dQ d b):∃k:Int,k∈sg∧∃d',af (n+2) D5 [.glob 1,yF] (g1 d)=some (.int k,g1 d')∧dQ d' (b+1):=by obtain⟨x,hx,d',e,h'⟩:=BP n (A:=T1.map eI) (by decide) (fun x hx=>by obtain⟨k,_,rfl⟩:=Yt.mp hx;rfl) hb h;obtain⟨k,hk,rfl⟩:=Yt.mp hx;exact⟨k,Ki k hk,d',e,h'⟩
def GX(n:Nat){f:PV->List PV->St->Option (List PV×St)}(hf:∀k acc d,f k acc (s0 d)=(ag (n+2) D5 [.glob 1,yF] (s0 d) some).bind fun r=>if aq (acc++[r.1])=true then some (acc++[r.1],r.2) else none)(ks:List PV):∀(b:Nat) (acc:List PV) (d:Dk),dQ d b->b+ks.length≤1000->acc.length+ks.length≤900->∃L:List Int,L.length=ks.length∧(∀y∈L,y∈sg)∧∃d',dQ d' (b+ks.length)∧ar f ks acc (s0 d)=some (acc++L.map .int,s0 d'):=by
 induction ks with
|nil=>intro b acc d h _ _;exact⟨[],rfl,fun z h=>(nomatch h),d,h,by rw[List.map_nil,Xu];rfl⟩
|cons x ks ih=>
  intro b acc d h hb hz;rw[XG] at hb hz;obtain⟨k,hk,d1,e,h1⟩:=E4 n (Xk (XH _ _) hb) h;obtain⟨L,l1,l2,d',h2,e2⟩:=ih (b+1) (acc++[.int k]) d1 h1 (by rw[XD];exact hb) (by
   rw[Xl,XS];show acc.length+(1+ks.length)≤900;rw[XZ 1];exact hz)
  let' st:f x acc (s0 d)=some (acc++[.int k],s0 d1):=(hf x acc d).trans ((aB (ad (s':=s0 d) (ae ‹_=true›) e)).trans (gM (yv (XQ (Xk (XH _ _) hz) (by decide)):aq (acc++[PV.int k])=true)));refine⟨k::L,YH (·+1) l1,fun y hy=>(Xo.mp hy).elim (fun e=>e▸hk) (l2 y),d',by rw[XG,<-XS,XD];exact h2,?_⟩;rw[Xr] at e2;exact(aB (f:=fun y:List PV×St=>ar f ks y.1 y.2) st).trans e2
def sr(k:Int):aj [.glob 1,.int k]=true:=by rfl'
def wD(n:Nat){f:PV->List PV->St->Option (List PV×St)}(hf:∀k acc d,f k acc (s0 d)=(ag (n+2) D5 [.glob 1,yF] (s0 d) some).bind fun r=>if aq (acc++[r.1])=true then some (acc++[r.1],r.2) else none){m b:Nat}{d:Dk}(hm:m∈ks)(h:dQ d b)(hb:b≤900):∃L:List Int,L.length<m∧(∀y∈L,y∈sg)∧∃d',dQ d' (b+10)∧F1 (n+2) (m:Nat) f (s0 d)=some (.lst (L.map .int),s0 d'):=by
 obtain⟨v,d1,e,v0,v1,h1⟩:=nN (n+1) hm (Xk hb (by decide)) h;obtain⟨k,rfl⟩:=Int.eq_ofNat_of_zero_le v0;have km:=Yo.mp v1;have ŭ:m≤10:=(show ∀m∈ks,m≤10 by decide) m hm;have rg:fA [PV.int (k:Nat)]=some ((List.range' 0 k).map eI):=by rw[tV,<-Zh];exact dw (Xk (XW km) (Xk ŭ (by decide)))
 have ln:((List.range' 0 k).map eI).length=k:=by rw[Xm,List.length_range']
 obtain⟨L,l1,l2,d',h2,e2⟩:=GX n hf ((List.range' 0 k).map eI) (b+1) [] d1 h1 (by rw[ln];exact Xk (XR (XJ hb 1) (Xk (XW km) ŭ)) (by decide)) (by rw[ln];exact Xk (XA (Xk (XW km) ŭ) _) (by decide));rw[ln] at l1 h2;refine⟨L,l1▸km,l2,d',⟨h2.len,h2.m0,h2.t0,Yj h2.t1 (Yp.mpr ?_)⟩,?_⟩
 ·rw[XS];exact XA (by rw[XZ];exact Xk km ŭ) b
 ·have c1:(ag (n+2) zm [.glob 1,.int (m:Nat)] (s0 d) some)=some (.int (k:Nat),s0 d1):=ad (s':=s0 d) (ae (sr _)) e;delta F1;rw[c1];refine(?_:((((fA [PV.int (k:Nat)]).bind fun l=>some (l,(none:Option PV),s0 d1)).bind fun y=>(ar f y.1 [] y.2.2).bind fun z=>some (z.1,aO z.2 y.2.1)).bind fun y=>some (PV.lst y.1,y.2))=_);rw[rg];refine(?_:(((ar f ((List.range' 0 k).map eI) [] (s0 d1)).bind fun z=>some (z.1,aO z.2 none)).bind fun y=>some (PV.lst y.1,y.2))=_);rw[e2];rfl
def Ep{α β:Type}(g:α->β)(L:List α)(a b:Option Int):gI (L.map g) a b=(gI L a b).map g:=by unfold gI;rw[Xm,List.map_take,List.map_drop]
def EK{α:Type}{L:List α}{a b:Option Int}{x:α}(h:x∈gI L a b):x∈L:=List.mem_of_mem_drop (List.mem_of_mem_take h)
def GS{α:Type}(L:List α)(a b:Option Int):(gI L a b).length≤L.length:=by unfold gI;rw[Yr,YN];exact Xk (Nat.min_le_right _ _) (YM _ _)
def Sg(L:List Int):Prop:=L.length≤9∧∀y∈L,y∈sg
def Bs{t l:Zi}{f:Nat×Nat×Nat}(N:bR t l)(M L:List Int):aj [.lst (M.map .int),.lst (L.map .int),bw t l f,D0]=true:=aJ (dC (fK M)) (aJ (dC (fK L)) (aJ N.nl (aJ cK am)))
section
variable{n b:Nat}{d:Dk}{SC:PV}{L M:List Int}{t l:Zi}{f:Nat×Nat×Nat}{el:Int->List El}{i:Int}
def wQ{s:St}{K:St->Option (Bool×St)}:y7 (.bool true,s) K=K s:=rfl
def Fy(T:bU t l f el)(N:bR t l)(hL:Sg L)(hM:Sg M)(E:YA):bn fe [(4,true)] 2 (ac (n+18)) (og SC (bw t l f) (L.map .int) (M.map .int) i++E) (s0 d)=some (false,s0 d):=by
 let' k1:=(ad (K:=fun r=>y7 r fun s=>ag (n+18) Jj [.lst (M.map .int),.lst (M.map .int),bw t l f,D0] s fun r=>y7 r fun s=>some (false,s)) (s:=s0 d) (s':=s0 d) (ae (Bs N M L)) (C8 (n:=n) T N (Xk hL.1 (by decide)) hL.2 (Xk hM.1 (by decide)) hM.2)).trans wQ;exact‹_=ag (n+18) Jj [.lst (M.map .int),.lst (L.map .int),(bw t l f),D0] (s0 d) fun r=>y7 r fun s=>ag (n+18) Jj [.lst (M.map .int),.lst (M.map .int),(bw t l f),D0] s fun r=>y7 r fun s=>some (false,s)›.trans (k1.trans ((ad (K:=fun r=>y7 r fun s=>some (false,s)) (s:=s0 d) (s':=s0 d) (ae (Bs N M M)) (C8 (n:=n) T N (Xk hM.1 (by decide)) hM.2 (Xk hM.1 (by decide)) hM.2)).trans wQ))
def JR(hL:Sg L)(ne:L.length∈ks)(hb:b≤900)(h:dQ d b){T:PV}{pt:List PV}:∃M,Sg M∧∃a d',dQ d' (b+3)∧run fe [(4,true),(1,true)] 0 (ac (n+18)) (og SC T (L.map .int) pt i) (s0 d)=some (.next,og SC T (L.map .int) (M.map .int) i++[(24948,.int a)],s0 d'):=by
 obtain⟨a,d1,e1,_,_,h1⟩:=nN (n+17) ne (Xk hb (by decide)) h;let' c1:=(Rj (n+18) d SC T (L.map .int) pt i)
 rw[Xm] at c1;obtain⟨v,d2,e2,_,_,h2⟩:=nN (n+17) (k:=3) (by decide) (Xk (XJ hb 1) (by decide)) h1;have c2:=‹ah fe [(4,true),(1,true)] 1 (ac (n+18)) (yA SC T (L.map .int) pt i a) (s0 d1)=((((ag (n+18) zm [.glob 1,.int 3] (s0 d1) some).bind fun y=>(aZ y.1).bind fun k=>some (PV.int (a+1+k),y.2)).bind fun y=>(aZ y.1).bind fun k=>some (some k,y.2)).bind fun y=>some (PV.lst (gI (L.map .int) (some a) y.1),y.2)).bind fun y=>some (.next,lL SC T (L.map .int)++[(1953854062,.int i),(31632350188499566,y.1),(24948,.int a)],y.2)›.trans (aB (v:=(PV.lst ((gI L (some a) (some (a+1+v))).map .int),s0 d2)) (by
  rw[<-Ep];let' k:(ag (n+18) zm [.glob 1,.int 3] (s0 d1) some)=some (.int v,s0 d2):=ad (s':=s0 d1) (ae (sr _)) e2;rw[k];rfl))
 let' hM:Sg (gI L (some a) (some (a+1+v))):=⟨Xk (GS ..) hL.1,fun y hy=>hL.2 y (EK hy)⟩
 generalize gI L (some a) (some (a+1+v))=M at c2 hM;obtain⟨u,d3,e3,_,_,h3⟩:=nN (n+17) (k:=3) (by decide) (Xk (XJ hb 2) (by decide)) h2;let' c3:=‹ah fe [(4,true),(1,true)] 2 (ac (n+18)) (yA SC T (L.map .int) (M.map .int) i a) (s0 d2)=ag (n+18) zm [.glob 1,.int 3] (s0 d2) fun r=>(aM r.2 .Eq r.1 (.int 0)).bind fun c=>if c=true then some (.next,yA SC T (L.map .int) (M.map .int).reverse i a,r.2) else some (.next,yA SC T (L.map .int) (M.map .int) i a,r.2)›.trans ((ad (s':=s0 d2) (ae (sr _)) e3).trans (aB (rG _ u 0)));have fin:∃M',Sg M'∧ah fe [(4,true),(1,true)] 2 (ac (n+18)) (yA SC T (L.map .int) (M.map .int) i a) (s0 d2)=some (.next,yA SC T (L.map .int) (M'.map .int) i a,s0 d3):=by
  cases hu:u==0 with
  |true=>refine⟨M.reverse,⟨by rw[YO];exact hM.1,fun y hy=>hM.2 y (List.mem_reverse.mp hy)⟩,c3.trans (by rw[hu,List.map_reverse];rfl)⟩
  |false=>exact⟨M,hM,c3.trans (by rw[hu];rfl)⟩
 obtain⟨M',Ř,c3⟩:=fin;exact⟨M',Ř,a,d3,h3,(aa (by rfl') (c1.trans (ad (s':=s0 d) (ae (sr _)) e1))).trans ((aa ‹aN fe [(4,true),(1,true)] 1=true› c2).trans (cz ‹aN fe [(4,true),(1,true)] 2=true› ‹run fe [(4,true),(1,true)] 3=fun z vs s=>some (.next,vs,s)› c3))⟩
end
def dQ.mono{d:Dk}{a b:Nat}(h:dQ d a)(l:a≤b):dQ d b:=⟨h.len,h.m0,h.t0,Yj h.t1 (Yp.mpr l)⟩
def Km{L:List Int}(h:L.length≤9)(ne:L≠[]):L.length∈ks:=(show ∀m≤9,m≠0->m∈ks by decide) _ h fun e=>ne (List.eq_nil_of_length_eq_zero e)
def SK(r:PV×St):Option (Bool×St):=(aM r.2 .Eq r.1 (.int 0)).bind fun c=>if c=true then some (true,r.2) else some (false,r.2)
def JY(v:Int)(s:St):SK (.int v,s)=some (v==0,s):=by unfold SK;rw[rG];cases v==0<;>rfl
section
variable{n b:Nat}{d:Dk}{SC:PV}{L:List Int}{t l:Zi}{f:Nat×Nat×Nat}{el:Int->List El}{i:Int}
def xt(T:bU t l f el)(N:bR t l)(hL:Sg L)(hb:b≤500)(h:dQ d b):∃E d',dQ d' (b+20)∧ai fe [4] (ac (n+20)) (.int i) (lL SC (bw t l f) (L.map .int)) (s0 d)=some (.next,lL SC (bw t l f) (L.map .int)++E,s0 d'):=by
 obtain⟨M,m1,m2,d1,h1,c1⟩:=wD (n+18) (f:=aH fe [4,0] [] (ac (n+20)) (x9 SC (bw t l f) (L.map .int) i)) (fun k acc d=>‹aH fe [4,0] [] (ac (n+20)) (x9 SC (bw t l f) (L.map .int) i) k acc (s0 d)=(ag (n+20) D5 [.glob 1,yF] (s0 d) some).bind fun r=>if aq (acc++[r.1])=true then some (acc++[r.1],r.2) else none›) (m:=4) (by decide) h (Xk hb (by decide));let' hM:Sg M:=⟨Xk (XW m1) (by decide),m2⟩
 let' t0:=‹bn fe [(4,true)] 1 (ac (n+20)) (og SC (bw t l f) (L.map .int) (M.map .int) i) (s0 d1)=(aM (s0 d1) .NotEq (.lst (L.map .int)) (.lst [])).bind fun c=>if c=true then ag (n+20) zm [.glob 1,.int 2] (s0 d1) fun r=>(aM r.2 .Eq r.1 (.int 0)).bind fun c=>if c=true then some (true,r.2) else some (false,r.2) else some (false,s0 d1)›.trans (aB (IM _ L));let' b1:b+10≤900:=Xk (XJ hb 10) (by decide);have body:∃M',Sg M'∧∃E d',dQ d' (b+20)∧run fe [(4,true)] 1 (ac (n+20)) (og SC (bw t l f) (L.map .int) (M.map .int) i) (s0 d1)=run fe [(4,true)] 2 (ac (n+20)) (og SC (bw t l f) (L.map .int) (M'.map .int) i++E) (s0 d'):=by
  by_cases ne:L=[]
  ·let' t0:bn fe [(4,true)] 1 (ac (n+20)) (og SC (bw t l f) (L.map .int) (M.map .int) i) (s0 d1)=some (false,s0 d1):=t0.trans (by rw[Yc ne];rfl);exact⟨M,hM,[],d1,h1.mono (XA (show 10≤20 by decide) b),bk Dl vq t0 (YI (YI (YI MZ _) _) _)⟩
  ·obtain⟨v,d2,e2,_,_,h2⟩:=nN (n+19) (k:=2) (by decide) (Xk b1 (by decide)) h1;have t0:bn fe [(4,true)] 1 (ac (n+20)) (og SC (bw t l f) (L.map .int) (M.map .int) i) (s0 d1)=some (v==0,s0 d2):=t0.trans (by
    rw[Yd ne];exact(ad (K:=SK) (s:=s0 d1) (s':=s0 d1) (ae (sr _)) e2).trans (JY v _))
   cases hv:v==0 with
   |false=>rw[hv] at t0;exact⟨M,hM,[],d2,h2.mono (XA (show 11≤20 by decide) b),bk Dl vq t0 (YI (YI (YI MZ _) _) _)⟩
   |true=>rw[hv] at t0;obtain⟨M',Ř,a,d3,h3,c⟩:=JR (n:=n+2) (i:=i) (SC:=SC) (T:=bw t l f) (pt:=M.map .int) hL (Km hL.1 ne) (Xk (XJ hb 11) (by decide)) h2;exact⟨M',Ř,_,d3,h3.mono (XA (show 14≤20 by decide) b),bk Dl vq t0 c⟩
 obtain⟨M',Ř,E,d',h',k⟩:=body;let' lk:=Fy (n:=n+2) (d:=d') (SC:=SC) (i:=i) T N hL Ř E;let' r:=‹ai fe [4] (ac (n+20)) (.int i) (lL SC (bw t l f) (L.map .int)) (s0 d)=run fe [(4,true)] 0 (ac (n+20)) (x9 SC (bw t l f) (L.map .int) i) (s0 d)›.trans ((aa ‹aN fe [(4,true)] 0=true› (‹ah fe [(4,true)] 0 (ac (n+20)) (x9 SC (bw t l f) (L.map .int) i) (s0 d)=(F1 (n+20) 4 (aH fe [4,0] [] (ac (n+20)) (x9 SC (bw t l f) (L.map .int) i)) (s0 d)).bind fun y=>some (.next,x9 SC (bw t l f) (L.map .int) i++[(31632350188499566,y.1)],y.2)›.trans (aB c1))).trans (k.trans (cz ‹aN fe [(4,true)] 2=true› ‹run fe [(4,true)] 3=fun z vs s=>some (.next,vs,s)› ((bg ‹kK fe [(4,true)] 2=true› lk).trans (YI (YI (YI ‹run fe [(4,true),(2,false)] 0=fun z vs s=>some (.next,vs,s)› _) _) _)))))
 exact⟨[(1953854062,.int i),(31632350188499566,.lst (M'.map .int))]++E,d',h',r⟩
end
def TQ:mX 97 [1]=[38,97,32,60,32,119]:=by decide
def Mi(n:Nat)(l:List Int):∃g,af (n+21) Vh [.lst (l.map .int)] []=some (.bool true,g):=by
 obtain⟨d,e0,h0⟩:=Qd (n+19) l;let' s1:=‹ah fe [] 0 (ac (n+20)) (FN (.lst (l.map .int))) ⟨[],[]⟩=ag (n+20) Sc [.lst (l.map .int)] ⟨[],[]⟩ fun r=>ag (n+20) mW [] r.2 fun q=>some (.next,FN (.lst (l.map .int))++[(1684366187,r.1),(1684108385,q.1)],q.2)›.trans ((ad (s':=⟨[],[]⟩) (ae (aJ (dC (fK l)) am)) e0).trans (ad (A':=[]) (s':=s0 d) rfl ((YI (YI (YI (YI ‹F4=BZ› (n+11)) d.1) d.2.1) d.2.2).trans (nM _ _):af (n+20) mW [] (g1 d)=some (D0,g1 d))));obtain⟨a,ha,ss,⟨_,l4⟩,hs,d1,e1,h1⟩:=NZ (n+17) (b:=0) (by decide) h0
 obtain⟨t,tl,f,el,T,N,e2⟩:=xQ n d1 ha hs l4;obtain⟨L,m1,m2,d2,h2,c⟩:=wD (n+18) (f:=aH fe [3] [] (ac (n+20)) (wo (.lst (l.map .int)) (bw t tl f))) (fun k acc d=>‹aH fe [3] [] (ac (n+20)) (wo (.lst (l.map .int)) (bw t tl f)) k acc (s0 d)=(ag (n+20) D5 [.glob 1,yF] (s0 d) some).bind fun r=>if aq (acc++[r.1])=true then some (acc++[r.1],r.2) else none›) (m:=8) (by decide) h1 (by decide);let' hL:Sg L:=⟨Xk (XW m1) (by decide),m2⟩
 let' s4:=‹ah fe [] 3 (ac (n+20)) (wo (.lst (l.map .int)) (bw t tl f)) (s0 d1)=(F1 (n+20) 8 (aH fe [3] [] (ac (n+20)) (wo (.lst (l.map .int)) (bw t tl f))) (s0 d1)).bind fun y=>some (.next,wo (.lst (l.map .int)) (bw t tl f)++[(1952807028,y.1)],y.2)›.trans (aB c);obtain⟨E,d3,h3,k1⟩:=xt (n:=n) (i:=0) (SC:=.lst (l.map .int)) T N hL (by decide) h2;obtain⟨E',d4,h4,k2⟩:=xt (n:=n) (i:=1) (SC:=.lst (l.map .int)) T N hL (by decide) h3;let' s5:=‹ah fe [] 4 (ac (n+20)) (lL (.lst (l.map .int)) (bw t tl f) (L.map .int)) (s0 d2)=gC [.int 0,.int 1] (lL (.lst (l.map .int)) (bw t tl f) (L.map .int)) (s0 d2) (ai fe [4] (ac (n+20)))›.trans (bJ ((be k1 (xS _ _ _ _)).trans ((be k2 (xS _ _ _ _)).trans rfl)))
 obtain⟨t',tl',f',el',T',N',e3⟩:=xQ n d4 (a:=97) (ss:=[1]) (by decide) (by decide) (by decide);rw[TQ] at e3;let' pr:=C8 (n:=n+2) (d:=d4) (L:=[45,97]) (M:=[97,45]) T' N' (by decide) (by decide) (by decide) (by decide);let' s6:=‹run fe [] 5 (ac (n+20)) (lL (.lst (l.map .int)) (bw t tl f) (L.map .int)) (s0 d4)=ag (n+20) TW [.bytes [38,97,32,60,32,119],D0] (s0 d4) fun y=>ag (n+20) Jj [.lst [.int 97,.int 45],.lst [.int 45,.int 97],y.1,D0] y.2 fun r=>(fi r.2 r.1).bind fun y=>some (.ret y.1,lL (.lst (l.map .int)) (bw t tl f) (L.map .int),y.2)›.trans ((ad (s':=s0 d4) (ae (aJ (ve _) (aJ cK am))) e3).trans ((ad (s':=s0 d4) (ae (Bs N' [97,45] [45,97])) pr).trans (aB (dP rfl))))
 exact⟨_,ao ‹i5 fe Vh=true› ‹bf fe [.lst _]=some (FN (.lst _))› ((aa ‹aN fe [] 0=true› s1).trans ((aa ‹aN fe [] 1=true› (‹ah fe [] 1 (ac (n+20)) (Ek (.lst (l.map .int))) (s0 d)=ag (n+20) Ve [.glob 1] (s0 d) fun r=>ag (n+20) TW [r.1,D0] r.2 fun q=>some (.next,Ek (.lst (l.map .int))++[(499850046565,q.1)],q.2)›.trans ((ad (s':=s0 d) (ae ‹aj [.glob 1]=true›) e1).trans (ad (s':=s0 d1) (ae (aJ (ve _) (aJ cK am))) e2)))).trans ((aa ‹aN fe [] 2=true› ‹ah fe [] 2 (ac _) (Ek _++[(499850046565,_)]) (s0 _)=some (.next,wo _ _,s0 _)›).trans ((aa ‹aN fe [] 3=true› s4).trans ((aa ‹aN fe [] 4=true› s5).trans s6))))) rfl ‹di [] (g1 d4)=true›⟩
end Mine.Internal
end
open PySem PySem.W
theorem PySem.Challenge.cw_pq1310_01_holds : PySem.Challenge.rw_pq1310_01.Holds :=
 Mine.Internal.MY Mine.Internal.QX Mine.Internal.QD (fun z9 z9 S=>Mine.Internal.LN S) (fun l z9=>(Mine.Internal.Mi 0 l).elim fun g e=>⟨21,g,by decide,e⟩) Mine.Internal.NI
